import PyProof.Rows.All
import Wide.All
import OpenK.AllK
import Wide.FinOn
import HandS.ForMost
import PyProof.ReprReads
import KE.SortData
import HandS.HeadHook1
import HandS.TupAny
import HandS.Flow
import HandS.Deep
import HandS.Lambda
import HandS.Exc
import HandS.Style
import HandS.TupMul
import KE.KEqDict
import PyProof.EqKinds
import HandS.IsInst
import HandS.Star
import HandS.RaiseMore
import HandS.MakeKwOnly
import HandS.Property
import HandS.Zip
import HandS.Iter
import HandS.Walk
import HandS.NoneIn
import HandS.Comp
import HandS.More
import HandS.Small
import HandS.TupSets
import HandS.SortInts
import HandS.ListItems
import HandS.SetFor
import HandS.Strs
import HandS.Conv
import KE.GoesMore
import KE.KItemsList
import HandS.DictSub
import HandS.Remove
import PyProof.InstNe
import KE.KDictZip
import KE.KDictWalk
import HandS.DictComp
import HandS.SetKeys
import KE.KExcSuper
import HandS.ExcInit
import HandS.ExcOwn
import HandS.TryMany
import KE.KTryMore
import HandS.ExcField
import KE.KMinKey
import KE.SortKeyHeap
import HandS.ClsMeth
import HandS.Text
import HandS.HeadWalk
import HandS.FStr
import PyProof.Rows.StrJoinMade
import KE.KTab
import OpenK.KMeth
import KE.KOpsOwn
import KE.KDictList
import HandS.Replace
import PyProof.ReprNest
import HandS.Call
import HandS.HotCalls
import HandS.ExcValue
import KE.KExcIs
import HandS.Defaults
import HandS.HeadHook2
import HandS.ExcIs
import HandS.HeadHook4
import KE.KNestM
import HandS.Ends
import HandS.Head2
import PyProof.ReprLen
import PyProof.StrLawsRepr
import PySem.Challenge.RW_stillplaces_k01_limits_and_errors
set_option Elab.async false
set_option linter.all false
set_option maxRecDepth 100000
set_option maxHeartbeats 8000000
namespace SI
open PySem PySem.Spec PyProof.Rows L2
abbrev waa := @Bool.false_ne_true
abbrev wab := @Bool.and_eq_true
abbrev wac := @decide_eq_true_eq
abbrev wad := @List.getElem?_eq_getElem
abbrev wae := @Option.map_eq_some_iff
abbrev waf := @List.getElem?_eq_some_iff
abbrev wag := @List.all_eq_true
abbrev wah := @List.mem_cons_self
abbrev wai := @List.getElem?_set_ne
abbrev waj := @beq_iff_eq
abbrev wak := @List.mem_cons_of_mem
abbrev wal := @Option.bind_eq_some_iff
abbrev wam := @Bool.not_eq_true'
abbrev wan := @List.getElem?_set_self
abbrev wao := @wpAny_bind
abbrev wap := @Heap.get?_push_of_some
abbrev waq := @List.length_cons
abbrev war := @List.map_cons
abbrev was := @List.prefix_refl
abbrev wat := @List.eq_nil_of_length_eq_zero
abbrev wau := @Nat.le_trans
abbrev wav := @List.length_append
abbrev waw := @List.length_map
abbrev wax := @List.any_eq_true
abbrev way := @upd_same
abbrev waz := @List.length_set
abbrev waA := @Option.some.inj
abbrev waB := @List.mem_singleton
abbrev waC := @of_decide_eq_true
abbrev waD := @Bool.or_eq_true
abbrev waE := @List.mem_cons
abbrev waF := @List.drop_eq_getElem_cons
abbrev waG := @List.mem_append_right
abbrev waH := @wpAny_pure
abbrev waI := @List.size_toArray
abbrev waJ := @List.mem_append_left
abbrev waK := @Nat.le_refl
abbrev waL := @List.append_nil
abbrev waM := @List.getElem?_append_left
abbrev waN := @sizeLine_eq
abbrev waO := @SeqAt.canLay_of_shaped
abbrev waP := @List.mem_of_getElem?
abbrev waQ := @List.isEmpty_iff
abbrev waR := @List.all_cons
abbrev waS := @Heap.get?_push_size
abbrev waT := @List.contains_iff_mem
abbrev waU := @decide_eq_true
abbrev waV := @List.lookup_cons
abbrev waW := @Nat.lt_of_lt_of_le
abbrev waX := @Heap.lt_size
abbrev waY := @Nat.ne_of_lt
abbrev waZ := @List.mem_filterMap
abbrev wa0 := @List.length_replicate
abbrev wa1 := @List.mem_append
abbrev wa2 := @Bool.false_eq_true
abbrev wa3 := @List.getElem?_append_right
abbrev wa4 := @Nat.zero_le
abbrev wa5 := @Nat.lt_succ_self
abbrev wa6 := @beq_self_eq_true
abbrev wa8 := @List.length_eq_zero_iff
abbrev wa9 := @codeAny_mono
abbrev wba := @List.getElem?_map
abbrev wbb := @wpAny_loadPart_at
abbrev wbc := @List.drop_of_length_le
abbrev wbd := @call_meets
abbrev wbe := @congrArg
abbrev wbf := @List.getElem?_eq_none
abbrev wbg := @List.mem_map
abbrev wbh := @Calls.spliced_cons
abbrev wbi := @F.called_str
abbrev wbj := @Bool.and_eq_true_iff
abbrev wbk := @List.range_eq_range'
abbrev wbl := @PySem.W.looks_findIn
abbrev wbm := @not_mem_of_deeper
abbrev wbn := @List.append_inj
abbrev wbo := @Sem.wp_bind'
abbrev wbp := @Sem.wp_mono
abbrev wbq := @F.slot_list_repr
abbrev wbr := @BindsTo.of_looks
abbrev wbs := @wpAny_call
abbrev wbt := @wipe_length
abbrev wbu := @pure_bind
end SI
namespace SI
open PySem
abbrev Key := L2.Key
inductive T where
 | non | bl (b : Bool) | int (i : Int) | str (x : Str)
 | tup (xs : List T) | lst (xs : List T)
 | dic (ks : List Key) (vs : List T)
 | obj (c : Str) (ns : List Str) (vs : List T)
 | ref (n : Nat)
 
 | exn (a : Nat) (d : Option Nat) (ns : List Str) (vs : List T)
 
 | cls (c : Str)
 
 | exi (c : Str) (ns : List Str) (vs : List T)
 deriving Inhabited
mutual
def toD : T → PyData
 | .non => .none
 | .bl b => .bool b
 | .int i => .int i
 | .str x => .str x
 | .tup xs => .tuple (toDs xs)
 | .lst xs => .list (toDs xs)
 | .dic [] [] => .dict []
 | .dic _ _ => .none
 | .obj _ _ _ => .none
 | .ref _ => .none
 | .exn _ _ _ _ => .none
 | .cls _ => .none
 | .exi _ _ _ => .none
def toDs : List T → List PyData
 | [] => []
 | x :: xs => toD x :: toDs xs
end
def dat : Nat → T → Bool
 | _, .non => true
 | _, .bl _ => true
 | _, .int _ => true
 | _, .str _ => true
 | n + 1, .tup xs => xs.all (dat n)
 | n + 1, .lst xs => xs.all (dat n)
 | _, _ => false
def datX : Nat → T → Bool
 | _, .non => true
 | _, .bl _ => true
 | _, .int _ => true
 | _, .str _ => true
 | _, .dic [] [] => true
 | n + 1, .tup xs => xs.all (datX n)
 | n + 1, .lst xs => xs.all (datX n)
 | _, _ => false
def seqT : T → Bool
 | .tup _ => true
 | .lst _ => true
 | _ => false
abbrev jAa := List T
inductive Res (α : Type) where
 | ok (a : α) (C : jAa)
 | exc (x : T) (C : jAa)
 | stuck (why : String)
def M (α : Type) := jAa → Res α
namespace M
def pure (a : α) : M α := fun C => .ok a C
def bind (m : M α) (f : α → M β) : M β := fun C => match m C with
 | .ok a C' => f a C'
 | .exc x C' => .exc x C'
 | .stuck w => .stuck w
end M
instance : Monad M where
 pure := M.pure
 bind := M.bind
def stuck (w : String) : M α := fun _ => .stuck w
def need (w : String) (b : Bool) : M Unit := fun C => if b then .ok () C else .stuck w
def lift (w : String) : Option α → M α
 | some a => M.pure a
 | none => stuck w
inductive Bi where
 | len | int | abs | all | any | tuple | list | max2 | min2 | maxL | minL | maxV | sum | sorted | sortedSet | lenSet | repr | str | bool | dictP | dictZ | lrange | ddiv | zipL | zipT | sortK | eqSet | itemsL | sortedD | reprN
 deriving DecidableEq, Repr
inductive Bm where
 | index | count | split | join | values | get1 | get2 | countS | upper | countT | repl
 deriving DecidableEq, Repr
inductive Ty where
 | str | int | bool | tuple | list | cls (c : Str)
 deriving DecidableEq
inductive PArg where
 | arg (i : Nat) | dflt (j : Nat) (t : T)
inductive Hi where
 | con (t : T) | fld (f : Str) | rpr (f : Str)
inductive Hb where
 | lst (is : List Hi) | tup (is : List Hi) | con (t : T)
structure Hd where
 cs : List Str
 b : Hb
inductive Tg where
 | nm (i : Nat) | tp (is : List Nat) | tn (i : Nat) (is : List Nat)
 deriving DecidableEq
inductive Xo where
 | mk (c : Str) (ns : List Str) (pl : List PArg)
 | isx (all sub : List Str) (x : Str) (b : Bool)
 | fld (cs : List Str) (f : Str)
mutual
inductive Ex where
 | var (i : Nat)
 | con (t : T)
 | bin (op : Operator) (a b : Ex)
 | neg (a : Ex) | nt (a : Ex)
 | cmp (op : CmpOp) (a b : Ex)
 | chain (op op' : CmpOp) (a b c : Ex)
 | and (a b : Ex) | or (a b : Ex)
 | ite (c a b : Ex)
 | tup (es : Els) | lst (es : Els) | cel (es : Exs)
 | dsp (ds : Dps)
 | idx (a b : Ex) | slc (l h : Bool) (a lo hi : Ex) | rev (a : Ex)
 | call (f : Str) (es : Exs) | callk (f : Str) (pl : List PArg) (es : Exs)
 
 | told (f : Str) (hs : List Hd) (e : Ex)
 
 | toldC (ws : List Nat) (f : Str) (hs : List Hd) (g : Str) (np nn : Nat) (es : Exs) (ix : Bool) (kk : Nat) (xs : Exs)
 | new (c : Str) (pl : List PArg) (es : Exs)
 | meth (o : Ex) (c m : Str) (es : Exs)
 
 | methk (o : Ex) (c m : Str) (pl : List PArg) (es : Exs)
 
 | getc (x : Str) (D : List (Str × Int)) (e : Ex)
 
 | clsm (c m : Str) (pl : List PArg) (es : Exs)
 
 | newv (i : Nat) (c : Str) (pl : List PArg) (es : Exs)
 | attr (o : Ex) (c f : Str) | prop (o : Ex) (c f : Str)
 | bi (b : Bi) (es : Exs)
 | spec (c m : Str) (es : Exs)
 
 | own1 (c m : Str) (e : Ex)
 
 | eqo (cs : List Str) (a b : Ex)
 
 | eqc (ne : Bool) (c : Str) (ks : List Str) (a b : Ex)
 
 | eqi (ne : Bool) (c r : Str) (a b : Ex)
 
 | ownb (c : Str) (e : Ex)
 
 | ownr (c : Str) (e : Ex)
 
 | ownl (c : Str) (e : Ex)
 | bm (b : Bm) (o : Ex) (es : Exs)
 | isi (e : Ex) (ty : Ty) (ks : List Str)
 
 | isd (e : Ex) (ty : Ty) (ks : List Str)
 
 | own2 (c : Str) (a b : Ex)
 
 | ownin (ne : Bool) (c : Str) (a b : Ex)
 | lc (ws : List Nat) (tg : Tg) (src : Src) (cond elt : Ex)
 | lc2 (ws : List Nat) (tg : Tg) (src : Src) (cond : Ex) (tg' : Tg) (src' : Src) (cond' elt : Ex)
 | dc (ws : List Nat) (tg : Tg) (src : Src) (cond k v : Ex)
 | minBy (e : Ex) (i : Nat) (body : Ex)
 | fstr (es : Exs)
 | xo (k : Xo) (es : Exs)
 | lend (i : Nat) (e : Ex)
 | dead
inductive Exs where
 | nil | cons (e : Ex) (es : Exs)
inductive Els where
 | nil | one (e : Ex) (es : Els) | star (e : Ex) (es : Els)
inductive Dps where
 | nil | kv (k v : Ex) (r : Dps) | star (e : Ex) (r : Dps)
inductive Src where
 | of (e : Ex) | rng1 (a : Ex) | rng2 (a b : Ex) | rngD (a b c : Ex) | enm (e : Ex) | zip (a b : Ex) | itm (e : Ex) | kys (e : Ex)
end
mutual
inductive St where
 | set (i : Nat) (e : Ex)
 | par (is : List Nat) (es : Exs)
 | unp (is : List Nat) (e : Ex)
 | dvm (h k j : Nat) (a b : Ex)
 | setIx (x : Nat) (i e : Ex)
 | setAt (c f : Str) (e : Ex)
 
 | setIf (i : Nat) (c e : Ex)
 
 | setOwn (c : Str) (o i e : Ex)
 
 | setIxs (x : Nat) (ks : List Nat) (es : Exs)
 | aug (i : Nat) (op : Operator) (e : Ex)
 | app (x : Nat) (e : Ex) | ext (x : Nat) (e : Ex) | ins (x : Nat) (i e : Ex) | rem (x : Nat) (e : Ex)
 | pop (i x : Nat) | appPop (x y : Nat) (e : Ex)
 | exp (e : Ex)
 | ret (e : Ex)
 | ite (c : Ex) (a b : Ss)
 | for_ (tg : Tg) (src : Src) (body : Ss)
 | whl (c : Ex) (body : Ss)
 | raise (c : Str) (ns : List Str) (es : Exs)
 | try_ (b : Ss) (hs : List Hd)
 
 | tryA (i : Nat) (e : Ex) (b : Ss) (cs : List Str) (h : Ss)
 
 | tryX (i : Nat) (b : Ss) (cs : List Str) (h : Ex)
 
 | acts (i j : Nat) (f : Str) (hs : List Hd) (es : Exs) (rhs : Ex)
 
 | rzc (i : Nat) (c : Str) (ns : List Str) (es : Exs) (y : Nat) (f : Str)
 | pas | brk | cnt | dead
inductive Ss where
 | nil | cons (s : St) (r : Ss)
end
def szOk (n : Nat) : Bool := decide (n ≤ sizeLine)
def jE6 (i : Int) : Bool := decide (-(2 ^ 64) < i) && decide (i < 2 ^ 64)
def med (i : Int) : Bool := decide (-(2 ^ 62) ≤ i) && decide (i < 2 ^ 62)
def addT : T → T → Option T
 | .int a, .int b => some (.int (a + b))
 | .str a, .str b => if szOk (a.length + b.length) then some (.str (a ++ b)) else none
 | .lst a, .lst b => if szOk (a.length + b.length) then some (.lst (a ++ b)) else none
 | .tup a, .tup b => if szOk (a.length + b.length) then some (.tup (a ++ b)) else none
 | _, _ => none
def mulT : T → T → Option T
 | .int a, .int b => if jE6 a || jE6 b then some (.int (a * b)) else none
 | .lst a, .int n => if med n && szOk (a.length * n.toNat) then some (.lst (List.replicate n.toNat a).flatten) else none
 | .tup a, .int n => if decide (1 ≤ n) && decide (n ≤ 1000) && !a.isEmpty && decide (a.length ≤ 1000) then some (.tup (List.replicate n.toNat a).flatten) else none
 | _, _ => none
def binT (op : Operator) (a b : T) : Option T :=
 match op, a, b with
 | .Add, a, b => addT a b
 | .Sub, .int a, .int b => some (.int (a - b))
 | .Mult, a, b => mulT a b
 | .FloorDiv, .int a, .int b => if decide (b ≠ 0) && decide (b.natAbs < 1073741824) then some (.int (a.fdiv b)) else none
 | .Mod, .int a, .int b => if decide (b ≠ 0) then some (.int (a.fmod b)) else none
 | .Pow, .int a, .int b => if decide (0 ≤ b) && decide (b ≤ 1000000) && decide (a.natAbs < 2 ^ 64) then some (.int (a ^ b.toNat)) else none
 | _, _, _ => none
def isT : T → T → Option Bool
 | .non, .non => some true
 | .bl a, .bl b => some (a == b)
 | _, .non => some false
 | _, _ => none
def keyT : T → Option Key
 | .int i => some (.inl i)
 | .str x => some (.inr x)
 | _ => none
def jCy (k : Key) : List Key → List T → Option T
 | a :: ks, v :: vs => if a = k then some v else jCy k ks vs
 | _, _ => none
def jQa : T → T → Option Bool
 | .dic ks vs, .dic ks' vs' => if vs.all (dat 50) && vs'.all (dat 50) then some (decide (ks.length = ks'.length) && (ks.zip vs).all fun p => match jCy p.1 ks' vs' with | some u => PyData.eqv (toD p.2) (toD u) | none => false) else none
 | .lst xs, .lst ys => if xs.length = ys.length then none else some false
 | .tup xs, .tup ys => if ys.isEmpty && !xs.isEmpty then some false else none
 | _, _ => none
def eqT (a b : T) : Option Bool := if dat 60 a && dat 60 b then some (PyData.eqv (toD a) (toD b)) else jQa a b
def repK (k : Key) (t : T) : List Key → List T → List T
 | a :: ks, v :: vs => (if a = k then t else v) :: repK k t ks vs
 | _, _ => []
def putK (k : Key) (t : T) (ks : List Key) (vs : List T) : List Key × List T :=
 if (ks.any fun a => decide (a = k)) = true then (ks, repK k t ks vs) else (ks ++ [k], vs ++ [t])
def jYk : T → Bool
 | .str _ => true
 | _ => false
def noKv : T → Bool
 | .dic [] [] => true
 | _ => false
def inT (x : T) : T → Option Bool
 | .lst xs => if dat 60 x && xs.all (dat 59) then some (xs.any fun y => PyData.eqv (toD y) (toD x)) else if noKv x && xs.all jYk then some false else none
 | .tup xs => if dat 60 x && xs.all (dat 59) then some (xs.any fun y => PyData.eqv (toD y) (toD x)) else none
 | .dic ks _ => (keyT x).map fun k => ks.any fun a => decide (a = k)
 | .str z => match x with
  | .str y => some (!(Builtin.Str.occurrences z y 0 z.length 1).isEmpty)
  | _ => none
 | _ => none
def cmpT (op : CmpOp) (a b : T) : Option Bool :=
 match op, a, b with
 | .Eq, a, b => eqT a b
 | .NotEq, a, b => (eqT a b).map (!·)
 | .Lt, .int a, .int b => some (decide (a < b))
 | .LtE, .int a, .int b => some (decide (a ≤ b))
 | .Gt, .int a, .int b => some (decide (b < a))
 | .GtE, .int a, .int b => some (decide (b ≤ a))
 | .Is, a, b => isT a b
 | .IsNot, a, b => (isT a b).map (!·)
 | .In, a, b => inT a b
 | .NotIn, a, b => (inT a b).map (!·)
 | _, _, _ => none
def idxT : T → T → Option T
 | .lst xs, .int i => (L2.ixN xs.length i).bind fun k => xs[k]?
 | .tup xs, .int i => (L2.ixN xs.length i).bind fun k => xs[k]?
 | .str x, .int i => (L2.ixN x.length i).bind fun k => x.cps[k]?.map fun c => .str ⟨#[c]⟩
 | .dic ks vs, k => (keyT k).bind fun k => jCy k ks vs
 | _, _ => none
def cutT (xs : List α) (lo hi : Option Int) : List α := (xs.drop (HT.sIx xs.length 0 lo)).take (HT.sIx xs.length xs.length hi - HT.sIx xs.length 0 lo)
def slcT : T → Option Int → Option Int → Option T
 | .lst xs, lo, hi => some (.lst (cutT xs lo hi))
 | .tup xs, lo, hi => some (.tup (cutT xs lo hi))
 | .str x, lo, hi => some (.str (L2.cutS x lo hi))
 | _, _, _ => none
def revT : T → Option T
 | .lst xs => some (.lst xs.reverse)
 | .tup xs => some (.tup xs.reverse)
 | _ => none
def strT : T → Option Str
 | .str x => some x
 | _ => none
def intT : T → Option Int
 | .int i => some i
 | _ => none
def lstT : T → Option (List T)
 | .lst xs => some xs
 | _ => none
def blT : T → Option Bool
 | .bl b => some b
 | _ => none
def items : T → Option (List T)
 | .lst xs => some xs
 | .tup xs => some xs
 | _ => none
def truT : T → Option Bool
 | .bl b => some b
 | .non => some false
 | .int i => some (i != 0)
 | .str x => some (x.length != 0)
 | .lst xs => some (!xs.isEmpty)
 | .tup xs => some (!xs.isEmpty)
 | _ => none
def mapO (f : α → Option β) : List α → Option (List β)
 | [] => some []
 | x :: xs => (f x).bind fun y => (mapO f xs).map (y :: ·)
def jE7 (ks : List Key) : List Key := ks.foldl (fun acc k => if acc.any (fun j => decide (j = k)) = true then acc else acc ++ [k]) []
def jZb (ks js : List Key) : Bool := decide ((jE7 ks).length = (jE7 js).length) && (jE7 ks).all fun k => (jE7 js).any fun j => decide (j = k)
def j0o (xs ys : List T) : Option T := (mapO keyT xs).bind fun ks => (mapO keyT ys).bind fun js => if ks.length < 64 ∧ js.length < 64 then some (.bl (jZb ks js)) else none
def jTm (xs : List T) : Option T := (mapO keyT xs).bind fun ks => if ks.length < 64 then some (.int ((jE7 ks).length : Nat)) else none
def j8s : T → Option (Int × Int)
 | .tup [.int a, .int b] => if decide (0 ≤ a) && decide (a < 64) && decide (0 ≤ b) && decide (b < 64) then some (a, b) else none
 | _ => none
def jNv : List T → Option (List (Int × Int))
 | [] => some []
 | x :: xs => (j8s x).bind fun p => (jNv xs).map (p :: ·)
def jYo (p : Int × Int) : T := .tup [.int p.1, .int p.2]
def insP (x : Int × Int) : List (Int × Int) → List (Int × Int)
 | [] => [x]
 | y :: ys => if x.1 * 64 + x.2 ≤ y.1 * 64 + y.2 then x :: y :: ys else y :: insP x ys
def jVs : List (Int × Int) → List (Int × Int)
 | [] => []
 | x :: xs => insP x (jVs xs)
def jJw : List (Int × Int) → List (Int × Int)
 | [] => []
 | x :: xs => if (jJw xs).contains x then jJw xs else x :: jJw xs
def insI (x : Int) : List Int → List Int
 | [] => [x]
 | y :: ys => if x ≤ y then x :: y :: ys else y :: insI x ys
def jPu : List Int → List Int
 | [] => []
 | x :: xs => insI x (jPu xs)
def tupN : T → Bool
 | .tup (_ :: _) => true
 | _ => false
def ntB : T → Bool
 | .str _ => true
 | .lst _ => true
 | _ => false
def jVy (xs : List T) : Option (List T) := if xs.all (dat 59) && xs.all tupN && xs.all (fun t => xs.all fun u => PySem.W.alike (toD t) (toD u)) then some (xs.mergeSort (PySem.W.dataLe false toD)) else
 if xs.all (dat 59) && xs.all ntB && xs.all (fun t => xs.all fun u => PySem.W.alike (toD t) (toD u)) then some (xs.mergeSort (PySem.W.dataLe false toD)) else none
def j82 (xs : List T) : Option (List T) := match mapO intT xs with
 | some is => if szOk is.length then some ((jPu is).map .int) else none
 | none => if decide (xs.length < 64) then (match jNv xs with | some ps => some ((jVs ps).map jYo) | none => jVy xs) else jVy xs
def strB : T → Bool
 | .str _ => true
 | _ => false
def keyD (is : List Int) : PyData := .tuple [.int (is.length : Nat), .tuple (is.map .int)]
def j5u : T → Option (List Int)
 | .tup xs => mapO intT xs
 | _ => none
def jYf (xs : List T) : Option (List T) := (mapO j5u xs).bind fun bs => if szOk bs.length then some ((bs.mergeSort (PySem.W.dataLe false keyD)).map fun is => .tup (is.map .int)) else none
def j00 (xs : List T) : Option (List T) := match mapO intT xs with
 | some is => some ((jPu is).map .int)
 | none => if xs.all strB then some (xs.mergeSort (PySem.W.dataLe false toD)) else jVy xs
def jJh : List Int → List Int
 | [] => []
 | x :: xs => if (jJh xs).contains x then jJh xs else x :: jJh xs
def j0u (xs : List T) : Option (List T) := (mapO intT xs).bind fun is => if is.length < 60 then some ((jPu (jJh is)).map .int) else none
def zAc (xs : List T) : Option (List T) := if decide (xs.length < 64) then (jNv xs).map fun ps => (jVs (jJw ps)).map jYo else none
def jBt (t : T) : Option Str :=
 if dat 60 t && (toD t).showable && szOk (toD t).shown.length then some (toD t).shown else if seqT t && datX 60 t && (toD t).showable && szOk (toD t).shown.length then some (toD t).shown else none
def jKm (f : Str) : List Str → List T → Option T
 | n :: ns, v :: vs => if n = f then some v else jKm f ns vs
 | _, _ => none
def jBv (c1 c2 c3 : Str) (a b : Nat) : Str := ((((Str.empty ++ c1) ++ (toString (a : Int) : String)) ++ c2) ++ (toString (b : Int) : String)) ++ c3
mutual
def dpT : T → Nat
 | .tup xs => dpTs xs + 1
 | .lst xs => dpTs xs + 1
 | .dic _ _ => 1
 | _ => 0
def dpTs : List T → Nat
 | [] => 0
 | x :: xs => max (dpT x) (dpTs xs)
end
mutual
def shN : T → Option Str
 | .tup xs => (shNs xs).map tupleText
 | .lst xs => (shNs xs).map listText
 | .obj c ns vs => if c = "Order" then (match jKm "spot_row" ns vs, jKm "rung_row" ns vs with
  | some (.tup xs), some (.tup ys) => some (jBv "Order of " " places and " " steps" xs.length ys.length)
  | _, _ => none) else none
 | .dic [] [] => some (dictText [])
 | .non => some PyData.none.shown
 | .bl b => some (PyData.bool b).shown
 | .int i => if (PyData.int i).showable then some (PyData.int i).shown else none
 | .str x => some (PyData.str x).shown
 | _ => none
def shNs : List T → Option (List Str)
 | [] => some []
 | x :: xs => (shN x).bind fun a => (shNs xs).map (a :: ·)
end
def nstT : T → Bool
 | .dic [] [] => true
 | t => seqT t
def reprN (t : T) : Option Str := match jBt t with
 | some x => some x
 | none => if nstT t && decide (dpT t ≤ 5) then (shN t).bind fun x => if szOk x.length then some x else none else none
def jB4 : List T → Option (List Key × List T)
 | [] => some ([], [])
 | .tup [k, v] :: r => (keyT k).bind fun k => (jB4 r).map fun p => (k :: p.1, v :: p.2)
 | _ => none
def jAi : List Key → List T → List Key × List T → List Key × List T
 | k :: ks, v :: vs, d => jAi ks vs (putK k v d.1 d.2)
 | _, _, d => d
def jBd (lo hi : Int) : List T := (List.range (hi - lo).toNat).map fun (k : Nat) => T.int (lo + k)
def j0t (hi lo : Int) : List T := (List.range (hi - lo).toNat).map fun (k : Nat) => T.int (hi - k)
def jR3 : T → T → T → M (List T)
 | .int m, .int n, .int c => if (med m && med n && decide (c = -1)) = true then M.pure (j0t m n) else stuck "range"
 | _, _, _ => stuck "range"
def keyU : Key → T
 | .inl i => .int i
 | .inr x => .str x
def zipV : T → T → Option (List T)
 | .lst xs, .lst ys => some ((xs.zip ys).map fun p => .tup [p.1, p.2])
 | .tup xs, .tup ys => some ((xs.zip ys).map fun p => .tup [p.1, p.2])
 | .lst xs, .tup ys => some ((xs.zip ys).map fun p => .tup [p.1, p.2])
 | .tup xs, .lst ys => some ((xs.zip ys).map fun p => .tup [p.1, p.2])
 | _, _ => none
def biT : Bi → List T → Option T
 | .len, [.lst xs] => some (.int xs.length)
 | .len, [.tup xs] => some (.int xs.length)
 | .len, [.str x] => some (.int x.length)
 | .len, [.dic ks _] => some (.int ks.length)
 | .int, [.int i] => some (.int i)
 | .int, [.bl b] => some (.int (if b then 1 else 0))
 | .int, [.str x] => if decide (x.length ≤ 640) then (PySem.intText? x).map T.int else none
 | .abs, [.int i] => some (.int (if i < 0 then -i else i))
 | .all, [.lst xs] => (mapO blT xs).map fun bs => .bl (bs.all id)
 | .any, [.lst xs] => (mapO blT xs).map fun bs => .bl (bs.any id)
 | .tuple, [.lst xs] => some (.tup xs)
 | .tuple, [.tup xs] => some (.tup xs)
 | .list, [.lst xs] => some (.lst xs)
 | .list, [.tup xs] => some (.lst xs)
 | .list, [.str x] => some (.lst (x.cps.toList.map fun c => .str ⟨#[c]⟩))
 | .list, [.dic ks _] => some (.lst (ks.map keyU))
 | .max2, [.int m, .int n] => some (.int (if n > m then n else m))
 | .min2, [.int m, .int n] => some (.int (if n < m then n else m))
 | .maxL, [.lst xs] => (mapO intT xs).bind fun is => is.max?.map .int
 | .maxV, [.dic _ vs] => (mapO intT vs).bind fun is => is.max?.map .int
 | .minL, [.lst xs] => (mapO intT xs).bind fun is => is.min?.map .int
 | .sum, [.lst xs] => (mapO intT xs).map fun is => .int is.sum
 | .sorted, [.lst xs] => (j82 xs).map .lst
 | .sorted, [.tup xs] => (j00 xs).map .lst
 | .sortedD, [.dic ks _] => if (ks.map keyU).all strB && szOk ks.length then some (.lst ((ks.map keyU).mergeSort (PySem.W.dataLe false toD))) else none
 | .itemsL, [.dic ks vs] => some (.lst ((ks.zip vs).map fun p => .tup [keyU p.1, p.2]))
 | .sortedSet, [.lst xs] => (zAc xs).map .lst
 | .sortedSet, [.tup xs] => (j0u xs).map .lst
 | .lenSet, [.tup xs] => jTm xs
 | .eqSet, [.tup xs, .tup ys] => j0o xs ys
 | .repr, [t] => (jBt t).map .str
 | .reprN, [t] => (reprN t).map .str
 | .str, [.str x] => some (.str x)
 | .str, [.int i] => if decide (i.natAbs.log2 < 1920) then some (.str (toString i : String)) else none
 | .bool, [t] => (truT t).map .bl
 | .dictP, [.lst xs] => (jB4 xs).map fun p => let d := jAi p.1 p.2 ([], []); .dic d.1 d.2
 | .dictP, [.tup xs] => (jB4 xs).map fun p => let d := jAi p.1 p.2 ([], []); .dic d.1 d.2
 | .dictZ, [.tup as, .tup bs] => (mapO keyT as).bind fun ks =>
   let n := min ks.length bs.length
   let d := jAi (ks.take n) (bs.take n) ([], []); some (.dic d.1 d.2)
 | .zipL, [x, y] => (zipV x y).map .lst
 | .zipT, [x, y] => (zipV x y).map .tup
 | .sortK, [.lst xs] => (jYf xs).map .lst
 | .lrange, [.int n] => if med n && szOk n.toNat then some (.lst (jBd 0 n)) else none
 | .ddiv, [.int a, .int b] => if decide (0 < b) && decide (b < 1073741824) then some (.tup [.int (a / b), .int (a % b)]) else none
 | _, _ => none
def jO3 (sep : Str) (x : Str) : List Str := Txt.split x sep
def jGx (x : T) : List T → Nat → Option Nat
 | [], _ => none
 | y :: ys, i => if PyData.eqv (toD y) (toD x) then some i else jGx x ys (i + 1)
def cntT (xs : List T) (x : T) : Option T := match mapO intT xs, intT x with
 | some ns, some k => some (.int (ns.count k : Nat))
 | _, _ => if dat 60 x && xs.all (dat 59) then some (.int (xs.countP fun y => PyData.eqv (toD y) (toD x) : Nat)) else none
def plnT : T → Bool
 | .obj _ _ _ => false
 | .ref _ => false
 | .exn _ _ _ _ => false
 | .cls _ => false
 | .exi _ _ _ => false
 | .dic [] [] => true
 | .dic _ _ => false
 | _ => true
def jFi (b : Str) : T → Bool
 | .str z => z == b
 | _ => false
def bmT : Bm → T → List T → Option T
 | .countT, .tup xs, [.str b] => if xs.all plnT then some (.int (xs.countP (jFi b) : Nat)) else none
 | .index, .lst xs, [x] => if dat 60 x && xs.all (dat 59) then (jGx x xs 0).map (fun (i : Nat) => T.int (i : Int)) else none
 | .index, .tup xs, [.str z] => (mapO strT xs).bind fun ys => if ys.contains z then some (.int ((ys.idxOf z : Nat) : Int)) else none
 | .index, .tup xs, [.tup zs] => if dat 60 (.tup zs) && xs.all (dat 59) then (jGx (.tup zs) xs 0).map (fun (i : Nat) => T.int (i : Int)) else none
 | .count, .lst xs, [x] => cntT xs x
 | .split, .str x, [.str sep] => if decide (0 < sep.length) && szOk (x.length + 2) && (szOk (jO3 sep x).length && (jO3 sep x).all fun y => szOk y.length && PyData.strOk y) then some (.lst ((jO3 sep x).map .str)) else none
 | .join, .str sep, [xs] => (items xs).bind fun xs => (mapO strT xs).bind fun ss => if decide ((ss.map (·.length)).sum + ss.length * sep.length ≤ 1000000) && szOk (Txt.join sep ss).length && PyData.strOk (Txt.join sep ss) then some (.str (Txt.join sep ss)) else none
 | .countS, .str x, [.str y] => some (.int (Txt.count x y))
 | .repl, .str x, [.str y, .str z] => if !(y == z) && decide (x.length + (x.length + 1) * z.length ≤ 16777216) && szOk (Txt.replace x y z).length && PyData.strOk (Txt.replace x y z) then some (.str (Txt.replace x y z)) else none
 | .upper, .str x, [] => if decide (x.length ≤ 1000000) && szOk (Txt.upper x).length && PyData.strOk (Txt.upper x) then some (.str (Txt.upper x)) else none
 | .values, .dic _ vs, [] => some (.lst vs)
 | .get1, .dic ks vs, [k] => (keyT k).map fun k => (jCy k ks vs).getD .non
 | .get2, .dic ks vs, [k, d] => (keyT k).map fun k => (jCy k ks vs).getD d
 | _, _, _ => none
def bmK : Bm → T → Bool
 | .index, .lst _ => true
 | .index, .tup _ => true
 | .count, .lst _ => true
 | .split, .str _ => true
 | .join, .str _ => true
 | .countS, .str _ => true
 | .countT, .tup _ => true
 | .upper, .str _ => true
 | .repl, .str _ => true
 | .values, .dic _ _ => true
 | .get1, .dic _ _ => true
 | .get2, .dic _ _ => true
 | _, _ => false
def isiT (ks : List Str) : T → Ty → Option Bool
 | .ref _, _ => none
 | .exn _ _ _ _, _ => none
 | .cls _, _ => none
 | .exi _ _ _, _ => none
 | .obj c _ _, ty => if ks.contains c then some (match ty with | .cls c' => c == c' | _ => false) else none
 | .str _, .str => some true
 | .int _, .int => some true
 | .bl _, .int => some true
 | .bl _, .bool => some true
 | .tup _, .tuple => some true
 | .lst _, .list => some true
 | _, _ => some false
def dicT : T → Option (List Key × List T)
 | .dic ks vs => some (ks, vs)
 | _ => none
inductive Slot where
 | un | sh (t : T) | ow (t : T)
 deriving Inhabited
abbrev Env := List Slot
def jY6 (D : List (Str × Int)) (k : Str) : T := match D.lookup k with
 | some i => .int i
 | none => .non
def jN7 (E : Env) (i : Nat) (c : Str) : Bool := match E[i]? with
 | some (.sh (.cls d)) => d == c
 | _ => false
def getE (E : Env) (i : Nat) : Option T := match E[i]? with
 | some (.sh t) => some t
 | some (.ow t) => some t
 | _ => none
def frz1 : Slot → Slot
 | .ow t => .sh t
 | s => s
def frzE (is : List Nat) (E : Env) : Env := is.foldl (fun E i => E.set i (frz1 (E.getD i .un))) E
mutual
def escE : Ex → List Nat
 | .var i => [i]
 | .con _ => []
 | .bin _ a b => trE a ++ trE b
 | .neg a => trE a
 | .nt a => trE a
 | .cmp _ a b => trE a ++ trE b
 | .chain _ _ a b c => trE a ++ trE b ++ trE c
 | .and a b => escE a ++ escE b
 | .or a b => escE a ++ escE b
 | .ite c a b => trE c ++ escE a ++ escE b
 | .tup es => escL es
 | .lst es => escL es
 | .cel es => escS es
 | .dsp ds => escD ds
 | .idx a b => trE a ++ trE b
 | .slc _ _ a lo hi => trE a ++ trE lo ++ trE hi
 | .rev a => trE a
 | .call _ es => escS es
 | .callk _ _ es => escS es
 | .told _ _ e => escE e
 | .toldC ws _ _ _ _ _ _ _ _ xs => ws ++ escS xs
 | .new _ _ es => escS es
 | .getc _ _ e => trE e
 | .clsm _ _ _ es => escS es
 | .newv _ _ _ es => escS es
 | .meth o _ _ es => escE o ++ escS es
 | .methk o _ _ _ es => escE o ++ escS es
 | .attr o _ _ => trE o
 | .prop o _ _ => escE o
 | .bi _ es => trS es
 | .spec _ _ es => escS es
 | .own1 _ _ e => escE e
 | .eqo _ a b => escE a ++ escE b
 | .eqc _ _ _ a b => escE a ++ escE b
 | .eqi _ _ _ a b => escE a ++ escE b
 | .ownb _ e => escE e
 | .ownr _ e => escE e
 | .ownl _ e => escE e
 | .bm _ o es => trE o ++ trS es
 | .isi e _ _ => trE e
 | .isd e _ _ => trE e
 | .own2 _ a b => escE a ++ escE b
 | .ownin _ _ a b => escE a ++ escE b
 | .lc ws _ src c e => ws ++ (escR src ++ (trE c ++ escE e))
 | .lc2 ws _ src c _ src' c' e => ws ++ (escR src ++ (trE c ++ (escR src' ++ (trE c' ++ escE e))))
 | .dc ws _ src c k v => ws ++ (escR src ++ (trE c ++ (escE k ++ escE v)))
 | .minBy e i b => i :: (escE e ++ escE b)
 | .fstr es => trS es
 | .xo _ es => escS es
 | .lend i e => (escE e).filter fun j => decide (j ≠ i)
 | .dead => []
def trE : Ex → List Nat
 | .var _ => []
 | .con _ => []
 | .bin _ a b => trE a ++ trE b
 | .neg a => trE a
 | .nt a => trE a
 | .cmp _ a b => trE a ++ trE b
 | .chain _ _ a b c => trE a ++ trE b ++ trE c
 | .and a b => trE a ++ trE b
 | .or a b => trE a ++ trE b
 | .ite c a b => trE c ++ trE a ++ trE b
 | .tup es => escL es
 | .lst es => escL es
 | .cel es => escS es
 | .dsp ds => escD ds
 | .idx a b => trE a ++ trE b
 | .slc _ _ a lo hi => trE a ++ trE lo ++ trE hi
 | .rev a => trE a
 | .call _ es => escS es
 | .callk _ _ es => escS es
 | .told _ _ e => escE e
 | .toldC ws _ _ _ _ _ _ _ _ xs => ws ++ escS xs
 | .new _ _ es => escS es
 | .getc _ _ e => trE e
 | .clsm _ _ _ es => escS es
 | .newv _ _ _ es => escS es
 | .meth o _ _ es => escE o ++ escS es
 | .methk o _ _ _ es => escE o ++ escS es
 | .attr o _ _ => trE o
 | .prop o _ _ => escE o
 | .bi _ es => trS es
 | .spec _ _ es => escS es
 | .own1 _ _ e => escE e
 | .eqo _ a b => escE a ++ escE b
 | .eqc _ _ _ a b => escE a ++ escE b
 | .eqi _ _ _ a b => escE a ++ escE b
 | .ownb _ e => escE e
 | .ownr _ e => escE e
 | .ownl _ e => escE e
 | .bm _ o es => trE o ++ trS es
 | .isi e _ _ => trE e
 | .isd e _ _ => trE e
 | .own2 _ a b => escE a ++ escE b
 | .ownin _ _ a b => escE a ++ escE b
 | .lc ws _ src c e => ws ++ (escR src ++ (trE c ++ escE e))
 | .lc2 ws _ src c _ src' c' e => ws ++ (escR src ++ (trE c ++ (escR src' ++ (trE c' ++ escE e))))
 | .dc ws _ src c k v => ws ++ (escR src ++ (trE c ++ (escE k ++ escE v)))
 | .minBy e i b => i :: (escE e ++ escE b)
 | .fstr es => trS es
 | .xo _ es => escS es
 | .lend i e => (escE e).filter fun j => decide (j ≠ i)
 | .dead => []
def escS : Exs → List Nat
 | .nil => []
 | .cons e es => escE e ++ escS es
def trS : Exs → List Nat
 | .nil => []
 | .cons e es => trE e ++ trS es
def escL : Els → List Nat
 | .nil => []
 | .one e es => escE e ++ escL es
 | .star e es => trE e ++ escL es
def escD : Dps → List Nat
 | .nil => []
 | .kv k v r => escE k ++ escE v ++ escD r
 | .star e r => trE e ++ escD r
def escR : Src → List Nat
 | .of e => trE e
 | .rng1 a => trE a
 | .rng2 a b => trE a ++ trE b
 | .rngD a b c => trE a ++ (trE b ++ trE c)
 | .enm e => trE e
 | .zip a b => escE a ++ escE b
 | .itm e => escE e
 | .kys e => escE e
end
def escF : Src → List Nat
 | .of e => escE e
 | .rng1 a => trE a
 | .rng2 a b => trE a ++ trE b
 | .rngD a b c => trE a ++ (trE b ++ trE c)
 | .enm e => escE e
 | .zip a b => escE a ++ escE b
 | .itm e => escE e
 | .kys e => escE e
def fresh : Ex → Bool
 | .lst _ => true
 | .toldC _ _ _ _ _ _ _ _ _ _ => true
 | .dsp _ => true
 | .lc _ _ _ _ _ => true
 | .lc2 _ _ _ _ _ _ _ _ => true
 | .dc _ _ _ _ _ _ => true
 | .slc _ _ _ _ _ => true
 | .rev _ => true
 | .bin .Add _ _ => true
 | .bin .Mult _ _ => true
 | .bi .list _ => true
 | .bi .lrange _ => true
 | .bi .sorted _ => true
 | .bi .sortedSet _ => true
 | .bi .dictP _ => true
 | .bi .dictZ _ => true
 | .bi .zipL _ => true
 | .bi .sortK _ => true
 | .bi .itemsL _ => true
 | .bi .sortedD _ => true
 | .bm .split _ _ => true
 | .ite _ a b => fresh a && fresh b
 | _ => false
def jAc (e : Ex) (t : T) : Slot := match fresh e, t with
 | true, .lst xs => .ow (.lst xs)
 | true, .dic ks vs => .ow (.dic ks vs)
 | _, t => .sh t
structure FDef where
 ps : Nat
 n : Nat
 body : Ss
abbrev FK := Str × Str
structure Prog where
 fns : List (FK × FDef)
 
 cells : List Str
 
 props : List FK
abbrev Calls := FK → List T → M T
def jAu (C : jAa) : T → T
 | .ref n => C.getD n .non
 | t => t
def deref (t : T) : M T := fun C => .ok (jAu C t) C
def truM (_ : Calls) (t : T) : M Bool := lift "truth" (truT t)
def isM (c m : Str) : T → Bool
 | .obj c' ns _ => c' == c && !ns.contains m
 | _ => false
def jHh (f : Str) (t : T) : List Str → List T → List Str × List T
 | n :: ns, v :: vs => if n = f then (n :: ns, t :: vs) else let r := jHh f t ns vs; (n :: r.1, v :: r.2)
 | _, _ => ([f], [t])
def jT1 (f : Str) : T → Option T
 | .obj _ ns vs => jKm f ns vs
 | _ => none
def isC (c : Str) : T → Bool
 | .obj c' _ _ => c' == c
 | _ => false
def pick (ts : List T) : List PArg → Option (List T)
 | [] => some []
 | .arg i :: r => (ts[i]?).bind fun t => (pick ts r).map (t :: ·)
 | .dflt _ t :: r => (pick ts r).map (t :: ·)
def xoT : Xo → List T → Option T
 | .mk c ns pl, ts => (pick ts pl).bind fun us => if us.length = ns.length then some (.exi c ns.reverse us.reverse) else none
 | .isx all sub _ _, [.exi c _ _] => if all.contains c then some (.bl (sub.contains c)) else none
 | .fld cs f, [.exi c ns vs] => if cs.contains c then (ns.zip vs).lookup f else none
 | _, _ => none
def cmpM (_ : Calls) (op : CmpOp) (a b : T) : M Bool := lift "cmp" (cmpT op a b)
def jAr (ws : List Nat) (E : Env) : Env := ws.foldr (fun i E => E.set i .un) E
def tgS : Tg → List Nat
 | .nm i => [i]
 | .tp is => is
 | .tn i is => i :: is
def jAz (tg : Tg) (t : T) (E : Env) : Option Env := match tg with
 | .nm i => some (E.set i (.sh t))
 | .tp is => match t with
  | .tup ts => if is.length = ts.length then some ((is.zip ts).foldl (fun E p => E.set p.1 (.sh p.2)) E) else none
  | _ => none
 | .tn i is => match t with
  | .tup [a, .tup ts] => if is.length = ts.length then some ((is.zip ts).foldl (fun E p => E.set p.1 (.sh p.2)) (E.set i (.sh a))) else none
  | _ => none
def jA1 (f : T → M (List T)) : List T → M (List T)
 | [] => M.pure []
 | x :: xs => do
  let a ← f x
  let r ← jA1 f xs
  M.pure (a ++ r)
def jAh (m : M α) : M α := fun C => match m C with
 | .exc _ _ => .stuck "an exception within a comprehension"
 | r => r
def hiT (ns : List Str) (vs : List T) : Hi → Option T
 | .con t => some t
 | .fld f => (ns.zip vs).lookup f
 | .rpr f => ((ns.zip vs).lookup f).bind fun t => (reprN t).map .str
def hbT (ns : List Str) (vs : List T) : Hb → Option T
 | .lst is => (mapO (hiT ns vs) is).map .lst
 | .tup is => (mapO (hiT ns vs) is).map .tup
 | .con t => some t
def hdsM : List Hd → T → M T
 | [], _ => stuck "raised"
 | h :: r, x => match x with
  | .obj c ns vs => if h.cs.contains c then lift "clause" (hbT ns vs h.b) else hdsM r x
  | _ => stuck "raised"
def jVk (hs : List Hd) (m : M T) (k : T → M T) : M T := fun C => match m C with
 | .ok t C' => jAh (k t) C'
 | .exc x C' => hdsM hs x C'
 | .stuck w => .stuck w
def jSu (l : List Int) (xs : List T) : Bool := match mapO intT xs with
 | some is => decide (is = l)
 | none => false
mutual
def nsT (l : List Int) : T → Bool
 | .lst xs => !jSu l xs && nsTs l xs
 | .tup xs => nsTs l xs
 | .dic _ vs => nsTs l vs
 | .obj _ _ vs => nsTs l vs
 | .exn _ _ _ _ => false
 | .cls _ => false
 | .exi _ _ _ => false
 | _ => true
def nsTs (l : List Int) : List T → Bool
 | [] => true
 | x :: xs => nsT l x && nsTs l xs
end
def nsC (l : List Int) : T → Bool
 | .lst xs => nsTs l xs
 | .dic _ vs => nsTs l vs
 | .obj _ _ vs => nsTs l vs
 | _ => false
def nsS (l : List Int) : Slot → Bool
 | .ow t => nsC l t
 | _ => true
def jOa (E : Env) (i : Nat) : Option (List Int) := match E[i]? with
 | some (.ow (.lst xs)) => mapO intT xs
 | _ => none
def jP0 (l : List Int) (i : Nat) (E : Env) (m : M T) : M T := M.bind m fun t => fun C => if nsT l t && C.all (nsC l) && (E.set i .un).all (nsS l) then .ok t C else .stuck "lend"
def lenR : T → Option T
 | .int n => if decide (0 ≤ n) && decide (n < 9223372036854775808) then some (.int n) else none
 | _ => none
def neR : T → Option T
 | .bl b => some (.bl (!b))
 | _ => none
def jLx (Φ : Calls) (c m : Str) : List T → M T
 | [x] => M.bind (deref x) fun y => M.bind (need "spec" (isC c y && decide (m = ("__len__" : Str)))) fun _ => M.bind (jAh (Φ (c, "__len__") [x])) fun r => lift "spec" (lenR r)
 | [x, z] => M.bind (deref x) fun y => M.bind (deref z) fun w => M.bind (need "spec" (isC c y && (isC c w && decide (m = ("__ne__" : Str))))) fun _ => M.bind (jAh (Φ (c, "__eq__") [x, z])) fun r => lift "spec" (neR r)
 | _ => stuck "spec"
def blR : T → Option T
 | .bl b => some (.bl b)
 | _ => none
def eqoM (Φ : Calls) (cs : List Str) (x y : T) : M T := match x with
 | .obj c _ _ => M.bind (need "eqo" (cs.contains c && isC c y)) fun _ => M.bind (jAh (Φ (c, "__eq__") [x, y])) fun r => lift "eqo" (blR r)
 | _ => M.bind (lift "eqo" (cmpT .Eq x y)) fun b => M.pure (.bl b)
def eqR : Bool → T → Option T
 | true, .bl b => some (.bl (!b))
 | false, .bl b => some (.bl b)
 | _, _ => none
def eqcM (Φ : Calls) (ne : Bool) (c : Str) (ks : List Str) (x y : T) : M T := M.bind (deref x) fun x' => M.bind (deref y) fun y' => M.bind (need "eqc" (isC c x' && (isiT ks y' (.cls c)).isSome)) fun _ => M.bind (jAh (Φ (c, "__eq__") [x, y])) fun r => lift "eqc" (eqR ne r)
def eqiV (ne : Bool) : T → T → Option T
 | .ref i, .ref j => some (.bl (ne != decide (i = j)))
 | _, _ => none
def eqiM (Φ : Calls) (ne : Bool) (c r : Str) (x y : T) : M T := M.bind (deref x) fun x' => M.bind (deref y) fun y' => M.bind (need "eqi" (isC c x')) fun _ =>
 if isC c y' = true then lift "eqi" (eqiV ne x y) else M.bind (need "eqi" (isC r y' && !ne)) fun _ => M.bind (jAh (Φ (r, "__eq__") [y, x])) fun k => lift "eqi" (eqR false k)
def jZ1 (Φ : Calls) (c : Str) (x : T) : M T := M.bind (deref x) fun y => M.bind (need "ownb" (isC c y)) fun _ => M.bind (jAh (Φ (c, "__bool__") [x])) fun r => lift "ownb" (blR r)
def j0a (Φ : Calls) (c : Str) (x k : T) : M T := M.bind (deref x) fun x' => M.bind (need "own2" (isC c x')) fun _ => Φ (c, "__getitem__") [x, k]
def jTc (Φ : Calls) (ne : Bool) (c : Str) (k x : T) : M T := M.bind (deref x) fun x' => M.bind (need "ownin" (isC c x')) fun _ => M.bind (jAh (Φ (c, "__contains__") [x, k])) fun r => lift "ownin" (eqR ne r)
def strR : T → Option T
 | .str x => some (.str x)
 | _ => none
def lenB : T → Option T
 | .int n => if decide (0 ≤ n) && decide (n < 9223372036854775808) then some (.bl (n != 0)) else none
 | _ => none
def j0b (Φ : Calls) (c : Str) (x : T) : M T := M.bind (deref x) fun y => M.bind (need "ownr" (isC c y)) fun _ => M.bind (jAh (Φ (c, "__repr__") [x])) fun r => lift "ownr" (strR r)
def jXz (Φ : Calls) (c : Str) (x : T) : M T := M.bind (deref x) fun y => M.bind (need "ownl" (isC c y)) fun _ => M.bind (jAh (Φ (c, "__len__") [x])) fun r => lift "ownl" (lenB r)
def jK6 (Φ : Calls) (c m : Str) (x : T) : M T := M.bind (deref x) fun y => M.bind (need "own1" (isC c y && decide (m = ("__str__" : Str)))) fun _ => M.bind (jAh (Φ (c, "__str__") [x])) fun r => lift "own1" (strR r)
def fmtT : T → Option Str
 | .str x => if szOk x.length then some x else none
 | .int i => if decide (i.natAbs.log2 < 1920) then some (toString i : String) else none
 | _ => none
def j7f : T → Option T
 | .lst (x :: _) => some x
 | _ => none
def jWl (ix : Bool) : T → M T := fun t => if ix = true then lift "idx" (j7f t) else M.pure t
def jA4 (m : M (List T)) : M T := do
 let r ← m
 if szOk r.length then M.pure (.lst r) else stuck "size"
def minT (xs ns : List T) : Option T := (mapO intT ns).bind fun is => is.min?.bind fun m => xs[is.idxOf m]?
def jCg (b : Bool) (m : M T) : M (Option Int) := if b = true then M.bind m (fun t => M.bind (lift "part" (intT t)) fun i => M.pure (some i)) else M.pure none
def jM5 : T → T → M (List T)
 | .lst xs, .lst ys => M.pure ((xs.zip ys).map fun p => .tup [p.1, p.2])
 | .tup xs, .tup ys => M.pure ((xs.zip ys).map fun p => .tup [p.1, p.2])
 | .lst xs, .tup ys => M.pure ((xs.zip ys).map fun p => .tup [p.1, p.2])
 | _, _ => stuck "zip"
mutual
def ev (Φ : Calls) : Ex → Env → M T
 | .var i, E => lift "var" (getE E i)
 | .con t, _ => M.pure t
 | .bin op a b, E => do
  let x ← ev Φ a E
  let y ← ev Φ b E
  lift "bin" (binT op x y)
 | .neg a, E => do
  let x ← ev Φ a E
  lift "neg" ((intT x).map fun i => .int (-i))
 | .nt a, E => do
  let x ← ev Φ a E
  return .bl (!(← truM Φ x))
 | .cmp op a b, E => do
  let x ← ev Φ a E
  let y ← ev Φ b E
  return .bl (← cmpM Φ op x y)
 | .chain op op' a b c, E => do
  let x ← ev Φ a E
  let y ← ev Φ b E
  if ← cmpM Φ op x y then do
   let z ← ev Φ c E
   return .bl (← cmpM Φ op' y z)
  else M.pure (.bl false)
 | .and a b, E => do
  let x ← ev Φ a E
  if ← truM Φ x then ev Φ b E else M.pure x
 | .or a b, E => do
  let x ← ev Φ a E
  if ← truM Φ x then M.pure x else ev Φ b E
 | .ite c a b, E => do
  let x ← ev Φ c E
  if ← truM Φ x then ev Φ a E else ev Φ b E
 | .tup es, E => do
  let ts ← evL Φ es E
  if szOk ts.length then M.pure (.tup ts) else stuck "size"
 | .lst es, E => do
  let ts ← evL Φ es E
  if szOk ts.length then M.pure (.lst ts) else stuck "size"
 | .cel es, E => do
  let ts ← evS Φ es E
  if szOk ts.length then (fun C => .ok (.ref C.length) (C ++ [.lst ts])) else stuck "size"
 | .dsp ds, E => do evD Φ ds E ([], [])
 | .idx a b, E => do
  let x ← ev Φ a E
  let y ← ev Φ b E
  lift "idx" (idxT (← deref x) y)
 | .slc l h a lo hi, E => do
  let x ← ev Φ a E
  let l ← jCg l (ev Φ lo E)
  let h ← jCg h (ev Φ hi E)
  lift "slc" (slcT x l h)
 | .rev a, E => do lift "rev" (revT (← ev Φ a E))
 | .call f es, E => do Φ ("", f) (← evS Φ es E)
 | .callk f pl es, E => do Φ ("", f) (← lift "pick" (pick (← evS Φ es E) pl))
 | .told f hs e, E => jVk hs (ev Φ e E) fun t => Φ ("!", f) [t]
 | .toldC _ f hs _ np nn es ix kk xs, E => M.bind (evS Φ xs E) fun ts => M.bind (need "toldC" (ts.length == np)) fun _ => jA4 (jAh (evA Φ f hs ix es (ts.map .sh ++ List.replicate (nn - np) .un) kk))
 | .new c pl es, E => do Φ (c, "") (← lift "pick" (pick (← evS Φ es E) pl))
 | .getc _ D e, E => do
  let x ← ev Φ e E
  let k ← lift "getc" (strT x)
  M.pure (jY6 D k)
 | .clsm c m pl es, E => do
  let ts ← evS Φ es E
  let us ← lift "pick" (pick ts pl)
  Φ (c, m) (.cls c :: us)
 | .newv i c pl es, E => do
  need "newv" (jN7 E i c)
  let ts ← evS Φ es E
  let us ← lift "pick" (pick ts pl)
  Φ (c, "") us
 | .meth o c m es, E => do
  let x ← ev Φ o E
  let y ← deref x
  need "meth" (isM c m y)
  let ts ← evS Φ es E
  Φ (c, m) (x :: ts)
 | .methk o c m pl es, E => do
  let x ← ev Φ o E
  let y ← deref x
  need "meth" (isM c m y)
  let ts ← evS Φ es E
  let us ← lift "pick" (pick ts pl)
  Φ (c, m) (x :: us)
 | .attr o c f, E => do
  let x ← ev Φ o E
  let y ← deref x
  need "attr" (isC c y)
  lift "attr" (jT1 f y)
 | .prop o c f, E => do
  let x ← ev Φ o E
  let y ← deref x
  need "prop" (isC c y)
  jAh (Φ (c, f) [x])
 | .bi b es, E => do lift "bi" (biT b (← evS Φ es E))
 | .spec c m es, E => do jLx Φ c m (← evS Φ es E)
 | .own1 c m e, E => do jK6 Φ c m (← ev Φ e E)
 | .eqo cs a b, E => do
  let x ← ev Φ a E
  let y ← ev Φ b E
  eqoM Φ cs x y
 | .eqc ne c ks a b, E => do
  let x ← ev Φ a E
  let y ← ev Φ b E
  eqcM Φ ne c ks x y
 | .eqi ne c r a b, E => do
  let x ← ev Φ a E
  let y ← ev Φ b E
  eqiM Φ ne c r x y
 | .ownb c e, E => do jZ1 Φ c (← ev Φ e E)
 | .ownr c e, E => do j0b Φ c (← ev Φ e E)
 | .ownl c e, E => do jXz Φ c (← ev Φ e E)
 | .bm b o es, E => do
  let x ← ev Φ o E
  need "bm" (bmK b x)
  let ts ← evS Φ es E
  lift "bm" (bmT b x ts)
 | .isi e ty ks, E => do
  let x ← ev Φ e E
  return .bl (← lift "isi" (isiT ks x ty))
 | .isd e ty ks, E => do
  let x ← ev Φ e E
  let y ← deref x
  return .bl (← lift "isi" (isiT ks y ty))
 | .own2 c a b, E => do
  let x ← ev Φ a E
  let y ← ev Φ b E
  j0a Φ c x y
 | .ownin ne c a b, E => do
  let x ← ev Φ a E
  let y ← ev Φ b E
  jTc Φ ne c x y
 | .lc ws tg src cond elt, E => do
  let xs ← evR Φ src E
  jA4 (jAh (jA1 (fun x => do
   let E' ← lift "bind" (jAz tg x (jAr ws E))
   let c ← ev Φ cond E'
   if ← truM Φ c then do
    let t ← ev Φ elt E'
    M.pure [t]
   else M.pure []) xs))
 | .lc2 ws tg src cond tg' src' cond' elt, E => do
  let xs ← evR Φ src E
  jA4 (jAh (jA1 (fun x => do
   let E' ← lift "bind" (jAz tg x (jAr ws E))
   let c ← ev Φ cond E'
   if ← truM Φ c then do
    let ys ← evR Φ src' E'
    jA1 (fun y => do
     let E'' ← lift "bind" (jAz tg' y (jAr (tgS tg') E'))
     let c' ← ev Φ cond' E''
     if ← truM Φ c' then do
      let t ← ev Φ elt E''
      M.pure [t]
     else M.pure []) ys
   else M.pure []) xs))
 | .dc ws tg src cond k v, E => do
  let xs ← evR Φ src E
  let ps ← jAh (jA1 (fun x => do
   let E' ← lift "bind" (jAz tg x (jAr ws E))
   let c ← ev Φ cond E'
   if ← truM Φ c then do
    let a ← ev Φ k E'
    let b ← ev Φ v E'
    M.pure [.tup [a, b]]
   else M.pure []) xs)
  need "size" (szOk ps.length)
  lift "dc" ((jB4 ps).map fun p => let d := jAi p.1 p.2 ([], []); .dic d.1 d.2)
 | .minBy e i body, E => do
  let x ← ev Φ e E
  let xs ← lift "minBy" (lstT x)
  let ns ← jAh (jA1 (fun t => do
   let n ← ev Φ body (E.set i (.sh t))
   M.pure [n]) xs)
  lift "minBy" (minT xs ns)
 | .xo k es, E => M.bind (evS Φ es E) fun ts => lift "xo" (xoT k ts)
 | .fstr es, E => do
  let x ← evF Φ es E Str.empty
  need "fstr" (PyData.strOk x)
  M.pure (.str x)
 | .lend i e, E => M.bind (lift "lend" (jOa E i)) fun l => jP0 l i E (jAh (ev Φ e (E.set i (.sh (.lst (l.map .int))))))
 | .dead, _ => stuck "dead"
def evA (Φ : Calls) (f : Str) (hs : List Hd) (ix : Bool) : Exs → Env → Nat → M (List T)
 | .nil, _, _ => M.pure []
 | .cons e r, E, kk => if kk = 0 then M.pure [] else M.bind (M.bind (jVk hs (ev Φ e E) fun t => Φ ("!", f) [t]) (jWl ix)) fun t => M.bind (evA Φ f hs ix r E (kk - 1)) fun ts => M.pure (t :: ts)
def evS (Φ : Calls) : Exs → Env → M (List T)
 | .nil, _ => M.pure []
 | .cons e es, E => do
  let x ← ev Φ e E
  let r ← evS Φ es E
  M.pure (x :: r)
def evF (Φ : Calls) : Exs → Env → Str → M Str
 | .nil, _, acc => M.pure acc
 | .cons e es, E, acc => do
  let x ← ev Φ e E
  let y ← lift "fstr" (fmtT x)
  need "size" (szOk (acc ++ y).length)
  evF Φ es E (acc ++ y)
def evL (Φ : Calls) : Els → Env → M (List T)
 | .nil, _ => M.pure []
 | .one e es, E => do
  let x ← ev Φ e E
  let r ← evL Φ es E
  M.pure (x :: r)
 | .star e es, E => do
  let x ← ev Φ e E
  let xs ← lift "star" (items x)
  let r ← evL Φ es E
  M.pure (xs ++ r)
def evD (Φ : Calls) : Dps → Env → List Key × List T → M T
 | .nil, _, d => do
  need "size" (szOk d.1.length)
  M.pure (.dic d.1 d.2)
 | .kv k v r, E, d => do
  let x ← ev Φ k E
  let t ← ev Φ v E
  let k ← lift "key" (keyT x)
  need "size" (szOk (d.1.length + 1))
  evD Φ r E (putK k t d.1 d.2)
 | .star e r, E, d => do
  let x ← ev Φ e E
  let p ← lift "dict" (dicT x)
  need "size" (szOk (d.1.length + p.1.length))
  evD Φ r E (jAi p.1 p.2 d)
def evR (Φ : Calls) : Src → Env → M (List T)
 | .of e, E => do
  match ← ev Φ e E with
  | .lst xs => M.pure xs
  | .tup xs => M.pure xs
  | .str x => M.pure (x.cps.toList.map fun c => .str ⟨#[c]⟩)
  | _ => stuck "walk"
 | .rng1 a, E => do
  match ← ev Φ a E with
  | .int n => if med n then M.pure (jBd 0 n) else stuck "range"
  | _ => stuck "range"
 | .rngD a b c, E => do
  let x ← ev Φ a E
  let y ← ev Φ b E
  let z ← ev Φ c E
  jR3 x y z
 | .rng2 a b, E => do
  let x ← ev Φ a E
  let y ← ev Φ b E
  match x, y with
  | .int m, .int n => if med m && med n then M.pure (jBd m n) else stuck "range"
  | _, _ => stuck "range"
 | .enm e, E => do
  let xs ← lift "enum" (items (← ev Φ e E))
  M.pure (xs.zipIdx.map fun p => .tup [.int p.2, p.1])
 | .zip a b, E => do
  let x ← ev Φ a E
  let y ← ev Φ b E
  jM5 x y
 | .itm e, E => do
  match ← ev Φ e E with
  | .dic ks vs => M.pure ((ks.zip vs).map fun p => .tup [(match p.1 with | .inl i => .int i | .inr x => .str x), p.2])
  | _ => stuck "items"
 | .kys e, E => do
  match ← ev Φ e E with
  | .dic ks _ => M.pure (ks.map keyU)
  | _ => stuck "keys"
end
inductive RS where
 | nx (E : Env) | bk (E : Env) | ct (E : Env) | rt (t : T)
def upC (n : Nat) (t : T) : M Unit := fun C => if n < C.length then .ok () (C.set n t) else .stuck "cell"
def atX (E : Env) (x : Nat) : M (T × (T → M Env)) := match E[x]? with
 | some (.ow t) => M.pure (t, fun t' => M.pure (E.set x (.ow t')))
 | some (.sh (.ref n)) => do
  let t ← deref (.ref n)
  M.pure (t, fun t' => do upC n t'; M.pure E)
 | _ => stuck "not its own"
def forL (f : T → Env → M RS) : List T → Env → M RS
 | [], E => M.pure (.nx E)
 | x :: xs, E => do
  match ← f x E with
  | .nx E' => forL f xs E'
  | .ct E' => forL f xs E'
  | .bk E' => M.pure (.nx E')
  | .rt t => M.pure (.rt t)
def jIc (is : List Nat) (E : Env) : Bool := is.all fun i => match E[i]? with
 | some (.ow _) => false
 | _ => true
def jJy (hs : List Hd) : T → Bool
 | .obj c _ _ => hs.any fun h => h.cs.contains c
 | _ => false
def tryM (hs : List Hd) (m : M RS) : M RS := fun C => match m C with
 | .exc x C' => if jJy hs x = true then M.bind (hdsM hs x) (fun t => M.pure (.rt t)) C' else .exc x C'
 | r => r
def hitA (cs : List Str) : T → Bool
 | .obj c _ _ => cs.contains c
 | _ => false
def jWd (m : M T) (k : T → M RS) (cs : List Str) (h : M RS) : M RS := fun C => match m C with
 | .ok t C' => jAh (k t) C'
 | .exc x C' => if hitA cs x then h C' else .stuck "tryA"
 | .stuck w => .stuck w
def fldΦ : Calls := fun k us => match us with
 | [.exn _ _ ns vs] => lift "field" ((ns.zip vs).lookup k.2)
 | _ => stuck "held"
def j8b : T → T
 | .obj _ ns vs => .exn 0 none ns vs
 | x => x
def j5c (m : M RS) (cs : List Str) (h : T → M T) : M RS := fun C => match m C with
 | .ok o C' => .ok o C'
 | .exc x C' => if hitA cs x then M.bind (jAh (h (j8b x))) (fun t => M.pure (.rt t)) C' else .stuck "tryX"
 | .stuck w => .stuck w
def whlL (c : Env → M Bool) (f : Env → M RS) : Nat → Env → M RS
 | 0, _ => stuck "while"
 | n + 1, E => do
  if ← c E then
   match ← f E with
   | .nx E' => whlL c f n E'
   | .ct E' => whlL c f n E'
   | .bk E' => M.pure (.nx E')
   | .rt t => M.pure (.rt t)
  else M.pure (.nx E)
def jA7 : St → List Nat
 | .set _ e => escE e
 | .par _ es => escS es
 | .unp _ e => escE e
 | .dvm _ _ _ a b => trE a ++ trE b
 | .setIx _ i e => trE i ++ escE e
 | .setAt _ _ e => escE e
 | .setIf _ c e => trE c ++ escE e
 | .setOwn _ o i e => escE e ++ (escE o ++ escE i)
 | .setIxs _ _ es => escS es
 | .aug _ _ e => trE e
 | .app _ e => escE e
 | .ext _ e => escE e
 | .ins _ i e => trE i ++ escE e
 | .rem _ e => trE e
 | .pop _ _ => []
 | .appPop _ _ e => trE e
 | .exp e => escE e
 | .ret e => escE e
 | .ite c _ _ => trE c
 | .for_ _ src _ => escF src
 | .whl _ _ => []
 | .raise _ _ es => escS es
 | .try_ _ _ => []
 | .tryA _ e _ _ _ => escE e
 | .tryX _ _ _ _ => []
 | .acts i j _ _ es rhs => j :: i :: (escS es ++ trE rhs)
 | .rzc _ _ _ es _ _ => escS es
 | .pas => []
 | .brk => []
 | .cnt => []
 | .dead => []
def escB : Ss → List Nat
 | .cons s _ => jA7 s
 | .nil => []
def jBh (is : List Nat) (ss : List Slot) (E : Env) : Option Env := if is.length = ss.length then some ((is.zip ss).foldl (fun E p => E.set p.1 p.2) E) else none
def jBe : Exs → List T → List Slot
 | .cons e es, t :: ts => jAc e t :: jBe es ts
 | _, _ => []
def ownL (E : Env) (x : Nat) : Option (List T) := match E[x]? with
 | some (.ow (.lst xs)) => some xs
 | _ => none
mutual
def exS (Φ : Calls) (W : Nat) : Ss → Env → M RS
 | .nil, E => M.pure (.nx E)
 | .cons s r, E => do
  match ← ex Φ W s (frzE (jA7 s) E) with
  | .nx E' => exS Φ W r E'
  | o => M.pure o
def ex (Φ : Calls) (W : Nat) : St → Env → M RS
 | .set i e, E => do
  let t ← ev Φ e E
  M.pure (.nx (E.set i (jAc e t)))
 | .par is es, E => do
  let ts ← evS Φ es E
  let E' ← lift "par" (jBh is (jBe es ts) E)
  M.pure (.nx E')
 | .unp is e, E => do
  let t ← ev Φ e E
  let ts ← lift "unp" (items t)
  let E' ← lift "unp" (jBh is (ts.map .sh) E)
  M.pure (.nx E')
 | .dvm h k j a b, E => do
  let x ← ev Φ a E
  let y ← ev Φ b E
  let m ← lift "dvm" (intT x)
  let n ← lift "dvm" (intT y)
  need "dvm" (decide (0 < n) && decide (n < 1073741824))
  let (t, put) ← atX E h
  let xs ← lift "dvm" (lstT t)
  need "dvm" (decide (k < xs.length))
  let E' ← put (.lst (xs.set k (.int (m / n))))
  M.pure (.nx (E'.set j (.sh (.int (m % n)))))
 | .setIx x i e, E => do
  let t ← ev Φ e E
  let _ ← atX E x
  let k ← ev Φ i E
  let (o, put) ← atX E x
  match o with
  | .lst xs => do
   let i ← lift "setIx" (intT k)
   let n ← lift "setIx" (L2.ixN xs.length i)
   let E' ← put (.lst (xs.set n t))
   M.pure (.nx E')
  | .dic ks vs => do
   let k ← lift "setIx" (keyT k)
   let d := putK k t ks vs
   need "size" (szOk (ks.length + 1))
   let E' ← put (.dic d.1 d.2)
   M.pure (.nx E')
  | _ => stuck "setIx"
 | .setAt c f e, E => do
  let t ← ev Φ e E
  let (o, put) ← atX E 0
  match o with
  | .obj c' ns vs => do
   need "setAt" (c' == c && decide (ns.length < 999))
   let d := jHh f t ns vs
   let E' ← put (.obj c' d.1 d.2)
   M.pure (.nx E')
  | _ => stuck "setAt"
 | .setIf i c e, E => do
  let x ← ev Φ c E
  if ← truM Φ x then do
   let t ← ev Φ e E
   M.pure (.nx (E.set i (jAc e t)))
  else do
   let _ ← lift "setIf" (getE E i)
   M.pure (.nx E)
 | .setOwn c o i e, E => do
  let t ← ev Φ e E
  let x ← ev Φ o E
  let k ← ev Φ i E
  let y ← deref x
  need "setOwn" (isC c y)
  let _ ← Φ (c, "__setitem__") [x, k, t]
  M.pure (.nx E)
 | .setIxs x ks es, E => do
  let ts ← evS Φ es E
  let (o, put) ← atX E x
  let xs ← lift "setIxs" (lstT o)
  need "setIxs" (decide (ks.length = ts.length) && ks.all (fun k => decide (k < xs.length)))
  let E' ← put (.lst ((ks.zip ts).foldl (fun a p => a.set p.1 p.2) xs))
  M.pure (.nx E')
 | .aug i op e, E => do
  let x ← lift "aug" (getE E i)
  let y ← ev Φ e E
  let t ← lift "aug" ((intT x).bind fun a => (intT y).bind fun b => binT op (.int a) (.int b))
  M.pure (.nx (E.set i (.sh t)))
 | .app x e, E => do
  let (o0, _) ← atX E x
  let _ ← lift "app" (lstT o0)
  let t ← ev Φ e E
  let (o, put) ← atX E x
  let xs ← lift "app" (lstT o)
  need "size" (szOk (xs.length + 1))
  let E' ← put (.lst (xs ++ [t]))
  M.pure (.nx E')
 | .ext x e, E => do
  let (o0, _) ← atX E x
  let _ ← lift "ext" (lstT o0)
  let t ← ev Φ e E
  let ys ← lift "ext" (lstT t)
  let (o, put) ← atX E x
  let xs ← lift "ext" (lstT o)
  need "size" (szOk (xs.length + ys.length))
  let E' ← put (.lst (xs ++ ys))
  M.pure (.nx E')
 | .ins x i e, E => do
  let (o0, _) ← atX E x
  let _ ← lift "ins" (lstT o0)
  let k ← ev Φ i E
  let t ← ev Φ e E
  let (o, put) ← atX E x
  let xs ← lift "ins" (lstT o)
  let i ← lift "ins" (intT k)
  need "ins" (decide (0 ≤ i) && decide (i ≤ xs.length) && szOk (xs.length + 1))
  let E' ← put (.lst (xs.take i.toNat ++ t :: xs.drop i.toNat))
  M.pure (.nx E')
 | .rem x e, E => do
  let (o0, _) ← atX E x
  let _ ← lift "rem" (lstT o0)
  let t ← ev Φ e E
  let (o, put) ← atX E x
  let xs ← lift "rem" (lstT o)
  let k ← lift "rem" (intT t)
  let is ← lift "rem" (mapO intT xs)
  need "rem" (is.contains k)
  let E' ← put (.lst ((is.erase k).map .int))
  M.pure (.nx E')
 | .pop i x, E => do
  let (o, put) ← atX E x
  let xs ← lift "pop" (lstT o)
  let t ← lift "pop" xs.getLast?
  let E' ← put (.lst xs.dropLast)
  M.pure (.nx (E'.set i (.sh t)))
 | .appPop x y e, E => do
  need "appPop" (decide (x ≠ y))
  let xs ← lift "appPop" (ownL E x)
  let ys ← lift "appPop" (ownL E y)
  let k ← ev Φ e E
  let i ← lift "appPop" (intT k)
  let n ← lift "appPop" (L2.ixN ys.length i)
  let t ← lift "appPop" ys[n]?
  need "size" (szOk (xs.length + 1))
  M.pure (.nx ((E.set y (.ow (.lst (ys.eraseIdx n)))).set x (.ow (.lst (xs ++ [t])))))
 | .exp e, E => do
  let _ ← ev Φ e E
  M.pure (.nx E)
 | .ret e, E => do
  let t ← ev Φ e E
  M.pure (.rt t)
 | .ite c a b, E => do
  let t ← ev Φ c E
  if ← truM Φ t then exS Φ W a E else exS Φ W b E
 | .for_ tg src body, E => do
  let xs ← evR Φ src E
  forL (fun x E => do
   let E' ← lift "bind" (jAz tg x E)
   exS Φ W body E') xs E
 | .whl c body, E => whlL (fun E => M.bind (need "while" (jIc (trE c) E)) fun _ => M.bind (ev Φ c E) (truM Φ)) (fun E => exS Φ W body E) W E
 | .raise c ns es, E => do
  let ts ← evS Φ es E
  need "raise" (decide (ts.length = ns.length))
  fun C => .exc (.obj c ns.reverse ts.reverse) C
 | .try_ b hs, E => tryM hs (exS Φ W b E)
 | .tryA i e b cs h, E => jWd (ev Φ e E) (fun t => exS Φ W b (E.set i (jAc e t))) cs (exS Φ W h E)
 | .tryX i b cs h, E => j5c (exS Φ W b E) cs fun x => ev fldΦ h (frzE (escE h) ((frzE (escB b) E).set i (.sh x)))
 | .rzc i _ ns es y f, E => M.bind (jAh (evS Φ es E)) fun ts => M.bind (need "rzc" (decide (ts.length = ns.length) && (decide (i ≠ y) && decide (i < E.length)))) fun _ => M.bind (lift "rzc" ((ns.reverse.zip ts.reverse).lookup f)) fun v => M.bind (lift "rzc" (biT .repr [v])) fun s => M.bind (lift "rzc" (ownL E y)) fun xs => M.bind (need "size" (szOk (xs.length + 1))) fun _ => M.pure (.nx ((E.set y (.ow (.lst (xs ++ [s])))).set i .un))
 | .acts i j f hs es rhs, E => M.bind (jA4 (jAh (evA Φ f hs false es (jAr [j, i] E) 1000))) fun a => M.bind (ev Φ rhs (jAr [j, i] E)) fun b => M.bind (lift "cmp" (cmpT .NotEq a b)) fun k => M.pure (if k = true then .rt (.bl false) else .nx (jAr [j, i] E))
 | .pas, E => M.pure (.nx E)
 | .brk, E => M.pure (.bk E)
 | .cnt, E => M.pure (.ct E)
 | .dead, _ => stuck "dead"
end
def own0 (E : Env) : Option T := match E.head? with
 | some (.ow (.obj c ns vs)) => some (.obj c ns vs)
 | _ => none
def jD0 (k : FK) : List (FK × FDef) → Option FDef
 | [] => none
 | (a, d) :: r => if a = k then some d else jD0 k r
def jBz (Φ : Calls) (W : Nat) (d : FDef) (ss : List Slot) : M RS := exS Φ W d.body (ss ++ List.replicate (d.n - ss.length) .un)
def call (P : Prog) (W : Nat) : Nat → Calls
 | 0, _, _ => stuck "depth"
 | n + 1, k, ts =>
  if k.2 = ("" : Str) then
   match jD0 (k.1, "__init__") P.fns with
   | none => stuck "class"
   | some d =>
    if ts.length + 1 = d.ps then
     (if P.cells.contains k.1 then fun C => (do
       let r ← jBz (call P W n) W d (.sh (.ref C.length) :: ts.map .sh)
       match r with
       | .nx _ => M.pure (.ref C.length)
       | _ => stuck "init" : M T) (C ++ [.obj k.1 [] []])
      else do
       let r ← jBz (call P W n) W d (.ow (.obj k.1 [] []) :: ts.map .sh)
       match r with
       | .nx E => lift "init" (own0 E)
       | _ => stuck "init")
    else stuck "arity"
  else if k.1 = ("!" : Str) then
   match jD0 k P.fns with
   | none => stuck "no such function"
   | some d =>
    if ts.length + 1 = d.ps then do
     let r ← jBz (call P W n) W d (.un :: ts.map .sh)
     match r with
     | .rt t => M.pure t
     | .nx _ => M.pure .non
     | _ => stuck "loop word"
    else if d.ps = 1 then do
     let r ← jBz (call P W n) W d [.un]
     match r with
     | .rt t => M.pure t
     | .nx _ => M.pure .non
     | _ => stuck "loop word"
    else stuck "arity"
  else
   match jD0 k P.fns with
   | none => stuck "no such function"
   | some d =>
    if ts.length = d.ps then do
     let r ← jBz (call P W n) W d (ts.map .sh)
     match r with
     | .rt t => M.pure t
     | .nx _ => M.pure .non
     | _ => stuck "loop word"
    else stuck "arity"
end SI
namespace SI
open PySem PySem.Spec PyProof.Rows L2
abbrev ca (K : PySem.W.Frag) (c : Str) : Addr := He.ga K c
structure SG (x : Str) : Prop where
 len : x.length ≤ sizeLine
 ok : PyData.strOk x = true
def KG : Key → Prop
 | .inl _ => True
 | .inr x => SG x
def SqN (K : PySem.W.Frag) (S : Hp) (a : Addr) (vs : List V) : Prop :=
 (∃ o : Obj, S a = some (.frz o (.tup vs)) ∧ o.dict = none) ∨ (SqT K (fun _ => none) a vs ∧ ∃ o : Obj, K.lookup a = some o ∧ o.dict = none)
theorem SqN.sq {K : PySem.W.Frag} {S : Hp} {a : Addr} {vs : List V} : SqN K S a vs → SqT K S a vs
 | .inl ⟨o, e, _⟩ => .inl (.inr ⟨o, e⟩)
 | .inr ⟨h, _⟩ => h.elim (fun h => h.elim (fun e => nomatch e) fun ⟨_, e⟩ => nomatch e) .inr
def ExF (cls : Value) (d : Option Addr) (a : Addr) : HO := .ext fun h => ∃ (oe : Obj) (vs : Array Value), h.get? a = some oe ∧ Zc cls d oe ∧ oe.data = .fields vs
mutual
inductive Rep (K : PySem.W.Frag) (S : Hp) (as : List Addr) : V → T → Prop
 | non : Rep K S as .non .non
 | bl (b : Bool) : Rep K S as (.bl b) (.bl b)
 | int (i : Int) : Rep K S as (.int i) (.int i)
 | str {x : Str} : SG x → Rep K S as (.str x) (.str x)
 | tup {a : Addr} {vs : List V} {ts : List T} : SqN K S a vs → vs.length ≤ sizeLine → Reps K S as vs ts → Rep K S as (.ref a) (.tup ts)
 | lst {a : Addr} {vs : List V} {ts : List T} : Rd S a (.lst vs) → vs.length ≤ sizeLine → Reps K S as vs ts → Rep K S as (.ref a) (.lst ts)
 | dic {a : Addr} {kvs : List (Key × V)} {ts : List T} : Rd S a (.dK kvs) → kvs.length ≤ sizeLine → (∀ p ∈ kvs, KG p.1) → Reps K S as (kvs.map (·.2)) ts → Rep K S as (.ref a) (.dic (kvs.map (·.1)) ts)
 | obj {a dx : Addr} {fs : List (Str × V)} {c : Str} {ts : List T} : S a = some (.ins (ca K c) dx fs) → Reps K S as (fs.map (·.2)) ts → Rep K S as (.ref a) (.obj c (fs.map (·.1)) ts)
 | ref {n : Nat} {a : Addr} : as[n]? = some a → Rep K S as (.ref a) (.ref n)
 | exn {a : Addr} {d : Option Addr} {fs : List (Str × V)} {ts : List T} : ((fs = [] ∧ d = none) ∨ ∃ dd, d = some dd ∧ S dd = some (.xd fs)) → Reps K S as (fs.map (·.2)) ts → Rep K S as (.ref a) (.exn a d (fs.map (·.1)) ts)
 | cls {c : Str} : Rep K S as (.ref (ca K c)) (.cls c)
 | exi {a : Addr} {d : Option Addr} {c : Str} {fs : List (Str × V)} {ts : List T} : S a = some (ExF (.ref (ca K c)) d a) → ((fs = [] ∧ d = none) ∨ ∃ dd, d = some dd ∧ S dd = some (.xd fs)) → Reps K S as (fs.map (·.2)) ts → Rep K S as (.ref a) (.exi c (fs.map (·.1)) ts)
inductive Reps (K : PySem.W.Frag) (S : Hp) (as : List Addr) : List V → List T → Prop
 | nil : Reps K S as [] []
 | cons {v : V} {t : T} {vs : List V} {ts : List T} : Rep K S as v t → Reps K S as vs ts → Reps K S as (v :: vs) (t :: ts)
end
def FrzK : HO → Prop
 | .dK _ => True
 | _ => False
def Le (S S' : Hp) : Prop := ∀ a u, S a = some u → S' a = some u ∨ ∃ o, S' a = some (.frz o u) ∧ FrzK u
theorem Le.refl (S : Hp) : Le S S := fun _ _ h => .inl h
theorem Le.trans {S1 S2 S3 : Hp} (h : Le S1 S2) (k : Le S2 S3) : Le S1 S3 := fun a u e => by
 rcases h a u e with x | ⟨o, x, f⟩
 ·exact k a u x
 ·rcases k a _ x with y | ⟨_, _, g⟩
  ·exact .inr ⟨o, y, f⟩
  ·exact g.elim
theorem Le.upd {S : Hp} {a : Addr} {u : HO} (h : S a = none) : Le S (upd S a u) := fun b v e => by
 rw [upd_ne (ne_of_none e h)]; exact .inl e
theorem j13 {S S' : Hp} {a : Addr} {u : HO} (h : Le S S') : Rd S a u → Rd S' a u
 | .inl e => (h _ _ e).imp id fun ⟨o, x, _⟩ => ⟨o, x⟩
 | .inr ⟨o, e⟩ => (h _ _ e).elim (fun x => .inr ⟨o, x⟩) fun ⟨_, _, g⟩ => g.elim
theorem jMk {K : PySem.W.Frag} {S S' : Hp} {a : Addr} {xs : List V} (h : Le S S') : SqN K S a xs → SqN K S' a xs
 | .inl ⟨o, e, d⟩ => (h _ _ e).elim (fun x => .inl ⟨o, x, d⟩) fun ⟨_, _, g⟩ => g.elim
 | .inr e => .inr e
theorem jMh {as as' : List Addr} (p : as <+: as') {n : Nat} {a : Addr} (e : as[n]? = some a) : as'[n]? = some a := by
 obtain ⟨r, rfl⟩ := p
 rw [waM (waf.mp e).1]
 exact e
section
variable {K : PySem.W.Frag} {S S' : Hp} {as as' : List Addr}
mutual
theorem Rep.mono (h : Le S S') (p : as <+: as') : ∀ {v : V} {t : T}, Rep K S as v t → Rep K S' as' v t
 | _, _, .non => .non
 | _, _, .bl b => .bl b
 | _, _, .int i => .int i
 | _, _, .str g => .str g
 | _, _, .tup q z r => .tup (jMk h q) z (Reps.mono h p r)
 | _, _, .lst q z r => .lst (j13 h q) z (Reps.mono h p r)
 | _, _, .dic q z g r => .dic (j13 h q) z g (Reps.mono h p r)
 | _, _, .obj q r => .obj ((h _ _ q).resolve_right fun ⟨_, _, f⟩ => f) (Reps.mono h p r)
 | _, _, .ref e => .ref (jMh p e)
 | _, _, .exn q r => .exn (q.imp id fun ⟨dd, e1, e2⟩ => ⟨dd, e1, (h _ _ e2).resolve_right fun ⟨_, _, f⟩ => f⟩) (Reps.mono h p r)
 | _, _, .cls => .cls
 | _, _, .exi q0 q r => .exi ((h _ _ q0).resolve_right fun ⟨_, _, f⟩ => f) (q.imp id fun ⟨dd, e1, e2⟩ => ⟨dd, e1, (h _ _ e2).resolve_right fun ⟨_, _, f⟩ => f⟩) (Reps.mono h p r)
theorem Reps.mono (h : Le S S') (p : as <+: as') : ∀ {vs : List V} {ts : List T}, Reps K S as vs ts → Reps K S' as' vs ts
 | _, _, .nil => .nil
 | _, _, .cons r rs => .cons (Rep.mono h p r) (Reps.mono h p rs)
end
theorem Reps.length : ∀ {vs : List V} {ts : List T}, Reps K S as vs ts → vs.length = ts.length
 | _, _, .nil => rfl
 | _, _, .cons _ r => wbe (· + 1) r.length
theorem Reps.append : ∀ {vs ws : List V} {ts us : List T}, Reps K S as vs ts → Reps K S as ws us → Reps K S as (vs ++ ws) (ts ++ us)
 | _, _, _, _, .nil, r => r
 | _, _, _, _, .cons a b, r => .cons a (b.append r)
theorem Reps.get : ∀ {vs : List V} {ts : List T} {i : Nat} {t : T}, Reps K S as vs ts → ts[i]? = some t → ∃ v, vs[i]? = some v ∧ Rep K S as v t
 | _, _, _, _, .nil, e => by simp at e
 | _, _, 0, _, .cons r _, e => by simp at e; subst e; exact ⟨_, rfl, r⟩
 | _, _, i + 1, t, .cons _ r, e => by
  obtain ⟨v, h1, h2⟩ := Reps.get (i := i) (t := t) r (by simpa using e)
  exact ⟨v, by simpa using h1, h2⟩
theorem Reps.drop : ∀ {vs : List V} {ts : List T} (n : Nat), Reps K S as vs ts → Reps K S as (vs.drop n) (ts.drop n)
 | _, _, 0, r => r
 | _, _, _ + 1, .nil => .nil
 | _, _, n + 1, .cons _ r => r.drop n
theorem Reps.take : ∀ {vs : List V} {ts : List T} (n : Nat), Reps K S as vs ts → Reps K S as (vs.take n) (ts.take n)
 | _, _, 0, _ => .nil
 | _, _, _ + 1, .nil => .nil
 | _, _, n + 1, .cons a r => .cons a (r.take n)
theorem Reps.set {v : V} {t : T} (h : Rep K S as v t) : ∀ {vs : List V} {ts : List T} (n : Nat), Reps K S as vs ts → Reps K S as (vs.set n v) (ts.set n t)
 | _, _, _, .nil => .nil
 | _, _, 0, .cons _ r => .cons h r
 | _, _, n + 1, .cons a r => .cons a (r.set h n)
theorem Reps.reverse : ∀ {vs : List V} {ts : List T}, Reps K S as vs ts → Reps K S as vs.reverse ts.reverse
 | _, _, .nil => .nil
 | _, _, .cons a r => by
  rw [List.reverse_cons, List.reverse_cons]
  exact r.reverse.append (.cons a .nil)
theorem Reps.replicate {vs : List V} {ts : List T} (h : Reps K S as vs ts) : ∀ n : Nat, Reps K S as (List.replicate n vs).flatten (List.replicate n ts).flatten
 | 0 => .nil
 | n + 1 => by
  rw [List.replicate_succ, List.replicate_succ, List.flatten_cons, List.flatten_cons]
  exact h.append (h.replicate n)
end
inductive RepO (K : PySem.W.Frag) (S : Hp) (as : List Addr) : HO → T → Prop
 | lst {vs : List V} {ts : List T} : vs.length ≤ sizeLine → Reps K S as vs ts → RepO K S as (.lst vs) (.lst ts)
 | dic {kvs : List (Key × V)} {ts : List T} : kvs.length ≤ sizeLine → (∀ p ∈ kvs, KG p.1) → Reps K S as (kvs.map (·.2)) ts → RepO K S as (.dK kvs) (.dic (kvs.map (·.1)) ts)
 | obj {dx : Addr} {fs : List (Str × V)} {c : Str} {ts : List T} : Reps K S as (fs.map (·.2)) ts → RepO K S as (.ins (ca K c) dx fs) (.obj c (fs.map (·.1)) ts)
theorem RepO.mono {K : PySem.W.Frag} {S S' : Hp} {as as' : List Addr} (h : Le S S') (p : as <+: as') : ∀ {u : HO} {t : T}, RepO K S as u t → RepO K S' as' u t
 | _, _, .lst z r => .lst z (r.mono h p)
 | _, _, .dic z g r => .dic z g (r.mono h p)
 | _, _, .obj r => .obj (r.mono h p)
def unM : Option HO → Option HO
 | some (.frz _ w) => some w
 | o => o
theorem jJ5 {o : Option HO} {u : HO} (h : o = some u) : ∃ w, unM o = some w := by subst h; cases u <;> exact ⟨_, rfl⟩
theorem jBj {u : HO} (h : ∀ o w, u ≠ .frz o w) : unM (some u) = some u := by cases u <;> first | rfl | exact absurd rfl (h _ _)
def isO : T → Bool
 | .obj _ _ _ => true
 | _ => false
def j47 : Obj → Option (Addr × Str)
 | ⟨.type c, _, .fields a, _⟩ => if c = "TABLE-MARK" then (match a.toList with
  | [.ref P, .str x _] => some (P, x)
  | _ => none) else none
 | _ => none
def tabs (K : PySem.W.Frag) : List (Addr × Str) := K.filterMap fun q => j47 q.2
structure Mut (u : HO) : Prop where
 frz : ∀ o w, u ≠ .frz o w
 tbl : ∀ ps, u ≠ .tbl ps
 ext : ∀ φ, u ≠ .ext φ
theorem RepO.mut {K : PySem.W.Frag} {S : Hp} {as : List Addr} {u : HO} {t : T} (h : RepO K S as u t) : Mut u := by
 cases h <;> exact ⟨fun _ _ e => (nomatch e), fun _ e => (nomatch e), fun _ e => (nomatch e)⟩
section
open LamX
variable {H H' : Hp} {P a : Addr} {q : Str} {u w : HO}
theorem jI9 (t : TabS H P q) (k : ∀ b w, H b = some w → ((∀ ps, w ≠ .tbl ps) → (∀ φ, w ≠ .ext φ) → False) → H' b = some w) : TabS H' P q := by
 obtain ⟨ps, h1, h2, h3⟩ := t
 refine ⟨ps, k _ _ h1 fun m _ => m _ rfl, h2, fun pos cv hc => ?_⟩
 obtain ⟨c, e1, e2⟩ := h3 pos cv hc
 exact ⟨c, e1, k _ _ e2 fun _ m => m _ rfl⟩
theorem jO6 (t : TabS H P q) (h : H a = none) : TabS (upd H a u) P q := jI9 t fun b w e _ => by rw [upd_ne (ne_of_none e h)]; exact e
end
def NoT (S : Hp) : Prop := ∀ a ps, S a ≠ some (.tbl ps)
def NoF (F : Hp) : Prop := ∀ a ps, unM (F a) ≠ some (.tbl ps)
theorem NoT.upd {S : Hp} {a : Addr} {u : HO} (h : NoT S) (m : ∀ ps, u ≠ .tbl ps) : NoT (L2.upd S a u) := fun b ps e => by
 by_cases q : b = a
 ·subst q
  rw [way] at e
  exact m _ (waA e)
 ·rw [upd_ne q] at e
  exact h _ _ e
theorem NoF.upd {F : Hp} {a : Addr} {u : HO} (h : NoF F) (m : Mut u) : NoF (L2.upd F a u) := fun b ps e => by
 by_cases q : b = a
 ·subst q
  rw [way, jBj m.frz] at e
  exact m.tbl _ (waA e)
 ·rw [upd_ne q] at e
  exact h _ _ e
theorem NoF.off {F : Hp} {a : Addr} {u : HO} (h : NoF (L2.upd F a u)) (n : F a = none) : NoF F := fun b ps e => by
 by_cases q : b = a
 ·subst q
  rw [n] at e
  cases e
 ·exact h b ps (by rw [upd_ne q]; exact e)
theorem NoF.set {F : Hp} {a : Addr} {u u' : HO} (h : NoF (L2.upd F a u)) (m : Mut u') : NoF (L2.upd F a u') := fun b ps e => by
 by_cases q : b = a
 ·subst q
  rw [way, jBj m.frz] at e
  exact m.tbl _ (waA e)
 ·rw [upd_ne q] at e
  exact h b ps (by rw [upd_ne q]; exact e)
structure Sim (K : PySem.W.Frag) (F S : Hp) (as : List Addr) (σ : L2.St) (H : Hp) (E : Env) (C : jAa) : Prop where
 sub' : ∀ a u, S a = some u → H a = some u ∨ ∃ o, H a = some (.frz o u) ∧ FrzK u
 nof : ∀ a o u, S a = some (.frz o u) → (∃ vs, u = .lst vs) ∨ (∃ kvs, u = .dK kvs) ∨ ∃ vs, u = .tup vs
 frm : ∀ a u, unM (F a) = some u → H a = some u ∧ S a = none ∧ a ∉ as
 sh : ∀ (i : Nat) (t : T), E[i]? = some (.sh t) → ∃ v, σ[i]? = some (some v) ∧ Rep K S as v t
 ow : ∀ (i : Nat) (t : T), E[i]? = some (.ow t) → ∃ a u, σ[i]? = some (some (.ref a)) ∧ H a = some u ∧ S a = none ∧ a ∉ as ∧ F a = none ∧ RepO K S as u t
 owd : ∀ (i j : Nat) (t t' : T) (a : Addr), E[i]? = some (.ow t) → E[j]? = some (.ow t') → σ[i]? = some (some (.ref a)) → σ[j]? = some (some (.ref a)) → i = j
 cl : as.length = C.length
 ce : ∀ (n : Nat) (t : T), C[n]? = some t → ∃ a u, as[n]? = some a ∧ H a = some u ∧ S a = none ∧ RepO K S as u t
 nd : as.Nodup
 ln : E.length ≤ σ.length
 pn : ∀ (a : Addr) (q : Obj) (w : HO), F a = some (.frz q w) → (∀ o u, w ≠ .frz o u) ∧ ∀ (i : Nat) (t : T), E[i]? = some (.ow t) → isO t = true → ∃ x, w = .own x ∧ σ[i]? = some (some (.ref x))
 tb : ∀ p ∈ tabs K, LamX.TabS H p.1 p.2 ∧ NoT S ∧ NoF F
section
variable {K : PySem.W.Frag} {F S : Hp} {as : List Addr} {σ : L2.St} {H : Hp} {E : Env} {C : jAa}
theorem Sim.sub (s : Sim K F S as σ H E C) : ∀ a u, S a = some u → Rd H a u := fun a u e => (s.sub' a u e).imp id fun ⟨o, h, _⟩ => ⟨o, h⟩
theorem Sim.rd (s : Sim K F S as σ H E C) {a : Addr} {u : HO} (h : Rd S a u) : Rd H a u := by
 rcases h with e | ⟨o, e⟩
 ·exact s.sub a u e
 ·rcases s.sub' a _ e with h | ⟨o2, h, f⟩
  ·exact .inr ⟨o, h⟩
  ·exact f.elim
theorem Sim.sqT' (s : Sim K F S as σ H E C) {a : Addr} {xs : List V} : SqT K S a xs → SqT K H a xs
 | .inl e => .inl (s.rd e)
 | .inr e => .inr e
theorem Sim.sqT (s : Sim K F S as σ H E C) {a : Addr} {xs : List V} (h : SqN K S a xs) : SqT K H a xs := s.sqT' h.sq
theorem Rd.some {H : Hp} {a : Addr} {u : HO} : Rd H a u → H a ≠ none
 | .inl e, q => by rw [e] at q; cases q
 | .inr ⟨_, e⟩, q => by rw [e] at q; cases q
theorem Sim.laid (s : Sim K F S as σ H E C) {p : Addr} {u : HO} (h : H p = none) : Sim K F S as σ (upd H p u) E C := by
 have hH : ∀ {a : Addr} {v : HO}, H a = some v → upd H p u a = some v := fun {a v} e => by rw [upd_ne (ne_of_none e h)]; exact e
 refine ⟨fun a v e => ?_, s.nof, fun a v e => ?_, s.sh, fun i t e => ?_, s.owd, s.cl, fun n t e => ?_, s.nd, s.ln, s.pn, fun q hq => ⟨jO6 (s.tb q hq).1 h, (s.tb q hq).2⟩⟩
 ·rcases s.sub' a v e with x | ⟨o, x, y⟩
  ·exact .inl (hH x)
  ·exact .inr ⟨o, hH x, y⟩
 ·obtain ⟨x, y, z⟩ := s.frm a v e
  exact ⟨hH x, y, z⟩
 ·obtain ⟨a, v, x, y, z⟩ := s.ow i t e
  exact ⟨a, v, x, hH y, z⟩
 ·obtain ⟨a, v, x, y, z⟩ := s.ce n t e
  exact ⟨a, v, x, hH y, z⟩
end
inductive Vw (K : PySem.W.Frag) (S : Hp) (as : List Addr) (H : Hp) : V → T → Prop
 | non : Vw K S as H .non .non
 | bl (b : Bool) : Vw K S as H (.bl b) (.bl b)
 | int (i : Int) : Vw K S as H (.int i) (.int i)
 | str {x : Str} : SG x → Vw K S as H (.str x) (.str x)
 | tup {a : Addr} {vs : List V} {ts : List T} : SqN K S a vs → vs.length ≤ sizeLine → Reps K S as vs ts → Vw K S as H (.ref a) (.tup ts)
 | lst {a : Addr} {vs : List V} {ts : List T} : Rd H a (.lst vs) → vs.length ≤ sizeLine → Reps K S as vs ts → Vw K S as H (.ref a) (.lst ts)
 | dic {a : Addr} {kvs : List (Key × V)} {ts : List T} : Rd H a (.dK kvs) → kvs.length ≤ sizeLine → (∀ p ∈ kvs, KG p.1) → Reps K S as (kvs.map (·.2)) ts → Vw K S as H (.ref a) (.dic (kvs.map (·.1)) ts)
 | obj {a dx : Addr} {fs : List (Str × V)} {c : Str} {ts : List T} : H a = some (.ins (ca K c) dx fs) → Reps K S as (fs.map (·.2)) ts → Vw K S as H (.ref a) (.obj c (fs.map (·.1)) ts)
 | ref {n : Nat} {a : Addr} : as[n]? = some a → Vw K S as H (.ref a) (.ref n)
 | exn {a : Addr} {d : Option Addr} {fs : List (Str × V)} {ts : List T} : ((fs = [] ∧ d = none) ∨ ∃ dd, d = some dd ∧ S dd = some (.xd fs)) → Reps K S as (fs.map (·.2)) ts → Vw K S as H (.ref a) (.exn a d (fs.map (·.1)) ts)
 | cls {c : Str} : Vw K S as H (.ref (ca K c)) (.cls c)
 | exi {a : Addr} {d : Option Addr} {c : Str} {fs : List (Str × V)} {ts : List T} : S a = some (ExF (.ref (ca K c)) d a) → ((fs = [] ∧ d = none) ∨ ∃ dd, d = some dd ∧ S dd = some (.xd fs)) → Reps K S as (fs.map (·.2)) ts → Vw K S as H (.ref a) (.exi c (fs.map (·.1)) ts)
def RepW (K : PySem.W.Frag) (σ : L2.St) (E : Env) : Hp → List Addr → Hp → V → T → Prop := fun S as _ v t =>
 Rep K S as v t ∨ ∃ i : Nat, E[i]? = some (.ow t) ∧ σ[i]? = some (some v)
section
variable {K : PySem.W.Frag} {F S : Hp} {as : List Addr} {σ : L2.St} {H : Hp} {E : Env} {C : jAa}
theorem RepO.vw {a : Addr} {u : HO} {t : T} (h : RepO K S as u t) (e : H a = some u) : Vw K S as H (.ref a) t := by
 cases h with
 | lst z r => exact .lst (.inl e) z r
 | dic z g r => exact .dic (.inl e) z g r
 | obj r => exact .obj e r
theorem Rep.vw {v : V} {t : T} (r : Rep K S as v t) (s : Sim K F S as σ H E C) : Vw K S as H v t := by
 cases r with
 | non => exact .non
 | bl b => exact .bl b
 | int i => exact .int i
 | str g => exact .str g
 | tup q z r => exact .tup q z r
 | lst q z r => exact .lst (s.rd q) z r
 | dic q z g r => exact .dic (s.rd q) z g r
 | obj q r => exact .obj ((s.sub' _ _ q).resolve_right fun ⟨_, _, h⟩ => h) r
 | ref e => exact .ref e
 | exn e r => exact .exn e r
 | cls => exact .cls
 | exi q0 e r => exact .exi q0 e r
theorem RepW.vw {H0 : Hp} {v : V} {t : T} (r : RepW K σ E S as H0 v t) (s : Sim K F S as σ H E C) : Vw K S as H v t := by
 rcases r with r | ⟨i, e1, e2⟩
 ·exact r.vw s
 ·obtain ⟨a, u, x, y, _, _, _, ro⟩ := s.ow i t e1
  rw [x] at e2
  cases e2
  exact ro.vw y
theorem RepW.mono {S' : Hp} {as' : List Addr} {H0 H1 : Hp} {v : V} {t : T} (r : RepW K σ E S as H0 v t) (l : Le S S') (p : as <+: as') : RepW K σ E S' as' H1 v t := by
 rcases r with r | r
 ·exact .inl (r.mono l p)
 ·exact .inr r
theorem Vw.deref {v : V} {t : T} (r : Vw K S as H v t) (s : Sim K F S as σ H E C) : Vw K S as H v (jAu C t) := by
 cases r with
 | ref e =>
  rename_i n a
  have hn : n < C.length := by rw [← s.cl]; exact (waf.mp e).1
  obtain ⟨b, u, eb, hb, _, ro⟩ := s.ce n C[n] (wad hn)
  rw [e] at eb
  cases eb
  have : jAu C (.ref n) = C[n] := by
   show C.getD n .non = _
   simp [List.getD, wad hn]
  rw [this]
  exact ro.vw hb
 | non => exact .non
 | bl b => exact .bl b
 | int i => exact .int i
 | str g => exact .str g
 | tup q z r => exact .tup q z r
 | lst q z r => exact .lst q z r
 | dic q z g r => exact .dic q z g r
 | obj q r => exact .obj q r
 | exn q r => exact .exn q r
 | cls => exact .cls
 | exi q0 q r => exact .exi q0 q r
end
abbrev RX := PySem.W.Frag → Hp → List Addr → Value → Option Addr → T → Hp → Prop
def Out {α β : Type} (K : PySem.W.Frag) (rx : RX) (W : WX) (F : Hp) (σ : L2.St) (E : Env) (r : Res α) (R : Hp → List Addr → Hp → β → α → Prop) (S : Hp) (as : List Addr) (Q : β → Hp → Prop) : Prop :=
 match r with
 | .ok t C' => ∀ v S' as' H', Le S S' → as <+: as' → Sim K F S' as' σ H' E C' → R S' as' H' v t → Q v H'
 | .exc x C' => ∀ cls d S' as' H', Le S S' → as <+: as' → Sim K F S' as' σ H' E C' → rx K S' as' cls d x H' → W cls d σ H'
 | .stuck _ => False
abbrev RepR (K : PySem.W.Frag) : Hp → List Addr → Hp → V → T → Prop := fun S as _ v t => Rep K S as v t
def RepN (K : PySem.W.Frag) (F : Hp) (σ : L2.St) (E : Env) (S : Hp) (as : List Addr) (H : Hp) (v : V) (t : T) : Prop :=
 ∃ a u, v = .ref a ∧ H a = some u ∧ S a = none ∧ a ∉ as ∧ F a = none ∧ (∀ (j : Nat) t', E[j]? = some (.ow t') → σ[j]? ≠ some (some (.ref a))) ∧ RepO K S as u t
section
variable {K : PySem.W.Frag} {rx : RX} {W : WX} {F S S' : Hp} {as as' : List Addr} {σ : L2.St} {H : Hp} {E : Env} {C : jAa} {α β α' β' : Type}
theorem Out.mono {r : Res α} {R : Hp → List Addr → Hp → β → α → Prop} {Q : β → Hp → Prop} (h : Out K rx W F σ E r R S as Q) (l : Le S S') (p : as <+: as') : Out K rx W F σ E r R S' as' Q := by
 cases r with
 | ok t C' => exact fun v S2 as2 H2 l2 p2 => h v S2 as2 H2 (l.trans l2) (p.trans p2)
 | exc x C' => exact fun cls d S2 as2 H2 l2 p2 => h cls d S2 as2 H2 (l.trans l2) (p.trans p2)
 | stuck w => exact h
theorem Out.bind {ma : M α} {f : α → M α'} {Ra : Hp → List Addr → Hp → β → α → Prop} {Rc : Hp → List Addr → Hp → β' → α' → Prop} {Q : β' → Hp → Prop} {Q1 : β → Hp → Prop} (out : Out K rx W F σ E (M.bind ma f C) Rc S as Q)
  (k : ∀ v t S' as' H' C', Le S S' → as <+: as' → Sim K F S' as' σ H' E C' → Ra S' as' H' v t → Out K rx W F σ E (f t C') Rc S' as' Q → Q1 v H') : Out K rx W F σ E (ma C) Ra S as Q1 := by
 unfold M.bind at out
 cases e : ma C with
 | ok t C' =>
  rw [e] at out
  exact fun v S2 as2 H2 l2 p2 sim r => k v t S2 as2 H2 C' l2 p2 sim r (Out.mono out l2 p2)
 | exc x C' => rw [e] at out; exact out
 | stuck w => rw [e] at out; exact out
theorem Out.here {R : Hp → List Addr → Hp → β → α → Prop} {Q : β → Hp → Prop} {t : α} {v : β} (h : Out K rx W F σ E (.ok t C) R S as Q) (s : Sim K F S as σ H E C) (r : R S as H v t) : Q v H := h v S as H (Le.refl S) (was as) s r
theorem Out.lift {w : String} {o : Option α} {R : Hp → List Addr → Hp → β → α → Prop} {Q : β → Hp → Prop} (h : Out K rx W F σ E (lift w o C) R S as Q) : ∃ t, o = some t ∧ Out K rx W F σ E (.ok t C) R S as Q := by
 cases o with
 | none => exact False.elim h
 | some t => exact ⟨t, rfl, h⟩
theorem Out.liftB {w : String} {o : Option α} {f : α → M α'} {R : Hp → List Addr → Hp → β' → α' → Prop} {Q : β' → Hp → Prop} (h : Out K rx W F σ E (M.bind (SI.lift w o) f C) R S as Q) : ∃ t, o = some t ∧ Out K rx W F σ E (f t C) R S as Q := by
 cases o with
 | none => exact False.elim h
 | some t => exact ⟨t, rfl, h⟩
theorem Out.needB {w : String} {b : Bool} {f : Unit → M α'} {R : Hp → List Addr → Hp → β' → α' → Prop} {Q : β' → Hp → Prop} (h : Out K rx W F σ E (M.bind (SI.need w b) f C) R S as Q) : b = true ∧ Out K rx W F σ E (f () C) R S as Q := by
 cases b with
 | false => exact False.elim h
 | true => exact ⟨rfl, h⟩
end
abbrev tupO (its : List Value) : Obj := { cls := .type "tuple", data := .seq its.toArray }
def NewT (Q : VK) (H : Hp) (vs : List V) : Prop := ∀ (p : Addr) (o : Obj), H p = none → o.dict = none → Q (.ref p) (upd H p (.frz o (.tup vs)))
section
variable {X : Cx} {pins : List (Addr × Obj)} {σ : L2.St} {H : Hp} {s : Shared} {Q : VK} {vs : List V} {its : List Value}
theorem jO4 (I : Inv X pins σ H s) (r : Vals vs its) (z : vs.length ≤ sizeLine) (q : NewT Q H vs) : EP X pins σ Q (.ref s.heap.objs.size) { s with heap := s.heap.push (tupO its) } := by
 have new : ObjOk X.prog X.w (upd H s.heap.objs.size (.frz (tupO its) (.tup vs))) (s.heap.push (tupO its)) s.heap.objs.size (.frz (tupO its) (.tup vs)) := ⟨waS _ rfl, z, its, r, IsTup.new _ _⟩
 refine ⟨V.ref s.heap.objs.size, _, I.laid (t' := s.toks) (fun b ob e => wap _ e) (waK _) new, rfl, ?_⟩
 exact q _ _ (I.hok.fresh (waK _)) rfl
def rSlN (K : PySem.W.Frag) : V → Option Int → Option Int → Hp → VK → Prop := fun x lo hi H Q => ∃ a xs, x = .ref a ∧ SqT K H a xs ∧ (HT.sIx xs.length 0 lo = 0 ∧ HT.sIx xs.length xs.length hi = xs.length → Q (.ref a) H) ∧ (¬ (HT.sIx xs.length 0 lo = 0 ∧ HT.sIx xs.length xs.length hi = xs.length) → NewT Q H (cutV xs lo hi))
theorem jTp : SlR X (rSlN X.K) := by
 rintro pins s σ H x v vl vu lo hi sl Q I rx hs pl pu ⟨a, xs, rfl, hx, q1, q2⟩
 by_cases hw : HT.sIx xs.length 0 lo = 0 ∧ HT.sIx xs.length xs.length hi = xs.length
 ·exact sl_tupA pins s σ H _ v vl vu lo hi sl Q I rx hs pl pu ⟨a, xs, rfl, hx, q1, fun h => absurd hw h⟩
 cases rx
 obtain ⟨its, r, ht, z⟩ := I.tuple hx
 have l := r.length
 have e : its.toArray.size = xs.length := by rw [waI]; omega
 refine ⟨"tuple", _, PyProof.Rows.slot_tuple_getitem.lookup, ht.typeIs, HT.getItem_tuple_cut ht hs pl pu (by rw [e]; exact hw) ?_ (by rw [e]; exact z)⟩
 rw [e]
 exact jO4 I ((r.drop _).take _) (wau (cutV_length xs lo hi) z) (q2 hw)
end
section
variable {K : PySem.W.Frag} {rx : RX} {W : WX} {F S S' : Hp} {as as' : List Addr} {σ : L2.St} {H : Hp} {E : Env} {C : jAa}
theorem RepO.rep {a : Addr} {u : HO} {t : T} (h : RepO K S as u t) (e : S a = some u) : Rep K S as (.ref a) t := by
 cases h with
 | lst z r => exact .lst (.inl e) z r
 | dic z g r => exact .dic (.inl e) z g r
 | obj r => exact .obj e r
theorem RepO.nofrz {u : HO} {t : T} (h : RepO K S as u t) : ∀ o w, u ≠ .frz o w := by
 intro o w e
 subst e
 cases h
theorem Sim.settle (s : Sim K F S as σ H E C) {a : Addr} {u : HO} (hH : H a = some u) (hS : S a = none) (hc : a ∉ as) (hF : F a = none) (ho : ∀ (j : Nat) t', E[j]? = some (.ow t') → σ[j]? ≠ some (some (.ref a))) (nf : Mut u) :
  Sim K F (upd S a u) as σ H E C := by
 have l : Le S (upd S a u) := Le.upd hS
 have pr : as <+: as := was _
 refine ⟨fun b v e => ?_, fun b o w e => ?_, fun b v e => ?_, fun i t e => ?_, fun i t e => ?_, s.owd, s.cl, fun n t e => ?_, s.nd, s.ln, s.pn, fun q hq => ⟨(s.tb q hq).1, (s.tb q hq).2.1.upd nf.tbl, (s.tb q hq).2.2⟩⟩
 ·by_cases q : b = a
  ·subst q; rw [way] at e; cases e; exact .inl hH
  ·rw [upd_ne q] at e; exact s.sub' b v e
 ·by_cases q : b = a
  ·subst q; rw [way] at e; cases e; exact (nf.frz _ _ rfl).elim
  ·rw [upd_ne q] at e; exact s.nof b o w e
 ·obtain ⟨x, y, z⟩ := s.frm b v e
  have q : b ≠ a := by rintro rfl; rw [hF] at e; exact nomatch (show none = some v from e)
  exact ⟨x, by rw [upd_ne q]; exact y, z⟩
 ·obtain ⟨v, x, r⟩ := s.sh i t e
  exact ⟨v, x, r.mono l pr⟩
 ·obtain ⟨b, v, x, y, z, z1, z2, r⟩ := s.ow i t e
  have q : b ≠ a := by rintro rfl; exact ho i t e x
  exact ⟨b, v, x, y, by rw [upd_ne q]; exact z, z1, z2, r.mono l pr⟩
 ·obtain ⟨b, v, x, y, z, r⟩ := s.ce n t e
  have q : b ≠ a := by rintro rfl; exact hc (waP x)
  exact ⟨b, v, x, y, by rw [upd_ne q]; exact z, r.mono l pr⟩
def RepF (K : PySem.W.Frag) (F : Hp) (σ : L2.St) (E : Env) : Hp → List Addr → Hp → V → T → Prop := fun S as H v t => match t with
 | .lst _ => RepN K F σ E S as H v t
 | .dic _ _ => RepN K F σ E S as H v t
 | _ => Rep K S as v t
theorem Out.settle {r : Res T} {Q : VK} (h : Out K rx W F σ E r (RepR K) S as Q) : Out K rx W F σ E r (RepF K F σ E) S as Q := by
 cases r with
 | exc x C' => exact h
 | stuck w => exact h
 | ok t C' =>
  intro v S2 as2 H2 l p sim r
  have new : RepN K F σ E S2 as2 H2 v t → Q v H2 := fun ⟨a, u, ev, hH, hS, hc, hF, ho, ro⟩ => by
   subst ev
   have hl := Le.upd (u := u) hS
   exact h (.ref a) (upd S2 a u) as2 H2 (l.trans hl) p (sim.settle hH hS hc hF ho ro.mut) ((ro.mono hl (was _)).rep way)
  cases t with
  | lst xs => exact new r
  | dic ks vs => exact new r
  | _ => exact h v S2 as2 H2 l p sim r
theorem jAm : ∀ ts : List T, (∀ t ∈ ts, (toD t).canLay0 = true) → PyData.canLayAll0 (toDs ts) = true
 | [], _ => by simp [toDs, PyData.canLayAll0]
 | t :: ts, h => by
  simp only [toDs, PyData.canLayAll0, wab]
  exact ⟨h t wah, jAm ts fun u hu => h u (wak _ hu)⟩
theorem jAn {n : Nat} : ∀ ts : List T, (∀ t ∈ ts, (toD t).depth ≤ n) → PyData.depthAll (toDs ts) ≤ n
 | [], _ => by simp [toDs, PyData.depthAll]
 | t :: ts, h => by
  simp only [toDs, PyData.depthAll]
  have h1 := h t wah
  have h2 := jAn ts fun u hu => h u (wak _ hu)
  omega
structure DP (K : PySem.W.Frag) (H : Hp) (n : Nat) (v : V) (t : T) : Prop where
 dp : Dp K H v (toD t)
 lay : (toD t).canLay0 = true
 dep : (toD t).depth ≤ n
theorem dps {n : Nat} (ih : ∀ v t, Rep K S as v t → dat n t = true → DP K H n v t) : ∀ vs ts, Reps K S as vs ts → ts.all (dat n) = true → DpAll K H vs (toDs ts) ∧ (∀ t ∈ ts, (toD t).canLay0 = true) ∧ ∀ t ∈ ts, (toD t).depth ≤ n
 | _, _, .nil, _ => ⟨by simp only [toDs]; exact .nil, by simp, by simp⟩
 | v :: vs, t :: ts, .cons r rs, h => by
  rw [waR, wab] at h
  obtain ⟨a, b, c⟩ := dps ih vs ts rs h.2
  have d := ih v t r h.1
  refine ⟨by simp only [toDs]; exact .cons d.dp a, fun u hu => ?_, fun u hu => ?_⟩
  ·rcases waE.mp hu with rfl | hu
   ·exact d.lay
   ·exact b u hu
  ·rcases waE.mp hu with rfl | hu
   ·exact d.dep
   ·exact c u hu
theorem Rep.dp (s : Sim K F S as σ H E C) : ∀ n v t, Rep K S as v t → dat n t = true → DP K H n v t := by
 intro n
 induction n with
 | zero =>
  intro v t r h
  cases r with
  | non => exact ⟨by simp only [toD]; exact .non, by simp [toD, PyData.canLay0], by simp [toD, PyData.depth]⟩
  | bl b => exact ⟨by simp only [toD]; exact .bl b, by simp [toD, PyData.canLay0], by simp [toD, PyData.depth]⟩
  | int i => exact ⟨by simp only [toD]; exact .int i, by simp [toD, PyData.canLay0], by simp [toD, PyData.depth]⟩
  | str g => exact ⟨by simp only [toD]; exact .str _, by simp only [toD, PyData.canLay0]; exact g.ok, by simp [toD, PyData.depth]⟩
  | tup => simp [dat] at h
  | lst => simp [dat] at h
  | dic => simp [dat] at h
  | obj => simp [dat] at h
  | ref => simp [dat] at h
  | exn => simp [dat] at h
  | cls => simp [dat] at h
  | exi => simp [dat] at h
 | succ n ih =>
  intro v t r h
  cases r with
  | non => exact ⟨by simp only [toD]; exact .non, by simp [toD, PyData.canLay0], by simp [toD, PyData.depth]⟩
  | bl b => exact ⟨by simp only [toD]; exact .bl b, by simp [toD, PyData.canLay0], by simp [toD, PyData.depth]⟩
  | int i => exact ⟨by simp only [toD]; exact .int i, by simp [toD, PyData.canLay0], by simp [toD, PyData.depth]⟩
  | str g => exact ⟨by simp only [toD]; exact .str _, by simp only [toD, PyData.canLay0]; exact g.ok, by simp [toD, PyData.depth]⟩
  | @tup a vs ts q z rs =>
   obtain ⟨x, y, w⟩ := dps ih vs ts rs (by simpa [dat] using h)
   refine ⟨by simp only [toD]; exact .tup (s.sqT q) x, by simp only [toD, PyData.canLay0]; exact jAm ts y, ?_⟩
   simp only [toD, PyData.depth]
   have := jAn ts w
   omega
  | @lst a vs ts q z rs =>
   obtain ⟨x, y, w⟩ := dps ih vs ts rs (by simpa [dat] using h)
   refine ⟨by simp only [toD]; exact .lst (.inl (s.rd q)) x, by simp only [toD, PyData.canLay0]; exact jAm ts y, ?_⟩
   simp only [toD, PyData.depth]
   have := jAn ts w
   omega
  | dic => simp [dat] at h
  | obj => simp [dat] at h
  | ref => simp [dat] at h
  | exn => simp [dat] at h
  | cls => simp [dat] at h
  | exi => simp [dat] at h
theorem Vw.dp (s : Sim K F S as σ H E C) {n : Nat} {v : V} {t : T} (r : Vw K S as H v t) (h : dat n t = true) : DP K H n v t := by
 cases r with
 | non => exact Rep.dp s n _ _ .non h
 | bl b => exact Rep.dp s n _ _ (.bl b) h
 | int i => exact Rep.dp s n _ _ (.int i) h
 | str g => exact Rep.dp s n _ _ (.str g) h
 | @tup a vs ts q z rs =>
  cases n with
  | zero => simp [dat] at h
  | succ n =>
   obtain ⟨x, y, w⟩ := dps (fun v t r h => Rep.dp s n v t r h) vs ts rs (by simpa [dat] using h)
   refine ⟨by simp only [toD]; exact .tup (s.sqT q) x, by simp only [toD, PyData.canLay0]; exact jAm ts y, ?_⟩
   simp only [toD, PyData.depth]
   have := jAn ts w
   omega
 | @lst a vs ts q z rs =>
  cases n with
  | zero => simp [dat] at h
  | succ n =>
   obtain ⟨x, y, w⟩ := dps (fun v t r h => Rep.dp s n v t r h) vs ts rs (by simpa [dat] using h)
   refine ⟨by simp only [toD]; exact .lst (.inl q) x, by simp only [toD, PyData.canLay0]; exact jAm ts y, ?_⟩
   simp only [toD, PyData.depth]
   have := jAn ts w
   omega
 | dic => cases n <;> simp [dat] at h
 | obj => cases n <;> simp [dat] at h
 | ref => cases n <;> simp [dat] at h
 | exn => cases n <;> simp [dat] at h
 | cls => cases n <;> simp [dat] at h
 | exi => cases n <;> simp [dat] at h
end
section
variable {X : Cx} {rx : RX} {W : WX}
theorem jAp {n : Nat} (h : szOk n = true) : n ≤ sizeLine := waC h
theorem SG.append {a b : Str} (ha : SG a) (hb : SG b) (h : a.length + b.length ≤ sizeLine) : SG (a ++ b) := by
 refine ⟨?_, ?_⟩
 ·have e : (a ++ b).length = a.length + b.length := by
   show (a.cps ++ b.cps).size = _
   rw [Array.size_append] <;> rfl
  rw [e]; exact h
 ·have h1 := ha.ok
  have h2 := hb.ok
  unfold PyData.strOk at h1 h2 ⊢
  show (a.cps ++ b.cps).all _ = true
  rw [Array.all_append, h1, h2]
  rfl
end
def tst (Φ : Calls) (x : Ex) (E : Env) : M Bool := M.bind (ev Φ x E) (truM Φ)
def NoOw (is : List Nat) (E : Env) : Prop := ∀ i ∈ is, ∀ t, E[i]? ≠ some (.ow t)
theorem NoOw.left {is js : List Nat} {E : Env} (h : NoOw (is ++ js) E) : NoOw is E := fun i hi => h i (waJ _ hi)
theorem NoOw.right {is js : List Nat} {E : Env} (h : NoOw (is ++ js) E) : NoOw js E := fun i hi => h i (waG _ hi)
theorem NoOw.nil {E : Env} : NoOw [] E := fun i hi => by cases hi
abbrev RR (β α : Type) := Hp → L2.St → Env → Hp → List Addr → Hp → β → α → Prop
def Dn {α β : Type} (K : PySem.W.Frag) (rx : RX) (W : WX) (is : List Nat) (m : Env → M α) (R : RR β α) (σ : L2.St) (H : Hp) (Q : β → Hp → Prop) : Prop :=
 ∃ F S as E C, Sim K F S as σ H E C ∧ NoOw is E ∧ Out K rx W F σ E (m E C) (R F σ E) S as Q
def rE (K : PySem.W.Frag) : RR V T := fun _ _ _ S as _ v t => Rep K S as v t
def rF (K : PySem.W.Frag) : RR V T := fun F σ E => RepF K F σ E
def rW (K : PySem.W.Frag) : RR V T := fun _ σ E => RepW K σ E
def rB : RR Bool Bool := fun _ _ _ _ _ _ a b => a = b
abbrev DE (K : PySem.W.Frag) (rx : RX) (W : WX) (Φ : Calls) (x : Ex) : TE := Dn K rx W (escE x) (ev Φ x) (rE K)
abbrev DW (K : PySem.W.Frag) (rx : RX) (W : WX) (Φ : Calls) (x : Ex) : TE := Dn K rx W (trE x) (ev Φ x) (rW K)
abbrev DF (K : PySem.W.Frag) (rx : RX) (W : WX) (Φ : Calls) (x : Ex) : TE := Dn K rx W (escE x) (ev Φ x) (rF K)
abbrev DT (K : PySem.W.Frag) (rx : RX) (W : WX) (Φ : Calls) (x : Ex) : TT := Dn K rx W (trE x) (tst Φ x) rB
section
variable {K : PySem.W.Frag} {rx : RX} {W : WX} {F S : Hp} {as : List Addr} {σ : L2.St} {H : Hp} {E : Env} {C : jAa} {α β α' β' : Type}
theorem Out.imp {r : Res α} {R R' : Hp → List Addr → Hp → β → α → Prop} {Q : β → Hp → Prop} (h : Out K rx W F σ E r R S as Q) (k : ∀ S as H v t, R' S as H v t → R S as H v t) : Out K rx W F σ E r R' S as Q := by
 cases r with
 | ok t C' => exact fun v S2 as2 H2 l p sim r => h v S2 as2 H2 l p sim (k _ _ _ _ _ r)
 | exc x C' => exact h
 | stuck w => exact h
end
theorem jEq {x : Str} (h : PyData.strOk x = true) : ∀ c ∈ x.cps.toList, c < 0x110000 := fun c hc => by
 unfold PyData.strOk at h
 rw [← Array.all_toList, wag] at h
 exact waC (h c hc)
theorem jGf {x : Str} (h : ∀ c ∈ x.cps.toList, c < 0x110000) : PyData.strOk x = true := by
 unfold PyData.strOk
 rw [← Array.all_toList, wag]
 exact fun c hc => waU (h c hc)
inductive AllR (R : V → T → Prop) : List V → List T → Prop
 | nil : AllR R [] []
 | cons {v : V} {t : T} {vs : List V} {ts : List T} : R v t → AllR R vs ts → AllR R (v :: vs) (t :: ts)
theorem AllR.imp {R R' : V → T → Prop} (h : ∀ v t, R v t → R' v t) : ∀ {vs : List V} {ts : List T}, AllR R vs ts → AllR R' vs ts
 | _, _, .nil => .nil
 | _, _, .cons r rs => .cons (h _ _ r) (rs.imp h)
section
variable {X : Cx} {rx : RX} {W : WX} {Φ : Calls} {a b c : Expr} {xa xb xc : Ex} {pos : Pos}
theorem SG.sign {x : Str} (g : SG x) {k c : Nat} (h : x.cps[k]? = some c) : SG ⟨#[c]⟩ := by
 refine ⟨?_, jGf fun d hd => ?_⟩
 ·show 1 ≤ sizeLine
  rw [waN]; decide
 ·simp only [waE, List.not_mem_nil, or_false] at hd
  subst hd
  exact jEq g.ok _ (by
   have := Array.mem_of_getElem? h
   simpa using this)
theorem SG.cut {x : Str} (g : SG x) (lo hi : Option Int) : SG (cutS x lo hi) := by
 refine ⟨wau (cutS_length x lo hi) g.len, jGf fun d hd => ?_⟩
 unfold cutS at hd
 simp only at hd
 exact jEq g.ok _ (List.mem_of_mem_drop (List.mem_of_mem_take hd))
end
mutual
inductive RdX (h : Heap) : Value → PyData → Prop
 | none : RdX h .none .none
 | bool (b) : RdX h (.bool b) (.bool b)
 | int (i t) : RdX h (.int i t) (.int i)
 | str (x t) : RdX h (.str x t) (.str x)
 | list {a o vs n xs} : h.get? a = some o → o.cls = .type "list" → o.data = .seq vs n → RdXs h vs.toList xs → RdX h (.ref a) (.list xs)
 | tuple {a o vs n xs} : h.get? a = some o → o.cls = .type "tuple" → o.data = .seq vs n → RdXs h vs.toList xs → RdX h (.ref a) (.tuple xs)
 | dict {a o n} : h.get? a = some o → o.cls = .type "dict" → o.data = .dict #[] n → (a == sysModules) = false → RdX h (.ref a) (.dict [])
inductive RdXs (h : Heap) : List Value → List PyData → Prop
 | nil : RdXs h [] []
 | cons {v vs d ds} : RdX h v d → RdXs h vs ds → RdXs h (v :: vs) (d :: ds)
end
mutual
theorem RdX.reads {h : Heap} : ∀ {v : Value} {d : PyData}, RdX h v d → ∃ as, Reads h v d as
 | _, _, .none => ⟨_, .none⟩
 | _, _, .bool b => ⟨_, .bool b⟩
 | _, _, .int i t => ⟨_, .int i t⟩
 | _, _, .str x t => ⟨_, .str x t⟩
 | _, _, .list h1 h2 h3 h4 => by obtain ⟨as, r⟩ := h4.reads; exact ⟨_, .list h1 h2 h3 r⟩
 | _, _, .tuple h1 h2 h3 h4 => by obtain ⟨as, r⟩ := h4.reads; exact ⟨_, .tuple h1 h2 h3 r⟩
 | _, _, .dict h1 h2 h3 _ => ⟨_, .dict (as := []) (bs := []) h1 h2 h3 .nil .nil⟩
theorem RdXs.reads {h : Heap} : ∀ {vs : List Value} {ds : List PyData}, RdXs h vs ds → ∃ as, ReadsAll h vs ds as
 | _, _, .nil => ⟨_, .nil⟩
 | _, _, .cons r rs => by
  obtain ⟨as, r1⟩ := r.reads
  obtain ⟨bs, r2⟩ := rs.reads
  exact ⟨_, .cons r1 r2⟩
end
section
variable {prog : Program} {w : World} {h₀ : Heap}
mutual
theorem RdX.rk : ∀ {v : Value} {d : PyData}, RdX h₀ v d → d.showable = true → d.shown.length ≤ sizeLine → ∃ bs, ReadAtMost h₀ d.depth bs ∧ ReprK prog w bs h₀ d.depth v d.shown
 | _, _, .none, _, _ => ⟨[], (fun _ h => nomatch h), by simp only [PyData.shown]; exact .of_is ReprIs.none _ _ _⟩
 | _, _, .bool b, _, _ => ⟨[], (fun _ h => nomatch h), by simp only [PyData.shown]; exact .of_is (ReprIs.bool b) _ _ _⟩
 | _, _, .int i t, hs, _ => ⟨[], (fun _ h => nomatch h), by simp only [PyData.shown]; exact .of_is (ReprIs.int t (by simpa [PyData.showable] using hs)) _ _ _⟩
 | _, _, .str x t, _, hz => ⟨[], (fun _ h => nomatch h), by simp only [PyData.shown]; exact .of_is (ReprIs.str x t (by simpa only [PyData.shown] using hz)) _ _ _⟩
 | _, _, .list (a := a) (vs := vs) (xs := xs) h1 h2 h3 h4, hs, hz => by
  have hz' : (listText (PyData.shownAll xs)).length ≤ sizeLine := by simpa only [PyData.shown] using hz
  obtain ⟨bs, hb, hk⟩ := h4.rk (by simpa [PyData.showable] using hs) (fun t ht => wau (listText_mem_le ht) hz')
  obtain ⟨as, r⟩ := (RdX.list h1 h2 h3 h4).reads
  have hna : a ∉ bs := wbm r (by simp only [PyData.depth]; omega) hb
  refine ⟨a :: bs, ReadAtMost.cons r (by simp only [PyData.depth]; omega) hb, ?_⟩
  simp only [PyData.depth, PyData.shown]
  obtain ⟨l⟩ := vs
  cases l with
  | nil =>
   have h4' : RdXs h₀ [] xs := h4
   cases h4'
   simp only [PyData.shownAll, listText_nil]
   exact ReprK.listEmpty h1 h2 h3
  | cons x l => exact ReprK.list h1 h2 h3 hna (by simpa using hk.length_eq) (fun i y e => hk.item i y (by simpa using e))
 | _, _, .tuple (a := a) (xs := xs) h1 h2 h3 h4, hs, hz => by
  have hz' : (tupleText (PyData.shownAll xs)).length ≤ sizeLine := by simpa only [PyData.shown] using hz
  obtain ⟨bs, hb, hk⟩ := h4.rk (by simpa [PyData.showable] using hs) (fun t ht => wau (tupleText_mem_le ht) hz')
  obtain ⟨as, r⟩ := (RdX.tuple h1 h2 h3 h4).reads
  have hna : a ∉ bs := wbm r (by simp only [PyData.depth]; omega) hb
  refine ⟨a :: bs, ReadAtMost.cons r (by simp only [PyData.depth]; omega) hb, ?_⟩
  simp only [PyData.depth, PyData.shown]
  exact ReprK.tuple h1 h2 h3 hna hk
 | _, _, .dict (a := a) h1 h2 h3 h4, hs, hz => by
  obtain ⟨as, r⟩ := (RdX.dict h1 h2 h3 h4).reads
  refine ⟨[a], fun b hb => ⟨.dict [], as, by rw [waB.mp hb]; exact r, waK _⟩, ?_⟩
  simp only [PyData.depth, PyData.shown, PyData.shownKv]
  exact ReprK.dict h1 h2 h3 h4 (by simp) .nil
theorem RdXs.rk : ∀ {vs : List Value} {ds : List PyData}, RdXs h₀ vs ds → PyData.showableAll ds = true → (∀ t ∈ PyData.shownAll ds, t.length ≤ sizeLine) → ∃ bs, ReadAtMost h₀ (PyData.depthAll ds) bs ∧ ReprAllK prog w bs h₀ (PyData.depthAll ds) vs (PyData.shownAll ds)
 | _, _, .nil, _, _ => ⟨[], (fun _ h => nomatch h), by simp only [PyData.shownAll]; exact .nil⟩
 | _, _, .cons r rs, hs, hz => by
  rename_i d ds
  have hs' : d.showable = true ∧ PyData.showableAll ds = true := by simpa [PyData.showableAll] using hs
  obtain ⟨b1, hb1, k1⟩ := r.rk hs'.1 (hz _ (by simp only [PyData.shownAll]; exact wah ..))
  obtain ⟨b2, hb2, k2⟩ := rs.rk hs'.2 (fun t ht => hz t (by simp only [PyData.shownAll]; exact wak _ ht))
  refine ⟨b1 ++ b2, ?_, ?_⟩
  ·intro b hm
   simp only [PyData.depthAll]
   rcases wa1.mp hm with hm | hm
   ·obtain ⟨d', as', r', hd'⟩ := hb1 b hm
    exact ⟨d', as', r', wau hd' (Nat.le_max_left _ _)⟩
   ·obtain ⟨d', as', r', hd'⟩ := hb2 b hm
    exact ⟨d', as', r', wau hd' (Nat.le_max_right _ _)⟩
  ·simp only [PyData.depthAll, PyData.shownAll]
   exact .cons ((k1.more fun b hb => waJ _ hb).level_le (Nat.le_max_left _ _)) (k2.more_le (fun b hb => waG _ hb) (Nat.le_max_right _ _))
end
end
section
variable {X : Cx} {rx : RX} {W : WX} {Φ : Calls} {a b e : Expr} {xa : Ex} {xs : Exs} {es : List Expr} {pos p : Pos} {x : Str} {id Tn : String}
structure j6r (K : PySem.W.Frag) (c : Str) : Prop where
 cls : Cls K (ca K c)
 cc : PySem.W.findIn K (.ref (ca K c)) "__class__" = some (some (.builtin "object.__class__"))
 mro : PySem.W.mroIn K (ca K c) (.type "object") = some true
structure jMr (K : PySem.W.Frag) : Prop where
 sp : PySem.W.specialIn K (.builtin "object.__class__") "__get__" = some (some (.builtin "getset_descriptor.__get__"))
 tk : PySem.W.takesIn K (.builtin "object.__class__") = some true
def tyU (K : PySem.W.Frag) : Ty → Value
 | .str => .type "str" | .int => .type "int" | .bool => .type "bool" | .tuple => .type "tuple" | .list => .type "list"
 | .cls c => .ref (ca K c)
def jH9 : List String := ["NoneType", "bool", "int", "str", "tuple", "list", "dict"]
structure jOs (K : PySem.W.Frag) (ty : Ty) (ks : List Str) : Prop where
 ob : ∀ c ∈ ks, j6r K c ∧ PySem.W.kitOne K (.ref (ca K c)) (tyU K ty) = some (match ty with | .cls c' => c == c' | _ => false)
 own : ∀ c', ty = .cls c' → ∀ n ∈ jH9, PySem.W.kitOne K (.type n) (.ref (ca K c')) = some false
 t : jMr K
end
section
open Classical
variable {K : PySem.W.Frag} {rx : RX} {W : WX} {F S S2 : Hp} {as as2 : List Addr} {σ : L2.St} {H H2 : Hp} {E : Env} {C C2 : jAa}
def Own (σ : L2.St) (E : Env) (a : Addr) : Prop := ∃ (i : Nat) (t : T), E[i]? = some (.ow t) ∧ σ[i]? = some (some (.ref a))
noncomputable def frO (F : Hp) (σ : L2.St) (E : Env) (H : Hp) : Hp := fun a => if Own σ E a then H a else unM (F a)
theorem frzO (s : Sim K F S as σ H E C) {i : Nat} {t : T} {a : Addr} {v : HO} (e1 : E[i]? = some (.ow t)) (e2 : σ[i]? = some (some (.ref a))) (e : H a = some v) : ∀ o w, v ≠ .frz o w := by
 obtain ⟨b, w, x, y, _, _, _, r⟩ := s.ow i t e1
 rw [x] at e2
 cases e2
 rw [y] at e
 cases e
 exact r.nofrz
theorem jCi (s : Sim K F S as σ H E C) {a : Addr} : unM (unM (F a)) = unM (F a) := by
 cases e : F a with
 | none => rfl
 | some u =>
  cases u with
  | frz x w => exact jBj (s.pn a x w e).1
  | _ => rfl
theorem Sim.out (s : Sim K F S as σ H E C) : Sim K (frO F σ E H) S as [] H [] C := by
 refine ⟨s.sub', s.nof, fun a u e => ?_, fun i t e => by simp at e, fun i t e => by simp at e, fun i j t t' a e => by simp at e, s.cl, s.ce, s.nd, waK _, fun a x w e => ⟨fun o u q => ?_, fun i t e => by simp at e⟩, fun q hq => ⟨(s.tb q hq).1, (s.tb q hq).2.1, fun b ps e => by
  unfold frO at e
  split at e
  ·rename_i o
   obtain ⟨i, t, e1, e2⟩ := o
   obtain ⟨b', v, x, y, _, _, _, r⟩ := s.ow i t e1
   rw [x] at e2
   cases e2
   rw [y, jBj r.nofrz] at e
   exact r.mut.tbl _ (waA e)
  ·rw [jCi s] at e
   exact (s.tb q hq).2.2 _ _ e⟩⟩
 unfold frO at e
 split at e
 ·rename_i o
  obtain ⟨i, t, e1, e2⟩ := o
  obtain ⟨b, v, x, y, z, z1, _⟩ := s.ow i t e1
  rw [x] at e2
  cases e2
  rw [y, jBj (frzO s e1 x y)] at e
  cases e
  exact ⟨y, z, z1⟩
 ·refine s.frm a u ?_
  rw [jCi s] at e
  exact e
 ·subst q
  unfold frO at e
  split at e
  ·rename_i o
   obtain ⟨i, t, e1, e2⟩ := o
   exact frzO s e1 e2 e _ _ rfl
  ·have h := jCi s (a := a)
   rw [e] at h
   have h : some (HO.frz o u) = some (.frz x (.frz o u)) := h
   injection h with h
   injection h with h1 h2
   have h3 := wbe sizeOf h2
   simp at h3
theorem Sim.back (s : Sim K F S as σ H E C) (n : Sim K (frO F σ E H) S2 as2 [] H2 [] C2) (l : Le S S2) (p : as <+: as2) : Sim K F S2 as2 σ H2 E C2 := by
 refine ⟨n.sub', n.nof, fun a u e => ?_, fun i t e => ?_, fun i t e => ?_, s.owd, n.cl, n.ce, n.nd, s.ln, s.pn, fun q hq => ⟨(n.tb q hq).1, (n.tb q hq).2.1, (s.tb q hq).2.2⟩⟩
 ·refine n.frm a u ?_
  unfold frO
  rw [if_neg]
  ·rw [jCi s]; exact e
  ·rintro ⟨i, t, e1, e2⟩
   obtain ⟨b, v, x, y, z, z1, z2, _⟩ := s.ow i t e1
   rw [x] at e2
   cases e2
   rw [z2] at e
   cases e
 ·obtain ⟨v, x, r⟩ := s.sh i t e
  exact ⟨v, x, r.mono l p⟩
 ·obtain ⟨a, v, x, y, z, z1, z2, r⟩ := s.ow i t e
  have hf : frO F σ E H a = some v := by
   unfold frO
   rw [if_pos ⟨i, t, e, x⟩]
   exact y
  obtain ⟨y1, y2, y3⟩ := n.frm a v (by rw [hf]; exact jBj r.nofrz)
  exact ⟨a, v, x, y1, y2, y3, z2, r.mono l p⟩
def spM (K : PySem.W.Frag) (rx : RX) (n : Nat) (m : List T → M T) : Sp := fun vs H Q E => vs.length = n ∧ ∃ F S as C ts, Sim K F S as [] H [] C ∧ Reps K S as vs ts ∧ Out K rx (fun cls d _ H => E cls d H) F [] [] (m ts C) (RepR K) S as Q
theorem Out.toCall {r : Res T} {Q : VK} (h : Out K rx W F σ E r (RepR K) S as Q) (s : Sim K F S as σ H E C) : Out K rx (fun cls d _ H => WE W σ cls d H) (frO F σ E H) [] [] r (RepR K) S as Q := by
 cases r with
 | ok t C' => exact fun v S2 as2 H2 l p sim2 r => h v S2 as2 H2 l p (s.back sim2 l p) r
 | exc x C' => exact fun cls d S2 as2 H2 l p sim2 r => h cls d S2 as2 H2 l p (s.back sim2 l p) r
 | stuck w => exact h
theorem Sim.call {m : List T → M T} {n : Nat} {Q : VK} {vs : List V} {ts : List T} (s : Sim K F S as σ H E C) (r : Reps K S as vs ts) (hl : vs.length = n) (h : Out K rx W F σ E (m ts C) (RepR K) S as Q) : spM K rx n m vs H Q (WE W σ) :=
 ⟨hl, _, S, as, C, ts, s.out, r, h.toCall s⟩
end
structure FnG (P : Program) (w : World) (K : PySem.W.Frag) (mg : Str → Option Value) (base : Heap) (CX : CXT) (k : Nat) (f : Addr) (fd : FuncData) (ps : List Str) (sp : Sp) : Prop where
 len : ∀ vs H Q E, sp vs H Q E → vs.length = ps.length
 run : ∀ (A : Around) (fr : List PySem.Env) (s : Shared) (H : Hp) (args : Args) (us : List Value) (vs : List V) (Q : VK) (E : XK), Room k A → A.guards = some [] → Env0 P w K mg base A fr s H → BindsTo s fd args (ps.zip us) → Vals vs us → sp vs H Q E →
  codeAny (model P w) A (.call (.ref f) args) (CR CX fr P w H s Q E) s
section
variable {P : Program} {w : World} {K : PySem.W.Frag} {mg : Str → Option Value} {base : Heap} {CX : CXT} {k j : Nat} {f C : Addr} {fd : FuncData} {ps : List Str} {sp sp' : Sp}
theorem FnG.mono (F : FnG P w K mg base CX j f fd ps sp) (h : j ≤ k) : FnG P w K mg base CX k f fd ps sp := ⟨F.len, fun A fr s H args us vs Q E hr => F.run A fr s H args us vs Q E (hr.mono h)⟩
end
def addD {α : Type} (slots : List (Str × α)) : List (Str × α) → List (Str × α)
 | [] => slots
 | p :: r => addD (if (slots.lookup p.1).isNone = true then slots ++ [p] else slots) r
def jE3 {α : Type} (ps : List Str) : List (Str × α) → List (Str × α) → Bool
 | _, [] => true
 | slots, p :: r => ps.contains p.1 && (slots.lookup p.1).isNone && jE3 ps (slots ++ [p]) r
abbrev Ix := Nat ⊕ Nat
def PArg.ix : PArg → Ix
 | .arg i => .inl i
 | .dflt j _ => .inr j
def jAt {α : Type} (xs dl : List α) : List PArg → Option (List α)
 | [] => some []
 | .arg i :: r => (xs[i]?).bind fun x => (jAt xs dl r).map (x :: ·)
 | .dflt j _ :: r => (dl[j]?).bind fun x => (jAt xs dl r).map (x :: ·)
def ixN (n m : Nat) : List Ix := (List.range m).map fun i => .inl (n + i)
def ixD (m : Nat) : List Ix := (List.range m).map .inr
def plOk (ps : List Str) (n : Nat) (ks : List Str) (nd : Nat) (pl : List PArg) : Bool :=
 decide (n ≤ ps.length) && decide (nd ≤ ps.length) && jE3 ps (ps.zip (ixN 0 n)) (ks.zip (ixN n ks.length)) && (ps.take (ps.length - nd)).all (fun x => ((ps.zip (ixN 0 n) ++ ks.zip (ixN n ks.length)).lookup x).isSome) &&
  decide (ps.map (fun x => (addD (ps.zip (ixN 0 n) ++ ks.zip (ixN n ks.length)) ((ps.drop (ps.length - nd)).zip (ixD nd))).lookup x) = pl.map fun p => some p.ix)
def noStar : Expr → Bool
 | .Starred _ _ => false
 | _ => true
def lenS : Exs → Nat
 | .nil => 0
 | .cons _ r => lenS r + 1
section
variable {K : PySem.W.Frag} {rx : RX} {W : WX} {F S S' : Hp} {as as' : List Addr} {σ : L2.St} {H : Hp} {E : Env} {C : jAa} {α β α' β' : Type}
theorem Out.bindE {ma : M α} {f : α → M α'} {Ra : Hp → List Addr → Hp → β → α → Prop} {Rc : Hp → List Addr → Hp → β' → α' → Prop} {Q : β' → Hp → Prop} {Q1 : β → Hp → Prop} (out : Out K rx W F σ E (M.bind ma f C) Rc S as Q)
  (k : ∀ v t S' as' H' C', ma C = .ok t C' → Le S S' → as <+: as' → Sim K F S' as' σ H' E C' → Ra S' as' H' v t → Out K rx W F σ E (f t C') Rc S' as' Q → Q1 v H') : Out K rx W F σ E (ma C) Ra S as Q1 := by
 unfold M.bind at out
 cases e : ma C with
 | ok t C' =>
  rw [e] at out
  exact fun v S2 as2 H2 l2 p2 sim r => k v t S2 as2 H2 C' e l2 p2 sim r (Out.mono out l2 p2)
 | exc x C' => rw [e] at out; exact out
 | stuck w => rw [e] at out; exact out
end
structure jB6 (P : Program) (w : World) (K : PySem.W.Frag) (mg : Str → Option Value) (base : Heap) (CX : CXT) (k : Nat) (fa : Addr) (ps : List Str) (dT : List T) (sp : Sp) : Prop where
 ex : ∃ (fd : FuncData) (dvs : List V) (dl : List Value), FnG P w K mg base CX k fa fd ps sp ∧ Vals dvs dl ∧ (∀ S as, Reps K S as dvs dT) ∧
  ∀ (s : Shared) (us ws zs : List Value) (n : Nat) (ks : List Str) (pl : List PArg), K.In s.heap → us.length = n → ws.length = ks.length → plOk ps n ks dT.length pl = true → jAt (us ++ ws) dl pl = some zs → BindsTo s fd ⟨us, ks.zip ws⟩ (ps.zip zs)
 kp : PySem.W.keepIn K (.ref fa) = true
section
variable {X : Cx} {rx : RX} {W : WX} {Φ : Calls} {CX : CXT} {k : Nat} {fa : Addr} {ps ks : List Str} {dT : List T} {m : List T → M T} {es : List Expr} {kws : List Keyword} {xs : Exs} {x : Str} {p pos : Pos} {pl : List PArg}
def idPl (n : Nat) : List PArg := (List.range n).map .arg
end
section
variable {X : Cx} {rx : RX} {W : WX} {Φ : Calls} {CX : CXT} {k : Nat} {fa : Addr} {ps ks : List Str} {dT : List T} {m : List T → M T} {es : List Expr} {kws : List Keyword} {xs : Exs} {x : Str} {p pos : Pos} {pl : List PArg}
def spN (K : PySem.W.Frag) (rx : RX) (c : Str) (n : Nat) (m : List T → M T) : Sp := fun vs H Q E => vs.length = n + 1 ∧ ∃ F S as C ts x dx ws, vs = .ref x :: ws ∧ H x = some (.ins (ca K c) dx []) ∧ S x = none ∧ x ∉ as ∧ F x = none ∧ (H dx = some (.own x) ∧ S dx = none ∧ dx ∉ as ∧ F dx = none) ∧ Sim K F S as [] H [] C ∧ Reps K S as ws ts ∧
 Out K rx (fun cls d _ H => E cls d H) F [] [] (m ts C) (fun S as H v t => v = V.non ∧ ((∃ u, H x = some u ∧ S x = none ∧ x ∉ as ∧ RepO K S as u t) ∨ Rep K S as (.ref x) t)) S as Q
end
def jCf (σ0 : L2.St) (E0 : Env) (σ : L2.St) (E : Env) : Prop := ∀ (i : Nat) (t : T), E0[i]? = some (.ow t) → E[i]? = some (.ow t) ∧ σ[i]? = σ0[i]?
section
variable {K : PySem.W.Frag} {F S S' : Hp} {as as' : List Addr} {σ σ' : L2.St} {H H' : Hp} {E E' : Env} {C C' : jAa}
theorem Sim.setSh (s : Sim K F S as σ H E C) {v : V} {t : T} (r : Rep K S as v t) (i : Nat) : Sim K F S as (σ.set i (some v)) H (E.set i (.sh t)) C := by
 have hb : ∀ (j : Nat) (x : Slot), (E.set i (.sh t))[j]? = some x → (j = i ∧ x = .sh t ∧ (σ.set i (some v))[j]? = some (some v)) ∨ (j ≠ i ∧ E[j]? = some x ∧ (σ.set i (some v))[j]? = σ[j]?) := fun j x e => by
  by_cases q : i = j
  ·subst q
   have hl : i < E.length := by
    have := (waf.mp e).1
    rwa [waz] at this
   have hl2 := waW hl s.ln
   rw [wan hl] at e
   cases e
   exact .inl ⟨rfl, rfl, wan hl2⟩
  ·rw [wai q] at e
   exact .inr ⟨fun z => q z.symm, e, wai q⟩
 refine ⟨s.sub', s.nof, s.frm, fun j t' e => ?_, fun j t' e => ?_, fun j k t1 t2 a e1 e2 e3 e4 => ?_, s.cl, s.ce, s.nd, by rw [waz, waz]; exact s.ln, fun a x w e => ⟨(s.pn a x w e).1, fun j t' e' ho => ?_⟩, s.tb⟩
 ·rcases hb j _ e with ⟨rfl, e, e2⟩ | ⟨_, e, e2⟩
  ·cases e; exact ⟨v, e2, r⟩
  ·rw [e2]; exact s.sh j t' e
 ·rcases hb j _ e with ⟨rfl, e, e2⟩ | ⟨_, e, e2⟩
  ·cases e
  ·rw [e2]; exact s.ow j t' e
 ·rcases hb j _ e1 with ⟨rfl, e, _⟩ | ⟨_, e, e5⟩
  ·cases e
  ·rcases hb k _ e2 with ⟨rfl, e', _⟩ | ⟨_, e', e6⟩
   ·cases e'
   ·rw [e5] at e3
    rw [e6] at e4
    exact s.owd j k t1 t2 a e e' e3 e4
 ·rcases hb j _ e' with ⟨rfl, e, e2⟩ | ⟨_, e3, e2⟩
  ·cases e
  ·rw [e2]; exact (s.pn a x w e).2 j t' e3 ho
theorem jA0 {j : Nat} : ∀ {ws : List Nat} {σ : L2.St}, j ∉ ws → (wipe σ ws)[j]? = σ[j]?
 | [], _, _ => rfl
 | i :: ws, σ, h => by
  rw [wipe, wai (show i ≠ j from fun z => h (by rw [z]; exact wah)), jA0 fun z => h (wak _ z)]
theorem jEm {j : Nat} : ∀ {ws : List Nat} {E : Env}, j ∉ ws → (jAr ws E)[j]? = E[j]?
 | [], _, _ => rfl
 | i :: ws, E, h => by
  show ((jAr ws E).set i .un)[j]? = _
  rw [wai (show i ≠ j from fun z => h (by rw [z]; exact wah)), jEm fun z => h (wak _ z)]
theorem jJn {j : Nat} {x : Slot} : ∀ {ws : List Nat} {E : Env}, j ∈ ws → (jAr ws E)[j]? = some x → x = .un
 | i :: ws, E, h, e => by
  replace e : ((jAr ws E).set i .un)[j]? = some x := e
  by_cases q : i = j
  ·subst q
   have hl := (waf.mp e).1
   rw [waz] at hl
   rw [wan hl] at e
   exact (waA e).symm
  ·rw [wai q] at e
   exact jJn ((waE.mp h).resolve_left fun z => q z.symm) e
theorem jHi : ∀ (ws : List Nat) (E : Env), (jAr ws E).length = E.length
 | [], _ => rfl
 | i :: ws, E => by
  show ((jAr ws E).set i .un).length = _
  rw [waz, jHi ws E]
theorem jAv {ws : List Nat} {E : Env} {j : Nat} {x : Slot} (h : (jAr ws E)[j]? = some x) (hx : x ≠ .un) : j ∉ ws ∧ E[j]? = some x := by
 by_cases q : j ∈ ws
 ·exact absurd (jJn q h) hx
 ·exact ⟨q, by rw [jEm q] at h; exact h⟩
theorem Sim.wipe (s : Sim K F S as σ H E C) (ws : List Nat) : Sim K F S as (L2.wipe σ ws) H (jAr ws E) C := by
 refine ⟨s.sub', s.nof, s.frm, fun j t e => ?_, fun j t e => ?_, fun j k t1 t2 a e1 e2 e3 e4 => ?_, s.cl, s.ce, s.nd, by rw [jHi, wbt]; exact s.ln, fun a x w e => ⟨(s.pn a x w e).1, fun j t' e' ho => ?_⟩, s.tb⟩
 ·obtain ⟨q, e⟩ := jAv e (fun z => nomatch z)
  rw [jA0 q]
  exact s.sh j t e
 ·obtain ⟨q, e⟩ := jAv e (fun z => nomatch z)
  rw [jA0 q]
  exact s.ow j t e
 ·obtain ⟨q1, e1⟩ := jAv e1 (fun z => nomatch z)
  obtain ⟨q2, e2⟩ := jAv e2 (fun z => nomatch z)
  rw [jA0 q1] at e3
  rw [jA0 q2] at e4
  exact s.owd j k t1 t2 a e1 e2 e3 e4
 ·obtain ⟨q, e1⟩ := jAv e' (fun z => nomatch z)
  rw [jA0 q]
  exact (s.pn a x w e).2 j t' e1 ho
theorem NoOw.wipe {ws : List Nat} (no : NoOw ws E) : jCf σ E (L2.wipe σ ws) (jAr ws E) := fun i t e => by
 have q : i ∉ ws := fun z => no i z t e
 exact ⟨by rw [jEm q]; exact e, jA0 q⟩
end
abbrev WF : WX := fun _ _ _ _ => False
def OutS (K : PySem.W.Frag) (rx : RX) (W : WX) (F : Hp) (r : Res RS) (S : Hp) (as : List Addr) (D : Ends) : Prop :=
 match r with
 | .ok (.nx E') C' => ∀ σ' S' as' H', Le S S' → as <+: as' → Sim K F S' as' σ' H' E' C' → D.nx σ' H'
 | .ok (.bk E') C' => ∀ σ' S' as' H', Le S S' → as <+: as' → Sim K F S' as' σ' H' E' C' → D.bk σ' H'
 | .ok (.ct E') C' => ∀ σ' S' as' H', Le S S' → as <+: as' → Sim K F S' as' σ' H' E' C' → D.ct σ' H'
 | .ok (.rt t) C' => ∀ v σ' S' as' H' E', Le S S' → as <+: as' → Sim K F S' as' σ' H' E' C' → Rep K S' as' v t → D.rt v H'
 | .exc x C' => ∀ cls d σ' S' as' H' E', Le S S' → as <+: as' → Sim K F S' as' σ' H' E' C' → rx K S' as' cls d x H' → W cls d σ' H'
 | .stuck _ => False
section
variable {K : PySem.W.Frag} {rx : RX} {W : WX} {F S S' : Hp} {as as' : List Addr} {σ σ' : L2.St} {H H' : Hp} {E E' : Env} {C C' : jAa} {D : Ends}
theorem OutS.mono {r : Res RS} (h : OutS K rx W F r S as D) (l : Le S S') (p : as <+: as') : OutS K rx W F r S' as' D := by
 cases r with
 | ok o C' =>
  cases o with
  | nx E' => exact fun σ' S2 as2 H2 l2 p2 => h σ' S2 as2 H2 (l.trans l2) (p.trans p2)
  | bk E' => exact fun σ' S2 as2 H2 l2 p2 => h σ' S2 as2 H2 (l.trans l2) (p.trans p2)
  | ct E' => exact fun σ' S2 as2 H2 l2 p2 => h σ' S2 as2 H2 (l.trans l2) (p.trans p2)
  | rt t => exact fun v σ' S2 as2 H2 E' l2 p2 => h v σ' S2 as2 H2 E' (l.trans l2) (p.trans p2)
 | exc x C' => exact fun cls d σ' S2 as2 H2 E' l2 p2 => h cls d σ' S2 as2 H2 E' (l.trans l2) (p.trans p2)
 | stuck w => exact h
theorem OutS.bind {α β : Type} {ma : M α} {f : α → M RS} {Ra : Hp → List Addr → Hp → β → α → Prop} {Q1 : β → Hp → Prop} (out : OutS K rx W F (M.bind ma f C) S as D)
  (k : ∀ v t S' as' H' C', ma C = .ok t C' → Le S S' → as <+: as' → Sim K F S' as' σ H' E C' → Ra S' as' H' v t → OutS K rx W F (f t C') S' as' D → Q1 v H') : Out K rx W F σ E (ma C) Ra S as Q1 := by
 unfold M.bind at out
 cases e : ma C with
 | ok t C' =>
  rw [e] at out
  exact fun v S2 as2 H2 l2 p2 sim r => k v t S2 as2 H2 C' e l2 p2 sim r (OutS.mono out l2 p2)
 | exc x C' => rw [e] at out; exact fun cls d S2 as2 H2 l2 p2 sim r => out cls d σ S2 as2 H2 E l2 p2 sim r
 | stuck w => rw [e] at out; exact out
theorem OutS.liftB {α : Type} {w : String} {o : Option α} {f : α → M RS} (h : OutS K rx W F (M.bind (SI.lift w o) f C) S as D) : ∃ t, o = some t ∧ OutS K rx W F (f t C) S as D := by
 cases o with
 | none => exact False.elim h
 | some t => exact ⟨t, rfl, h⟩
theorem OutS.needB {w : String} {b : Bool} {f : Unit → M RS} (h : OutS K rx W F (M.bind (SI.need w b) f C) S as D) : b = true ∧ OutS K rx W F (f () C) S as D := by
 cases b with
 | false => exact False.elim h
 | true => exact ⟨rfl, h⟩
theorem Sim.unown (s : Sim K F S as σ H E C) (i : Nat) : Sim K F S as σ H (E.set i .un) C := by
 have hb : ∀ (j : Nat) (x : Slot), (E.set i .un)[j]? = some x → x ≠ .un → j ≠ i ∧ E[j]? = some x := fun j x e hx => by
  by_cases q : i = j
  ·subst q
   have hl : i < E.length := by
    have := (waf.mp e).1
    rwa [waz] at this
   rw [wan hl] at e
   cases e
   exact absurd rfl hx
  ·rw [wai q] at e
   exact ⟨fun z => q z.symm, e⟩
 exact ⟨s.sub', s.nof, s.frm, fun j t e => s.sh j t (hb j _ e fun z => nomatch z).2, fun j t e => s.ow j t (hb j _ e fun z => nomatch z).2,
  fun j k t1 t2 a e1 e2 => s.owd j k t1 t2 a (hb j _ e1 fun z => nomatch z).2 (hb k _ e2 fun z => nomatch z).2, s.cl, s.ce, s.nd, by rw [waz]; exact s.ln, fun a x w e => ⟨(s.pn a x w e).1, fun j t e' => (s.pn a x w e).2 j t (hb j _ e' fun z => nomatch z).2⟩, s.tb⟩
theorem Sim.mark (s : Sim K F S as σ H E C) {v : V} {t : T} {i : Nat} (e : σ[i]? = some (some v)) (r : Rep K S as v t) : Sim K F S as σ H (E.set i (.sh t)) C := by
 have h := s.setSh r i
 have : σ.set i (some v) = σ := by
  refine List.ext_getElem? fun j => ?_
  by_cases q : i = j
  ·subst q; rw [wan (waf.mp e).1, e]
  ·rw [wai q]
 rw [this] at h
 exact h
theorem Sim.frz1 (s : Sim K F S as σ H E C) {i : Nat} {t : T} (e : E[i]? = some (.ow t)) : ∃ S', Le S S' ∧ Sim K F S' as σ H (E.set i (.sh t)) C := by
 obtain ⟨a, u, x, y, z, z1, z2, r⟩ := s.ow i t e
 have s1 := s.unown i
 have hl := Le.upd (u := u) z
 have s2 := s1.settle y z z1 z2 (fun j t' e' q => by
  by_cases hj : i = j
  ·subst hj
   rw [wan (waf.mp e).1] at e'
   cases e'
  ·rw [wai hj] at e'
   exact hj (s.owd i j t t' a e e' x q)) r.mut
 have s3 := s2.mark x ((r.mono hl (was _)).rep way)
 rw [List.set_set] at s3
 exact ⟨_, hl, s3⟩
theorem jGu (i : Nat) (E : Env) (h : ∀ t, E[i]? ≠ some (.ow t)) : E.set i (SI.frz1 (E.getD i .un)) = E := by
 refine List.ext_getElem? fun j => ?_
 by_cases q : i = j
 ·subst q
  by_cases hl : i < E.length
  ·rw [wan hl, List.getD, wad hl]
   have := h
   rw [wad hl] at this
   generalize E[i] = x at this ⊢
   cases x with
   | ow t => exact absurd rfl (this t)
   | un => rfl
   | sh t => rfl
  ·rw [wbf (by rw [waz]; omega), wbf (by omega)]
 ·rw [wai q]
theorem Sim.frz : ∀ {is : List Nat} {S : Hp} {E : Env}, Sim K F S as σ H E C → ∃ S', Le S S' ∧ Sim K F S' as σ H (frzE is E) C ∧ NoOw is (frzE is E) ∧ ∀ (j : Nat) (t : T), (frzE is E)[j]? = some (.ow t) → E[j]? = some (.ow t)
 | [], S, E, s => ⟨S, Le.refl S, s, NoOw.nil, fun _ _ e => e⟩
 | i :: is, S, E, s => by
  have step : ∃ S', Le S S' ∧ Sim K F S' as σ H (E.set i (SI.frz1 (E.getD i .un))) C := by
   cases e : E[i]? with
   | none => exact ⟨S, Le.refl S, by rw [jGu i E (by rw [e]; exact fun t z => nomatch z)]; exact s⟩
   | some x =>
    cases x with
    | ow t =>
     have : E.getD i .un = .ow t := by rw [List.getD, e]; rfl
     rw [this]
     exact s.frz1 e
    | un => exact ⟨S, Le.refl S, by rw [jGu i E (by rw [e]; exact fun t z => nomatch z)]; exact s⟩
    | sh t => exact ⟨S, Le.refl S, by rw [jGu i E (by rw [e]; exact fun t z => nomatch z)]; exact s⟩
  obtain ⟨S1, l1, s1⟩ := step
  have one : ∀ (j : Nat) (t : T), (E.set i (SI.frz1 (E.getD i .un)))[j]? = some (.ow t) → j ≠ i ∧ E[j]? = some (.ow t) := fun j t e => by
   by_cases q : i = j
   ·subst q
    have hl := (waf.mp e).1
    rw [waz] at hl
    rw [wan hl] at e
    have e := waA e
    generalize E.getD i .un = x at e
    cases x <;> cases e
   ·rw [wai q] at e
    exact ⟨fun z => q z.symm, e⟩
  obtain ⟨S2, l2, s2, n2, k2⟩ := Sim.frz (is := is) s1
  refine ⟨S2, l1.trans l2, s2, fun j hj t e => ?_, fun j t e => (one j t (k2 j t e)).2⟩
  rcases waE.mp hj with rfl | hj
  ·exact (one _ t (k2 _ t e)).1 rfl
  ·exact n2 j hj t e
end
section
variable {X : Cx} {rx : RX} {W : WX} {Φ : Calls} {n : Nat} {st : Stmt} {rest body sa sb : List Stmt} {e c : Expr} {xe xc : Ex} {pos pos' : Pos} {s : SI.St} {r a b : Ss} {x : Str} {i : Nat} {tg : Tg} {src : Src}
theorem OutS.seq {K : PySem.W.Frag} {F S : Hp} {as : List Addr} {C : jAa} {D D' : Ends} {m : M RS} {k : RS → M RS} (out : OutS K rx W F (M.bind m k C) S as D)
  (h : ∀ o C', OutS K rx W F (k o C') S as D → OutS K rx W F (.ok o C') S as D') : OutS K rx W F (m C) S as D' := by
 unfold M.bind at out
 cases e : m C with
 | ok o C' => rw [e] at out; exact h o C' out
 | exc x C' => rw [e] at out; exact out
 | stuck w => rw [e] at out; exact out
end
section
variable {K : PySem.W.Frag} {rx : RX} {W : WX} {F S S' : Hp} {as as' : List Addr} {σ σ' : L2.St} {H H' : Hp} {E E' : Env} {C C' : jAa} {D : Ends}
structure Plc (K : PySem.W.Frag) (F S : Hp) (as : List Addr) (σ : L2.St) (H : Hp) (E : Env) (C : jAa) (x : Nat) (a : Addr) (u : HO) (t : T) (put : T → M Env) : Prop where
 at_ : σ[x]? = some (some (.ref a))
 hp : H a = some u
 rep : RepO K S as u t
 put : ∀ u' t', (isO t' = true → isO t = true) → RepO K S as u' t' → ∃ E' C', put t' C = .ok E' C' ∧ Sim K F S as σ (upd H a u') E' C'
end
section
variable {K : PySem.W.Frag} {rx : RX} {W : WX} {F S S' : Hp} {as as' : List Addr} {σ σ' : L2.St} {H H' : Hp} {E E' : Env} {C C' : jAa} {D : Ends}
theorem OutS.put {x : Nat} {a : Addr} {u u' : HO} {t t' : T} {put : T → M Env} {G : Env → M RS} (p : Plc K F S as σ H E C x a u t put) (r : RepO K S as u' t') (out : OutS K rx W F (M.bind (put t') G C) S as D) (hno : isO t' = true → isO t = true := by first | exact fun _ => rfl | (intro z; cases z)) :
  ∃ E' C', Sim K F S as σ (upd H a u') E' C' ∧ OutS K rx W F (G E' C') S as D := by
 obtain ⟨E', C', h1, h2⟩ := p.put u' t' hno r
 unfold M.bind at out
 rw [h1] at out
 exact ⟨E', C', h2, out⟩
end
inductive SlR (K : PySem.W.Frag) (S : Hp) (as : List Addr) (H : Hp) (σ : L2.St) (E : Env) : Hp → Exs → List V → List T → Prop
 | nil {F : Hp} : SlR K S as H σ E F .nil [] []
 | sh {F : Hp} {x : Ex} {xs : Exs} {v : V} {vs : List V} {t : T} {ts : List T} : Rep K S as v t → jAc x t = .sh t → SlR K S as H σ E F xs vs ts → SlR K S as H σ E F (.cons x xs) (v :: vs) (t :: ts)
 | ow {F : Hp} {x : Ex} {xs : Exs} {a : Addr} {u : HO} {vs : List V} {t : T} {ts : List T} : jAc x t = .ow t → H a = some u → S a = none → a ∉ as → F a = none → (∀ (j : Nat) t', E[j]? = some (.ow t') → σ[j]? ≠ some (some (.ref a))) → RepO K S as u t →
   SlR K S as H σ E (upd F a u) xs vs ts → SlR K S as H σ E F (.cons x xs) (.ref a :: vs) (t :: ts)
section
variable {K : PySem.W.Frag} {rx : RX} {W : WX} {F S S' : Hp} {as as' : List Addr} {σ σ' : L2.St} {H H' : Hp} {E E' : Env} {C C' : jAa} {D : Ends}
theorem SlR.len {F : Hp} {xs : Exs} {vs : List V} {ts : List T} (h : SlR K S as H σ E F xs vs ts) : vs.length = ts.length := by
 induction h with
 | nil => rfl
 | sh _ _ _ ih => rw [waq, waq, ih]
 | ow _ _ _ _ _ _ _ _ ih => rw [waq, waq, ih]
theorem SlR.slots {F : Hp} {xs : Exs} {vs : List V} {ts : List T} (h : SlR K S as H σ E F xs vs ts) : (jBe xs ts).length = ts.length := by
 induction h with
 | nil => rfl
 | sh _ _ _ ih => exact wbe (· + 1) ih
 | ow _ _ _ _ _ _ _ _ ih => exact wbe (· + 1) ih
end
end SI
set_option Elab.async false
namespace SI
open PySem PySem.Spec PyProof.Rows
abbrev ZipO (h : Heap) (z TI TO a : Addr) (f : Bool) : Prop := h.get? z = some { cls := .type "zip", dict := none, data := .fields #[rawInt a, .bool f, .bool false, .ref TI, .ref TO], slots := #[] }
def ZipS (h : Heap) (z TI TO S : Addr) (i : Nat) : Prop := (i = 0 ∧ IsZip h z TI TO .none ∧ ∃ a1 a2, IsTupOf2 h TO a1 a2) ∨ ∃ a f oa, ZipO h z TI TO a f ∧ h.get? a = some oa ∧ a ≠ z ∧ a ≠ S
theorem ZipS.keep {h h' : Heap} {z TI TO S : Addr} {i : Nat} (x : ZipS h z TI TO S i) (hk : ∀ b o, b ≠ S → h.get? b = some o → h'.get? b = some o) (h1 : z ≠ S) (h2 : TO ≠ S) : ZipS h' z TI TO S i := by
 rcases x with ⟨e, hz, a1, a2, ht⟩ | ⟨a, f, oa, hz, ha, haz, haS⟩
 ·exact .inl ⟨e, hk _ _ h1 hz, a1, a2, hk _ _ h2 ht⟩
 ·exact .inr ⟨a, f, oa, hk _ _ h1 hz, hk _ _ haS ha, haz, haS⟩
theorem ZipS.ty {s : Shared} {z TI TO S : Addr} {i : Nat} (x : ZipS s.heap z TI TO S i) : s.TypeIs (.ref z) "zip" := by
 rcases x with ⟨_, hz, _⟩ | ⟨a, f, oa, hz, _⟩
 ·exact ⟨_, hz, rfl⟩
 ·exact ⟨_, hz, rfl⟩
structure ZoG (P1 P2 : Nat → Value → Prop) (lo : Addr) (h : Heap) (as : List Addr) : Prop where
 rise : as.Pairwise (· < ·)
 above : ∀ a ∈ as, lo ≤ a
 pairs : ∀ (j : Nat) (a : Addr), as[j]? = some a → ∃ x1 x2, P1 j x1 ∧ P2 j x2 ∧ h.get? a = some { cls := .type "tuple", data := .seq #[x1, x2] }
theorem ZoG.there {P1 P2 : Nat → Value → Prop} {lo : Addr} {h : Heap} {as : List Addr} (g : ZoG P1 P2 lo h as) {a : Addr} (ha : a ∈ as) : a < h.objs.size := by
 obtain ⟨j, hj⟩ := List.mem_iff_getElem?.mp ha
 obtain ⟨_, _, _, _, e⟩ := g.pairs j a hj
 exact waX e
theorem ZoG.keep {P1 P2 : Nat → Value → Prop} {lo : Addr} {h h' : Heap} {as : List Addr} (g : ZoG P1 P2 lo h as) (k : ∀ b o, lo ≤ b → h.get? b = some o → h'.get? b = some o) : ZoG P1 P2 lo h' as :=
 ⟨g.rise, g.above, fun j a hj => by
   obtain ⟨x1, x2, e1, e2, e3⟩ := g.pairs j a hj
   exact ⟨x1, x2, e1, e2, k a _ (g.above a (waP hj)) e3⟩⟩
end SI
namespace SI
open PySem PySem.Spec PyProof.Rows L2
section
variable {X : Cx} {rx : RX} {W : WX} {Φ : Calls} {CX : CXT} {k : Nat} {fa : Addr} {ps : List Str} {dT : List T} {c : Str} {a b e : Expr} {xa xb : Ex} {pos p apos cpos npos pos' : Pos} {n i j : Nat} {x y : Str} {xe : Ex} {xs : Exs}
structure MtOk (P : Program) (w : World) (K : PySem.W.Frag) (mg : Str → Option Value) (base : Heap) (CX : CXT) (k : Nat) (rx : RX) (Φ : Calls) (c m : Str) (ps : List Str) : Prop where
 ex : ∃ fa dT, Cls K (ca K c) ∧ Meth K (ca K c) m fa ∧ plOk ps ps.length [] dT.length (idPl ps.length) = true ∧ PySem.W.typeIn K (.ref fa) = some (.type "function") ∧ jB6 P w K mg base CX k fa ps dT (spM K rx ps.length (Φ (c, m)))
 obj : PySem.W.subIn K (.ref (ca K c)) (.type "object") = some true
 ne : m = ("__eq__" : Str) → PySem.W.findIn K (.ref (ca K c)) "__ne__" = some (some (.builtin "object.__ne__"))
 nb : m = ("__len__" : Str) → c = ("Order" : Str) → PySem.W.findIn K (.ref (ca K c)) "__bool__" = some none
 fi : ∀ fa, PySem.W.findIn K (.ref (ca K c)) m = some (some (.ref fa)) → PySem.W.fnIn K fa = true
end
def unS (S : Hp) (a : Addr) : Hp := fun b => if b = a then none else S b
section
variable {K : PySem.W.Frag} {S : Hp} {as : List Addr} {a : Addr} {l : List Int}
theorem jEl {b : Addr} (h : b ≠ a) : unS S a b = S b := if_neg h
theorem jGb {b : Addr} {u : HO} (h : unS S a b = some u) : S b = some u ∧ b ≠ a := by
 unfold unS at h
 split at h
 ·cases h
 ·exact ⟨h, by assumption⟩
theorem jFg : ∀ {is : List Int} {ts : List T}, Reps K S as (is.map V.int) ts → mapO intT ts = some is
 | [], _, .nil => rfl
 | i :: is, _, .cons r rs => by
  cases r
  simp only [mapO, intT, jFg rs]
  rfl
mutual
theorem Rep.strip (ha : S a = some (.lst (l.map V.int))) : ∀ {v : V} {t : T}, Rep K S as v t → nsT l t = true → Rep K (unS S a) as v t
 | _, _, .non, _ => .non
 | _, _, .bl b, _ => .bl b
 | _, _, .int i, _ => .int i
 | _, _, .str g, _ => .str g
 | _, _, @Rep.tup _ _ _ b vs ts q z r, h => by
  refine .tup ?_ z (Reps.strip ha r (by simpa only [nsT] using h))
  rcases q with ⟨o, q, d⟩ | q
  ·refine .inl ⟨o, ?_, d⟩
   rw [jEl]; exact q
   rintro rfl; rw [ha] at q; cases q
  ·exact .inr q
 | _, _, @Rep.lst _ _ _ b vs ts q z r, h => by
  simp only [nsT, wab, wam] at h
  refine .lst ?_ z (Reps.strip ha r h.2)
  rcases q with q | ⟨o, q⟩
  ·refine .inl ?_
   rw [jEl]; exact q
   rintro rfl
   rw [ha] at q
   cases q
   have := jFg r
   have h1 := h.1
   unfold jSu at h1
   rw [this] at h1
   simp at h1
  ·refine .inr ⟨o, ?_⟩
   rw [jEl]; exact q
   rintro rfl; rw [ha] at q; cases q
 | _, _, @Rep.dic _ _ _ b kvs ts q z g r, h => by
  refine .dic ?_ z g (Reps.strip ha r (by simpa only [nsT] using h))
  rcases q with q | ⟨o, q⟩
  ·refine .inl ?_
   rw [jEl]; exact q
   rintro rfl; rw [ha] at q; cases q
  ·refine .inr ⟨o, ?_⟩
   rw [jEl]; exact q
   rintro rfl; rw [ha] at q; cases q
 | _, _, @Rep.obj _ _ _ b dx fs c ts q r, h => by
  refine .obj (dx := dx) ?_ (Reps.strip ha r (by simpa only [nsT] using h))
  rw [jEl]; exact q
  rintro rfl; rw [ha] at q; cases q
 | _, _, .ref e, _ => .ref e
 | _, _, .cls, _ => .cls
 | _, _, @Rep.exn _ _ _ b d fs ts q r, h => by
  have h : false = true := by rw [nsT] at h; exact h
  cases h
theorem Reps.strip (ha : S a = some (.lst (l.map V.int))) : ∀ {vs : List V} {ts : List T}, Reps K S as vs ts → nsTs l ts = true → Reps K (unS S a) as vs ts
 | _, _, .nil, _ => .nil
 | _, _, .cons r rs, h => by
  simp only [nsTs, wab] at h
  exact .cons (Rep.strip ha r h.1) (Reps.strip ha rs h.2)
end
theorem RepO.strip (ha : S a = some (.lst (l.map V.int))) {u : HO} {t : T} (r : RepO K S as u t) (h : nsC l t = true) : RepO K (unS S a) as u t := by
 cases r with
 | lst z r => exact .lst z (r.strip ha h)
 | dic z g r => exact .dic z g (r.strip ha h)
 | obj r => exact .obj (r.strip ha h)
end
section
variable {K : PySem.W.Frag} {F S S2 : Hp} {as as2 : List Addr} {σ : L2.St} {H H2 : Hp} {E : Env} {C C2 : jAa} {l : List Int} {i : Nat} {a : Addr}
theorem Sim.take (s : Sim K F S as σ H E C) (e : E[i]? = some (.ow (.lst (l.map .int)))) (x : σ[i]? = some (some (.ref a))) (hS : S a = none) (hF : F a = none) (r0 : RepO K S as (.lst (l.map V.int)) (.lst (l.map .int)))
  (l2 : Le (upd S a (.lst (l.map V.int))) S2) (p2 : as <+: as2) (s2 : Sim K F S2 as2 σ H2 (E.set i (.sh (.lst (l.map .int)))) C2) (hC : C2.all (nsC l) = true) (hE : (E.set i .un).all (nsS l) = true) :
  S2 a = some (.lst (l.map V.int)) ∧ Le S (unS S2 a) ∧ Sim K F (unS S2 a) as2 σ H2 E C2 := by
 have h2 : S2 a = some (.lst (l.map V.int)) := (l2 _ _ way).resolve_right fun ⟨_, _, f⟩ => f
 have lS : Le S (unS S2 a) := fun b u e' => by
  have q : b ≠ a := by rintro rfl; rw [hS] at e'; cases e'
  rw [jEl q]
  exact l2 b u (by rw [upd_ne q]; exact e')
 have na : a ∉ as2 := fun hm => by
  obtain ⟨n, hn⟩ := List.mem_iff_getElem?.mp hm
  have hl : n < C2.length := by rw [← s2.cl]; exact (waf.mp hn).1
  obtain ⟨b, u, h3, _, h4, _⟩ := s2.ce n C2[n] (wad hl)
  rw [hn] at h3
  cases h3
  rw [h2] at h4
  cases h4
 refine ⟨h2, lS, fun b u e' => s2.sub' b u (jGb e').1, fun b o u e' => s2.nof b o u (jGb e').1, fun b u e' => ?_, fun j t e' => ?_, fun j t e' => ?_, s.owd, s2.cl, fun n t e' => ?_, s2.nd, s.ln, s.pn, fun q hq => ⟨(s2.tb q hq).1, fun b ps e' => (s2.tb q hq).2.1 b ps (jGb e').1, (s2.tb q hq).2.2⟩⟩
 ·obtain ⟨h3, h4, h5⟩ := s2.frm b u e'
  refine ⟨h3, ?_, h5⟩
  unfold unS
  split
  ·rfl
  ·exact h4
 ·obtain ⟨v, h3, h4⟩ := s.sh j t e'
  exact ⟨v, h3, h4.mono lS p2⟩
 ·by_cases q : i = j
  ·subst q
   rw [e] at e'
   cases e'
   refine ⟨a, _, x, ?_, if_pos rfl, na, hF, r0.mono lS p2⟩
   rcases s2.sub' a _ h2 with h3 | ⟨o, _, h3⟩
   ·exact h3
   ·cases h3
  ·have e2 : (E.set i (.sh (.lst (l.map .int))))[j]? = some (.ow t) := by rw [wai q]; exact e'
   obtain ⟨b, u, h3, h4, h5, h6, h7, h8⟩ := s2.ow j t e2
   have e3 : (E.set i .un)[j]? = some (.ow t) := by rw [wai q]; exact e'
   have hn : nsC l t = true := wag.mp hE _ (waP e3)
   refine ⟨b, u, h3, h4, ?_, h6, h7, h8.strip h2 hn⟩
   unfold unS
   split
   ·rfl
   ·exact h5
 ·obtain ⟨b, u, h3, h4, h5, h6⟩ := s2.ce n t e'
  refine ⟨b, u, h3, h4, ?_, h6.strip h2 (wag.mp hC _ (waP e'))⟩
  unfold unS
  split
  ·rfl
  ·exact h5
end
section
variable {K : PySem.W.Frag} {F S : Hp} {as : List Addr} {σ : L2.St} {H : Hp} {E : Env} {C : jAa}
theorem RepW.dic {H0 : Hp} {p : Addr} {u : HO} {v : V} {ks : List Key} {vs : List T} (r : RepW K σ E S as H0 v (.dic ks vs)) (s : Sim K (upd F p u) S as σ H E C) (hu : ∀ o w, u ≠ .frz o w) :
  ∃ a kvs, v = .ref a ∧ Rd H a (.dK kvs) ∧ kvs.length ≤ sizeLine ∧ (∀ q ∈ kvs, KG q.1) ∧ Reps K S as (kvs.map (·.2)) vs ∧ ks = kvs.map (·.1) ∧ p ≠ a := by
 obtain ⟨hp, hS, hc⟩ := s.frm p u (by rw [way]; exact jBj hu)
 rcases r with r | ⟨i, e1, e2⟩
 ·cases r with
  | @dic a kvs ts q z g rs =>
   refine ⟨a, kvs, rfl, s.rd q, z, g, rs, rfl, ?_⟩
   rintro rfl
   rcases q with q | ⟨o, q⟩ <;> (rw [hS] at q; cases q)
 ·obtain ⟨a, w, x, y, _, _, hF, ro⟩ := s.ow i _ e1
  rw [x] at e2
  cases e2
  cases ro with
  | dic z g rs =>
   refine ⟨a, _, rfl, .inl y, z, g, rs, rfl, ?_⟩
   rintro rfl
   rw [way] at hF
   cases hF
end
abbrev HasK (P : Program) (w : World) (h : Heap) (S : Addr) (l : List Key) : Prop := h.SetOf (mixKind P w) S (fun k => (jE7 l).any fun j => decide (j = k)) (jE7 l).length
theorem HasK.at {P : Program} {w : World} {h h' : Heap} {S : Addr} {l : List Key} (q : HasK P w h S l) (k : ∀ o, h.get? S = some o → h'.get? S = some o) : HasK P w h' S l := setOf_at q k
section
variable {K : PySem.W.Frag} {F S : Hp} {as : List Addr} {σ : L2.St} {H H1 : Hp} {E : Env} {C : jAa}
theorem Sim.tabs (s : Sim K F S as σ H E C) {q : Addr × Str} (hq : q ∈ tabs K) (e : LamX.ExtN H H1) (t : LamX.Tabs (tabs K) H1) : Sim K F S as σ H1 E C := by
 obtain ⟨_, nS, nF⟩ := s.tb q hq
 refine ⟨fun a u e' => ?_, s.nof, fun a u e' => ?_, s.sh, fun i t e' => ?_, s.owd, s.cl, fun n t e' => ?_, s.nd, s.ln, s.pn, fun q hq => ⟨t q hq, (s.tb q hq).2⟩⟩
 ·rcases s.sub' a u e' with h | ⟨o, h, f⟩
  ·exact .inl (e _ _ h fun ps z => nS a ps (by rw [e', z]))
  ·exact .inr ⟨o, e _ _ h (fun ps z => nomatch z), f⟩
 ·obtain ⟨h1, h2⟩ := s.frm a u e'
  exact ⟨e _ _ h1 fun ps z => nF a ps (by rw [e', z]), h2⟩
 ·obtain ⟨a, u, h1, h2, h3, h4, h5, r⟩ := s.ow i t e'
  exact ⟨a, u, h1, e _ _ h2 r.mut.tbl, h3, h4, h5, r⟩
 ·obtain ⟨a, u, h1, h2, h3, r⟩ := s.ce n t e'
  exact ⟨a, u, h1, e _ _ h2 r.mut.tbl, h3, r⟩
end
abbrev X0 : XK := fun _ _ _ => False
section
variable {prog : Program} {w : World} {A : Around} {E : Value → Shared → Prop} {s : Shared} {B initId newId : String} {bmB : List Value} {K : PySem.W.Frag} {hp : Heap} {L e C : Addr} {m : Str → Option Value}
def sets : List (Str × Str) → List Stmt → Bool
 | [], [] => true
 | (f, a) :: fl, .Assign [.Attribute (.Name o _) f' _] (.Name a' _) _ :: ss => f == f' && (a == a' && (o == ("self" : Str) && sets fl ss))
 | _, _ => false
end
structure XIn (P : Program) (K : PySem.W.Frag) (mg : Str → Option Value) (B newId initId : String) (bmB : List Value) (C fI : Addr) (fs as : List Str) (fd : FuncData) : Prop where
 ex : ∃ (name qual : Str) (params : Arguments) (rest : List Stmt) (scope : Scope) (dV kV doc pm ct oc ccl cl : Value) (an od cdd cld : Option Addr) (cda cc : Addr) (osl ccs csl : Array (Option Value)) (vs : Array Value) (file : Str) (tf : Tok) (cdD : ClassData) (ar : Arg) (p0 p1 p2 p3 p4 : Pos),
  fd = PySem.W.ksFn name qual params (.Expr (.Call (.Attribute (.Call (.Name "super" p0) [] [] p1) "__init__" p2) [] [] p3) p4 :: rest) scope dV kV doc pm an (.ref cda) ct cc ∧ K.lookup fI = some ⟨oc, od, .func fd, osl⟩ ∧ PySem.W.codeIn K (.ref cda) qual = true ∧ sets (fs.zip as) rest = true ∧
  (params.posonlyargs ++ params.args).head? = some ar ∧ ar.arg = "self" ∧ K.lookup cda = some ⟨ccl, cdd, .fields vs, ccs⟩ ∧ vs[2]? = some (.str file tf) ∧ ((P.main.file : Str) == file) = true ∧ K.lookup cc = some ⟨cl, cld, .cell (some (.ref C)), csl⟩ ∧ PySem.W.clsIn K C = some cdD ∧
  scope.names.lookup ("super" : Str) = some .globalImplicit ∧ scope.names.lookup ("__class__" : Str) = some .free ∧ scope.names.lookup ("self" : Str) = some .local ∧ scope.kind = .function ∧ scope.isCoroutine = false ∧ scope.isGenerator = false ∧ (∀ x ∈ scope.names, x.2 ≠ .cell) ∧ (∀ a ∈ as, scope.names.lookup a = some .local ∧ (a == ("__debug__" : Str)) = false) ∧
  (∀ f ∈ fs, PySem.W.takerIn K C f = some none) ∧ (p2.endLine == p3.line) = true ∧ L2.Binds K fd (("self" : Str) :: as) []
 len : fs.length = as.length
 nd : (("self" : Str) :: as).Nodup
 le : fs.length ≤ 100
 ne : fs ≠ []
 KF : PySem.W.KxsFacts B initId
 FB : ExcBaseFacts B newId initId bmB
 SF : StoreFacts B bmB "object.__setattr__" "object"
 ini : PySem.W.excInitIn K C bmB newId = true
 ovr : PySem.W.excOver K C bmB = true
 hd : PySem.W.hasDictIn K C = true
 sa : PySem.W.findIn K (.ref C) "__setattr__" = some (some (.builtin "object.__setattr__"))
 opq : PySem.W.nsIn K cStatics "thirdparty.any" = some none
 sup : PySem.W.ks_superIn K C C "__init__" = some (some (.builtin initId))
 sB : PySem.W.subIn K (.ref C) (.type B) = some true
 mro : PySem.W.mroIn K C (.ref C) = some true
 top : (P.main.scope.names.lookup ("super" : Str)).isSome = false
 mgs : mg "super" = none
 fnd : PySem.W.findIn K (.ref C) "__init__" = some (some (.ref fI))
 typ : PySem.W.typeIn K (.ref fI) = some (.type "function")
 exC : PySem.W.subIn K (.ref C) (.type "BaseException") = some true
 tyC : PySem.W.typeIn K (.ref C) = some (.type "type")
 kpC : PySem.W.keepIn K (.ref C) = true
 bk : ∀ (s : Shared) (us ws zs : List Value) (n : Nat) (ks : List Str) (pl : List PArg), us.length = n → ws.length = ks.length → plOk (("self" : Str) :: as) n ks 0 pl = true → jAt (us ++ ws) [] pl = some zs → BindsTo s fd ⟨us, ks.zip ws⟩ ((("self" : Str) :: as).zip zs)
 nm : fs = as
def rxE (L : List (Str × List Str)) : RX := fun K S as cls d x _ => ∃ (c : Str) (ns : List Str) (fs : List (Str × V)) (ts : List T), (c, ns) ∈ L ∧ fs.map (·.1) = ns.reverse ∧ x = .obj c ns.reverse ts ∧ cls = .ref (ca K c) ∧ Reps K S as (fs.map (·.2)) ts ∧ ((fs = [] ∧ d = none) ∨ ∃ dd, d = some dd ∧ S dd = some (.xd fs))
structure XNo (K : PySem.W.Frag) (B newId initId : String) (bmB : List Value) (C : Addr) : Prop where
 FB : ExcBaseFacts B newId initId bmB
 xin : PySem.W.excIn K C bmB newId = true
 exC : PySem.W.subIn K (.ref C) (.type "BaseException") = some true
 tyC : PySem.W.typeIn K (.ref C) = some (.type "type")
 kpC : PySem.W.keepIn K (.ref C) = true
inductive XCls (P : Program) (K : PySem.W.Frag) (mg : Str → Option Value) (C : Addr) : List Str → Prop
 | ini {B newId initId : String} {bmB : List Value} {fI : Addr} {fs as : List Str} {fd : FuncData} : XIn P K mg B newId initId bmB C fI fs as fd → XCls P K mg C fs
 | bare {B newId initId : String} {bmB : List Value} : XNo K B newId initId bmB C → XCls P K mg C []
def CExp (X : Cx) (ce : Expr) (vs : List Value) : Prop := ∀ (a : Addr) (pn : List (Addr × Obj)) (s : Shared) (σ : L2.St) (H : Hp) (cls : Value) (b : Bool) (Q : Value → Shared → Prop) (E : Value → Shared → Prop), Inv (X.suite a pn) [] σ H s → PySem.W.Looks (model X.prog X.w) s.heap (typeOf (.ref a)) cls →
 PySem.W.exmAny X.K cls vs = some b → (∀ c h', (∀ b o, s.heap.get? b = some o → h'.get? b = some o) → PySem.W.Looks (model X.prog X.w) h' (excMatches (.ref a) c) b → Q c { s with heap := h' }) → wpAny (model X.prog X.w) (X.A.mark (some (.ref a))) (eval ce X.env) Q E s
structure Cl where
 vs : List Value
 i : Option Nat
 ts : Addr → Value → Option Addr → TS
def NmOk (X : Cx) (n : Option Str) (i : Option Nat) : Prop := match n, i with
 | none, none => True
 | some n, some i => X.N[i]? = some n ∧ X.env.kindOf n = some .local
 | _, _ => False
inductive HdsC (X : Cx) : List ExceptHandler → List Cl → Prop
 | nil : HdsC X [] []
 | cons {ce : Expr} {n : Option Str} {c : Cl} {b₀ : Stmt} {suite : List Stmt} {pos' : Pos} {hds : List ExceptHandler} {l : List Cl} (hc : CExp X ce c.vs) (hn : NmOk X n c.i)
   (hsu : ∀ (a : Addr) (oe : Obj) (cls : Value) (d : Option Addr) (pn : List (Addr × Obj)), Zc cls d oe → (∃ vs, oe.data = .fields vs) → PSs (X.suite a ((a, oe) :: pn)) (b₀ :: suite) (c.ts a cls d)) (r : HdsC X hds l) :
   HdsC X (.ExceptHandler (some ce) n (b₀ :: suite) pos' :: hds) (c :: l)
structure Fly (X : Cx) (pins : List (Addr × Obj)) (σ : L2.St) (H : Hp) (g : Heap) (ss : Shared) (a : Addr) (cls : Value) (d : Option Addr) (t : Shared) : Prop where
 inv : Inv X pins σ H ss
 gr : ∀ b o, ss.heap.get? b = some o → b ∉ frs X.stack → g.get? b = some o
 fl : HandSPX.FlyingZ g (X.env :: X.outer) a (Zc cls d) t.heap
 up : ss.heap.UpToSlots t.heap
 os : t.os = ss.os
 ag : AllBare t.gens
 na : H a = none
section
variable {X : Cx} {pins : List (Addr × Obj)} {σ : L2.St} {H : Hp} {g : Heap} {ss t : Shared} {a : Addr} {cls : Value} {d : Option Addr}
theorem Fly.on (F : Fly X pins σ H g ss a cls d t) {h : Heap} (fl : HandSPX.FlyingZ g (X.env :: X.outer) a (Zc cls d) h) (up : t.heap.UpToSlots h) : Fly X pins σ H g ss a cls d { t with heap := h } := ⟨F.inv, F.gr, fl, F.up.trans up, F.os, F.ag, F.na⟩
theorem Fly.here (F : Fly X pins σ H g ss a cls d t) : Inv X pins σ H t := F.inv.landed F.gr F.fl.1 F.up F.os F.ag
end
section
variable (L : List (Str × List Str)) (K : PySem.W.Frag) (i : Option Nat)
def AtX (a : Addr) (σ : L2.St) : Prop := ∀ j, i = some j → σ[j]? = some (some (.ref a))
end
def hdsO : List Hd → T → Option T
 | [], _ => none
 | h :: r, x => match x with
  | .obj c ns vs => if h.cs.contains c then hbT ns vs h.b else hdsO r x
  | _ => none
section
variable {L : List (Str × List Str)} {K : PySem.W.Frag}
def tSuX (L : List (Str × List Str)) (K : PySem.W.Frag) (i : Option Nat) (o : T → Option T) : Addr → Value → Option Addr → TS := fun a cls d D σ H =>
 AtX i a σ ∧ ∃ F S as C x t, Sim K F S as [] H [] C ∧ rxE L K S as cls d x H ∧ o x = some t ∧ Out K (fun _ _ _ _ _ _ _ => False) (fun _ _ _ _ => False) F [] [] (.ok t C) (RepR K) S as D.rt
inductive CLnk (L : List (Str × List Str)) (K : PySem.W.Frag) (n : Nat) : List Cl → List Hd → Prop
 | nil : CLnk L K n [] []
 | blk {c : Cl} {l : List Cl} {h1 hs : List Hd} {o : T → Option T} (hc : ∀ q ∈ L, PySem.W.exmAny K (.ref (ca K q.1)) c.vs = some (h1.any fun h => h.cs.contains q.1)) (ht : ∀ {a : Addr} {cls : Value} {d : Option Addr} {D : Ends} {σ : L2.St} {H : Hp}, tSuX L K c.i o a cls d D σ H → c.ts a cls d D σ H)
   (ho : ∀ q ∈ L, ∀ vs, (h1.any fun h => h.cs.contains q.1) = true → o (.obj q.1 q.2.reverse vs) = hdsO h1 (.obj q.1 q.2.reverse vs)) (hi : ∀ j, c.i = some j → j < n) (r : CLnk L K n l hs) : CLnk L K n (c :: l) (h1 ++ hs)
end
inductive Tf where
 | asg (v : Str) (p p4 : Pos)
 | exp (p4 : Pos)
 | ret (p4 : Pos)
 | retL (p3 p4 : Pos)
 
 | retS (z : Str) (kk : Nat) (kp ps pc p3 p4 : Pos)
def Tf.st (t : Tf) (c : Expr) : Stmt := match t with
 | .asg v p p4 => .Assign [.Name v p] c p4
 | .exp p4 => .Expr c p4
 | .ret p4 => .Return (some c) p4
 | .retL p3 p4 => .Return (some (.List [c] p3)) p4
 | .retS z kk kp ps pc p3 p4 => .Return (some (.List [.Constant (.str z) kk kp, .Call (.Name "str" ps) [c] [] pc] p3)) p4
def Tf.ok (N : List Str) (sg : Scope) : Tf → Prop
 | .asg v _ _ => N[1]? = some v ∧ Loc sg v
 | _ => True
def Tf.go (t : Tf) (rs : V → Hp → VK → Prop) (D : Ends) (v : V) (σ : L2.St) (H : Hp) : Prop := match t with
 | .asg _ _ _ => D.nx (σ.set 1 (some v)) H
 | .exp _ => D.nx σ H
 | .ret _ => D.rt v H
 | .retL _ _ => [v].length ≤ sizeLine ∧ ∀ p, H p = none → D.rt (.ref p) (upd H p (.lst [v]))
 | .retS z _ _ _ _ _ _ => rs v H fun u H1 => [V.str z, u].length ≤ sizeLine ∧ ∀ p, H1 p = none → D.rt (.ref p) (upd H1 p (.lst [.str z, u]))
def TfS (X : Cx) (rs : V → Hp → VK → Prop) : Tf → Prop
 | .retS z _ _ _ _ _ _ => CallR X (.type "str") (fun xs H Q => ∃ v, xs = [v] ∧ rs v H Q) ∧ Gl X "str" ∧ X.mg "str" = none
 | _ => True
abbrev lamO (X : Cx) (params : Arguments) (body : Expr) (scope : Scope) (pm : Value) (c' : Addr) (ctv : Value) : Obj :=
 PySem.W.kla_obj "<lambda>" (X.env.qual ++ "<lambda>") params body scope
  (cloFrom X.env.cells scope.names []) pm c' ctv
section
variable {X : Cx} {s : Shared} {H : Hp} {σ : L2.St} {pins : List (Addr × Obj)}
structure Tld (P : Program) (w : World) (K : PySem.W.Frag) (mg : Str → Option Value) (base : Heap) (k : Nat) (rx : RX) (L : List (Str × List Str)) (x : Str) (g : Addr) (hs : List Hd) (m : T → M T) : Prop where
 ex : ∃ (pg : Arguments) (sg : Scope) (dV kV doc pm cdv ct oc : Value) (an od : Option Addr) (osl : Array (Option Value)) (Ng : List Str) (a : Str) (tf : Tf) (rest : List Stmt) (p1 p2 p5 : Pos) (h0 : ExceptHandler) (hds : List ExceptHandler) (l : List Cl),
  K.lookup g = some ⟨oc, od, .func (PySem.W.fnOf x x pg (.Try [tf.st (.Call (.Name a p1) [] [] p2)] (h0 :: hds) [] [] p5 :: rest) sg dV kV doc pm an cdv ct), osl⟩ ∧ PySem.W.codeIn K cdv x = true ∧
  L2.Binds K (PySem.W.fnOf x x pg (.Try [tf.st (.Call (.Name a p1) [] [] p2)] (h0 :: hds) [] [] p5 :: rest) sg dV kV doc pm an cdv ct) [a] [] ∧ FnScope Ng [a] sg ∧ Ng[0]? = some a ∧ Vis sg a ∧ (a == ("__debug__" : Str)) = false ∧ (a == ("__classdict__" : Str)) = false ∧
  tf.ok Ng sg ∧ CLnk L K Ng.length l hs ∧ ∀ (A : Around) (fr : List PySem.Env) (s : Shared) (H : Hp), Room k (A.deeper (envOfC x sg s.heap.objs.size g cdv)) → A.guards = some [] →
   HdsC (cxOf (L2.CX P w) P w K mg base Ng x sg g cdv A fr s H X0) (h0 :: hds) l ∧ ∃ rs : V → Hp → VK → Prop, (∀ (pn : List (Addr × Obj)) (xe : Value → Shared → Prop), TfS ((cxOf (L2.CX P w) P w K mg base Ng x sg g cdv A fr s H X0).tr pn xe) rs tf) ∧
   ∃ t, PSs (cxOf (L2.CX P w) P w K mg base Ng x sg g cdv A fr s H X0) rest t ∧ ∀ F S as C (f : Addr) vv tt HZ (Q : VK), Sim K F S as [] HZ [] C → Rep K S as vv tt → Out K rx (fun _ _ _ _ => False) F [] [] (jAh (m tt) C) (RepR K) S as Q →
    tf.go rs { nx := t { nx := fun _ H' => Q .non H', rt := Q }, rt := Q } vv (L2.start Ng [.ref f]) HZ
 kp : PySem.W.keepIn K (.ref g) = true
variable {L : List (Str × List Str)} {W : WX} {Φ : Calls} {k : Nat}
end
def jDd (ns : List Int) (i : Nat) (k : Int) : Prop := ns[i]? = some k ∧ ∀ (j : Nat) (m : Int), ns[j]? = some m → k ≤ m ∧ (j < i → k < m)
theorem jDd.one (k : Int) : jDd [k] 0 k := ⟨rfl, fun j m e => by
 cases j with
 | zero => cases e; exact ⟨Int.le_refl _, fun h => absurd h (Nat.lt_irrefl _)⟩
 | succ j => simp at e⟩
theorem jDd.more {ns : List Int} {i : Nat} {k n : Int} (h : jDd ns i k) (l : ¬ n < k) : jDd (ns ++ [n]) i k := by
 have hi := (waf.mp h.1).1
 refine ⟨by rw [waM hi]; exact h.1, fun j m e => ?_⟩
 by_cases q : j < ns.length
 ·rw [waM q] at e
  exact h.2 j m e
 ·have hj : j = ns.length := by
   have := (waf.mp e).1
   simp at this
   omega
  subst hj
  simp at e
  subst e
  exact ⟨by omega, fun z => by omega⟩
section
variable {X : Cx} {pins : List (Addr × Obj)} {σ : L2.St} {H : Hp} {s : Shared}
structure Fx (X : Cx) (pins : List (Addr × Obj)) (a : Addr) : Prop where
 L : a ≠ X.env.locals
 fs : a ∉ X.fs
 sz : X.s_0.heap.objs.size ≤ a
 ce : ∀ x c, X.env.cells.lookup x = some c → c ≠ a
 pn : ∀ p ∈ X.pn ++ pins, p.1 ≠ a
theorem Fx.new (I : Inv X pins σ H s) {a : Addr} (h : s.heap.objs.size ≤ a) : Fx X pins a := by
 obtain ⟨_, h1, h2, h3, h4, h5⟩ := I.fpOk (H' := fun _ => none) h rfl
 exact ⟨h1, h2, wau I.sz h, h4, h5⟩
theorem Fx.cons {a b : Addr} {o : Obj} (f : Fx X pins a) (h : b ≠ a) : Fx X ((b, o) :: pins) a :=
 ⟨f.L, f.fs, f.sz, f.ce, fun p hp => by
   rcases wa1.mp hp with e | e
   ·exact f.pn p (waJ _ e)
   ·rcases waE.mp e with e | e
    ·rw [e]; exact h
    ·exact f.pn p (waG _ e)⟩
end
structure LamP (sc scope : Scope) (y : Str) : Prop where
 kind : scope.kind = .function
 co : scope.isCoroutine = false
 gen : scope.isGenerator = false
 nc : ∀ z ∈ scope.names, z.2 ≠ .cell
 lc : ∀ z ∈ scope.names, z.2 = .local → z.1 = y
 par : scope.names.lookup y = some .local
 free : ∀ z ∈ scope.names, z.2 = .free → sc.names.lookup z.1 = some .cell ∨ sc.names.lookup z.1 = some .free
section
variable {X : Cx} {pins : List (Addr × Obj)} {σ : L2.St} {H HZ : Hp} {s s1 : Shared} {scope : Scope} {y : Str}
theorem LamP.cells (L : LamP X.env.scope scope y) (ok : X.Ok) : ∀ z ∈ scope.names, z.2 = .free → ∃ c, X.env.cells.lookup z.1 = some c :=
 fun z hz e => (L.free z hz e).elim (fun k => ok.has _ (.inl k)) fun k => ok.has _ (.inr k)
end
theorem jC6 {c : Addr} {q : Str} {u : HO} (e : LamX.CodeO c q = u) (n : ∀ φ, u ≠ .ext φ) : False := n _ e.symm
section
variable {K : PySem.W.Frag} {F S : Hp} {as : List Addr} {σ : L2.St} {H : Hp} {E : Env} {C : jAa}
theorem Sim.code (s : Sim K F S as σ H E C) {c : Addr} {q : Str} (h : H c = some (LamX.CodeO c q)) :
  ∃ S', Le S S' ∧ Sim K F S' as σ H E C ∧ ∀ {G S2 as2 σ2 H2 E2 C2}, G c = F c → Sim K G S2 as2 σ2 H2 E2 C2 → Le S' S2 → H2 c = some (LamX.CodeO c q) := by
 have fin : ∀ {S' : Hp}, S' c = some (LamX.CodeO c q) → ∀ {G S2 as2 σ2 H2 E2 C2}, G c = F c → Sim K G S2 as2 σ2 H2 E2 C2 → Le S' S2 → H2 c = some (LamX.CodeO c q) := by
  intro S' e G S2 as2 σ2 H2 E2 C2 _ s2 l
  rcases l _ _ e with x | ⟨o, _, f⟩
  ·rcases s2.sub' _ _ x with y | ⟨o, _, f⟩
   ·exact y
   ·exact f.elim
  ·exact f.elim
 cases hS : S c with
 | some u =>
  rcases s.sub' _ _ hS with x | ⟨o, x, f⟩
  ·rw [h] at x
   cases x
   exact ⟨S, Le.refl _, s, fin hS⟩
  ·rw [h] at x
   exact (jC6 (waA x) fun φ z => nomatch z).elim
 | none =>
  cases hF : F c with
  | some w =>
   obtain ⟨w', hw⟩ := jJ5 hF
   have x := (s.frm _ _ hw).1
   rw [h] at x
   cases x
   exact ⟨S, Le.refl _, s, fun g s2 _ => (s2.frm _ _ (by rw [g, ← hF]; exact hw)).1⟩
  | none =>
   have l : Le S (upd S c (LamX.CodeO c q)) := Le.upd hS
   have pr : as <+: as := was _
   have nw : ∀ (i : Nat) (t : T), E[i]? = some (.ow t) → σ[i]? ≠ some (some (.ref c)) := fun i t e z => by
    obtain ⟨b, v, x, y, _, _, _, r⟩ := s.ow i t e
    rw [x] at z
    cases z
    rw [h] at y
    exact jC6 (waA y) r.mut.ext
   have na : c ∉ as := fun hm => by
    obtain ⟨n, hn, e⟩ := List.getElem_of_mem hm
    have hn' : n < C.length := by rw [← s.cl]; exact hn
    obtain ⟨a, u, ea, eu, _, r⟩ := s.ce n C[n] (wad hn')
    rw [wad hn, e] at ea
    cases ea
    rw [h] at eu
    exact jC6 (waA eu) r.mut.ext
   refine ⟨_, l, ⟨fun b v e => ?_, fun b o w e => ?_, fun b v e => ?_, fun i t e => ?_, fun i t e => ?_, s.owd, s.cl, fun n t e => ?_, s.nd, s.ln, s.pn, fun q hq => ⟨(s.tb q hq).1, (s.tb q hq).2.1.upd fun ps z => LamX.codeO_ne ps z, (s.tb q hq).2.2⟩⟩, fun g => fin way (g.trans hF.symm)⟩
   ·by_cases ne : b = c
    ·subst ne
     rw [way] at e
     cases e
     exact .inl h
    ·rw [upd_ne ne] at e
     exact s.sub' b v e
   ·by_cases ne : b = c
    ·subst ne
     rw [way] at e
     exact (jC6 (waA e) fun φ z => nomatch z).elim
    ·rw [upd_ne ne] at e
     exact s.nof b o w e
   ·obtain ⟨x, y, z⟩ := s.frm b v e
    have ne : b ≠ c := by rintro rfl; rw [hF] at e; exact nomatch (show none = some v from e)
    exact ⟨x, by rw [upd_ne ne]; exact y, z⟩
   ·obtain ⟨v, x, r⟩ := s.sh i t e
    exact ⟨v, x, r.mono l pr⟩
   ·obtain ⟨b, v, x, y, z, z1, z2, r⟩ := s.ow i t e
    have ne : b ≠ c := by rintro rfl; exact nw i t e x
    exact ⟨b, v, x, y, by rw [upd_ne ne]; exact z, z1, z2, r.mono l pr⟩
   ·obtain ⟨b, v, x, y, z, r⟩ := s.ce n t e
    have ne : b ≠ c := by rintro rfl; exact na (waP x)
    exact ⟨b, v, x, y, by rw [upd_ne ne]; exact z, r.mono l pr⟩
end
theorem jJm (Φ : Calls) (E : Env) (e : Ex) (es : Exs) (acc : Str) : evF Φ (.cons e es) E acc = M.bind (ev Φ e E) fun x => M.bind (lift "fstr" (fmtT x)) fun y => M.bind (need "size" (szOk (acc ++ y).length)) fun _ => evF Φ es E (acc ++ y) := rfl
section
variable {X : Cx} {rx : RX} {W : WX} {Φ : Calls} {CX : CXT} {k : Nat} {ps : List Str} {c : Str} {a : Expr} {xa : Ex} {pos p : Pos}
inductive FP (X : Cx) (rx : RX) (W : WX) (Φ : Calls) : List Expr → List TE → Exs → Prop where
 | nil : FP X rx W Φ [] [] .nil
 | fmt {e : Expr} {x : Ex} {es : List Expr} {ts : List TE} {xs : Exs} {pos : Pos} (h : PE X e (DW X.K rx W Φ x)) (r : FP X rx W Φ es ts xs) : FP X rx W Φ (.FormattedValue e (-1) none pos :: es) (tFmt (DW X.K rx W Φ x) :: ts) (.cons x xs)
 | con {e : Expr} {z : Str} {es : List Expr} {ts : List TE} {xs : Exs} (h : PE X e (DW X.K rx W Φ (.con (.str z)))) (r : FP X rx W Φ es ts xs) : FP X rx W Φ (e :: es) (DW X.K rx W Φ (.con (.str z)) :: ts) (.cons (.con (.str z)) xs)
def RF : Hp → List Addr → Hp → Str → Str → Prop := fun _ _ _ v t => v = t ∧ t.length ≤ sizeLine
theorem FP.run {es : List Expr} {ts : List TE} {xs : Exs} (h : FP X rx W Φ es ts xs) : ∀ {F S : Hp} {as : List Addr} {σ : L2.St} {H : Hp} {E : Env} {C : jAa} {acc : Str} {Q : Str → Hp → Prop}, Sim X.K F S as σ H E C → NoOw (trS xs) E → acc.length ≤ sizeLine →
  Out X.K rx W F σ E (evF Φ xs E acc C) RF S as Q → tJs ts acc σ H Q := by
 induction h with
 | nil => exact fun sim no z out => out.here sim ⟨rfl, z⟩
 | @fmt e x es ts xs pos h r ih =>
  intro F S as σ H E C acc Q sim no z out
  rw [jJm] at out
  refine ⟨F, S, as, E, C, sim, no.left, out.bind fun v t S1 as1 H1 C1 l1 p1 sim1 r1 out1 => ?_⟩
  obtain ⟨y, hy, out2⟩ := out1.liftB
  obtain ⟨hc, out3⟩ := out2.needB
  have rv := r1.vw sim1
  cases rv with
  | @str a g =>
   simp only [fmtT] at hy
   split at hy
   ·rename_i hz
    cases hy
    exact .inl ⟨_, rfl, jAp hz, _, rfl, jAp hc, ih sim1 no.right (jAp hc) out3⟩
   ·cases hy
  | int i =>
   simp only [fmtT] at hy
   split at hy
   ·rename_i hz
    cases hy
    exact .inr ⟨i, rfl, waC hz, _, rfl, jAp hc, ih sim1 no.right (jAp hc) out3⟩
   ·cases hy
  | _ => first | (cases hy; done) | (simp only [fmtT] at hy; cases hy; done)
 | @con e w es ts xs h r ih =>
  intro F S as σ H E C acc Q sim no z out
  rw [jJm] at out
  refine ⟨F, S, as, E, C, sim, no.left, out.bindE fun v t S1 as1 H1 C1 eq l1 p1 sim1 r1 out1 => ?_⟩
  cases eq
  obtain ⟨y, hy, out2⟩ := out1.liftB
  obtain ⟨hc, out3⟩ := out2.needB
  have rv := r1.vw sim1
  cases rv with
  | str g =>
   simp only [fmtT] at hy
   split at hy
   ·cases hy
    exact ⟨_, rfl, jAp hc, ih sim1 no.right (jAp hc) out3⟩
   ·cases hy
end
section
variable {X : Cx} {rx : RX} {W : WX} {Φ : Calls} {CX : CXT} {k : Nat} {fa : Addr} {ps ks : List Str} {dT : List T} {es : List Expr} {kws : List Keyword} {xs : Exs} {x : Str} {p pos : Pos} {plm : List PArg}
def DcK (K : PySem.W.Frag) (a : Addr) (D : List (Str × Int)) : Prop := ∀ h : Heap, K.In h → PyProof.Rows.KTD.TextTab h a (D.map fun q => (q.1, PyProof.Rows.KTD.Dat.flat (.int q.2)))
end
section
variable {prog : Program} {w : World} {A : Around} {E : Value → Shared → Prop} {s : Shared} {K : PySem.W.Frag} {a b C D f : Addr} {ox oy : Obj} {od odb : Option Obj}
structure j0g (K : PySem.W.Frag) (C : Addr) : Prop where
 eq : PySem.W.findIn K (.ref C) "__eq__" = some (some (.builtin "object.__eq__"))
 ne : PySem.W.findIn K (.ref C) "__ne__" = some (some (.builtin "object.__ne__"))
 ob : PySem.W.subIn K (.ref C) (.type "object") = some true
 sq : PySem.W.noSeq K C = true
end
abbrev jSh (y : Str) (p1 p2 p3 p4 p5 p6 : Pos) (x1 : Nat) : List Stmt := [.Return (some (.Tuple [.Call (.Name "len" p1) [.Name y p2] [] p3, .Name y p4] x1 p5)) p6]
structure jLs (K : PySem.W.Frag) (f : Addr) : Prop where
 ex : ∃ (name qual : Str) (params : Arguments) (scope : Scope) (dV kV doc pm cdv ct oc : Value) (an od : Option Addr) (osl : Array (Option Value)) (N : List Str) (y : Str) (p1 p2 p3 p4 p5 p6 : Pos) (x1 : Nat),
  K.lookup f = some ⟨oc, od, .func (PySem.W.fnOf name qual params (jSh y p1 p2 p3 p4 p5 p6 x1) scope dV kV doc pm an cdv ct), osl⟩ ∧ PySem.W.codeIn K cdv qual = true ∧ FnScope N [y] scope ∧ scope.names.lookup y = some .local ∧ (y == ("__debug__" : Str)) = false ∧
  scope.names.lookup ("len" : Str) = some .globalImplicit ∧ L2.Binds K (PySem.W.fnOf name qual params (jSh y p1 p2 p3 p4 p5 p6 x1) scope dV kV doc pm an cdv ct) [y] []
end SI
namespace SI
open PySem PySem.Spec PyProof.Rows Builtin Builtin.List
theorem jCd (args : Args) : (Code.builtin "list.__repr__.loop" args).weight = 1 := by
 unfold Code.weight
 rw [isGuard_list_loop]
 rfl
theorem jDq (args : Args) : (Code.builtin "tuple.__repr__" args).weight = 1 := by
 unfold Code.weight
 rw [isGuard_tuple_repr]
 rfl
theorem jB1 (args : Args) : (Code.builtin "tuple.__repr__.under" args).weight = 1 := by
 unfold Code.weight
 rw [isGuard_tuple_repr_under]
 rfl
structure RmG (hh : Bool) (outer : List PySem.Env) (d : Nat) (A : Around) : Prop where
 hd : hh = true → A.handled = none
 fr : A.frames = some outer
 dp : A.depth + d + 2 < recursionLimit
 un : A.units + d + 2 < cLine
theorem RmG.le {hh : Bool} {outer : List PySem.Env} {d e : Nat} {A : Around} (r : RmG hh outer d A) (h : e ≤ d) : RmG hh outer e A := ⟨r.hd, r.fr, by have := r.dp; omega, by have := r.un; omega⟩
theorem RmG.loop {hh : Bool} {outer : List PySem.Env} {d : Nat} {A : Around} (r : RmG hh outer (d + 1) A) (args : Args) : RmG hh outer d (A.under (.builtin "list.__repr__.loop" args)) := by
 have h := r.un
 refine ⟨?_, ?_, ?_, ?_⟩
 ·exact r.hd
 ·exact r.fr
 ·show A.depth + _ + d + 2 < _
  rw [jCd]
  have := r.dp
  omega
 ·rw [units_under_list_loop]; omega
theorem RmG.tup {hh : Bool} {outer : List PySem.Env} {d : Nat} {A : Around} (r : RmG hh outer (d + 1) A) (args : Args) : RmG hh outer d (A.under (.builtin "tuple.__repr__" args)) := by
 have h := r.un
 refine ⟨r.hd, r.fr, ?_, ?_⟩
 ·show A.depth + _ + d + 2 < _
  rw [jDq]
  have := r.dp
  omega
 rw [units_under_tuple_repr]; omega
theorem RmG.tupU {hh : Bool} {outer : List PySem.Env} {d : Nat} {A : Around} (r : RmG hh outer (d + 1) A) (args : Args) : RmG hh outer d (A.under (.builtin "tuple.__repr__.under" args)) := by
 have h := r.un
 refine ⟨r.hd, r.fr, ?_, ?_⟩
 ·show A.depth + _ + d + 2 < _
  rw [jB1]
  have := r.dp
  omega
 rw [units_under_tuple_repr_under]; omega
def Grow (h h' : Heap) : Prop := ∀ b o, h.get? b = some o → h'.get? b = some o
def RpG (P : Program) (w : World) (hh : Bool) (outer : List PySem.Env) (as : List Addr) (h₀ : Heap) (d : Nat) (x : Value) (t : Str) : Prop :=
 ∀ (base : Nat), base + t.length ≤ sizeLine → ∀ (A : Around) (g : List Code) (E : Value → Shared → Prop) (s : Shared) (Q : Str → Shared → Prop), A.guards = some g → (∀ b ∈ as, Clear g b) → RmG hh outer d A → AllBare s.gens → Grow h₀ s.heap →
  (∀ h' tk, Grow s.heap h' → Q t { s with heap := h', toks := tk }) → wpAny (model P w) A (pyReprUnder base x) Q E s
section
variable {P : Program} {w : World} {hh : Bool} {outer : List PySem.Env} {as as' : List Addr} {h₀ : Heap} {d d' : Nat} {x : Value} {t : Str}
theorem RpG.ofIs (h : ReprIs P w x t) : RpG P w hh outer as h₀ d x t := fun base hb A _ E s Q _ _ _ _ _ q => h base hb A E s Q fun tk => q s.heap tk fun _ _ e => e
theorem RpG.more (h : RpG P w hh outer as h₀ d x t) (hs : ∀ b ∈ as, b ∈ as') (hd : d ≤ d') : RpG P w hh outer as' h₀ d' x t :=
 fun base hz A g E s Q hg hcl rm hb hk q => h base hz A g E s Q hg (fun b m => hcl b (hs b m)) (rm.le hd) hb hk q
inductive jB7 (P : Program) (w : World) (hh : Bool) (outer : List PySem.Env) (as : List Addr) (h₀ : Heap) (d : Nat) : List Value → List Str → Prop
 | nil : jB7 P w hh outer as h₀ d [] []
 | cons {x : Value} {t : Str} {l : List Value} {ts : List Str} : RpG P w hh outer as h₀ d x t → jB7 P w hh outer as h₀ d l ts → jB7 P w hh outer as h₀ d (x :: l) (t :: ts)
theorem jB7.len : ∀ {l : List Value} {ts : List Str}, jB7 P w hh outer as h₀ d l ts → ts.length = l.length
 | _, _, .nil => rfl
 | _, _, .cons _ h => by simp [h.len]
theorem jB7.more (hs : ∀ b ∈ as, b ∈ as') (hd : d ≤ d') : ∀ {l : List Value} {ts : List Str}, jB7 P w hh outer as h₀ d l ts → jB7 P w hh outer as' h₀ d' l ts
 | _, _, .nil => .nil
 | _, _, .cons a h => .cons (a.more hs hd) (h.more hs hd)
theorem jB7.at_ : ∀ {l : List Value} {ts : List Str}, jB7 P w hh outer as h₀ d l ts → ∀ (i : Nat) (y : Value), l[i]? = some y → ∃ t, ts[i]? = some t ∧ RpG P w hh outer as h₀ d y t
 | _, _, .nil, i, y, e => by simp at e
 | _, _, .cons (t := t) a h, 0, y, e => by
  have e : some _ = some y := e
  cases e
  exact ⟨t, rfl, a⟩
 | _, _, .cons a h, i + 1, y, e => h.at_ i y e
end
section
variable {P : Program} {w : World} {hh : Bool} {outer : List PySem.Env} {A : Around} {R : Result → Shared → Prop} {as : List Addr} {h₀ : Heap} {d base : Nat} {g : List Code}
theorem j5b {a p : Addr} (hap : a ≠ p) {its : Array Value} {ts : List Str} (gg : A.guards = some g) (cl : ∀ b ∈ as, Clear g b) (rm : RmG hh outer (d + 1) A) (na : a ∉ as) (fp : h₀.get? p = none) (hl : ts.length = its.size)
  (hT : ∀ (i : Nat) (x : Value), its[i]? = some x → ∃ t, ts[i]? = some t ∧ RpG P w hh outer as h₀ d x t) (fits : base + (listText ts).length ≤ sizeLine) :
  ∀ (k i : Nat) (s : Shared) (oa : Obj) (ca : Nat) (acc : Array Value) (c : Nat) (did : List (Str × Tok)), its.size - i = k → i ≤ its.size → AllBare s.gens → Grow h₀ s.heap → s.heap.get? a = some oa → oa.data = .seq its ca →
  s.heap.get? p = some { cls := .type "list", dict := none, data := .seq acc c, slots := #[] } → acc.toList = strValues did → did.map (·.1) = ts.take i →
  (∀ h' u tk, (∀ b o, b ≠ p → s.heap.get? b = some o → h'.get? b = some o) → R (.ok (.ret (.str (listText ts) u))) { s with heap := h', toks := tk }) →
  codeAny (model P w) A (.builtin "list.__repr__.loop" ⟨[.ref a, rawInt i, .ref p, rawInt ((base + piled (ts.take i) : Nat) : Int)], []⟩) R s := by
 have eX : (listText ts).length = (textFrom 0 "[" ts).length + 1 := by
  show (textFrom 0 "[" ts ++ "]").length = _
  rw [strLen_append]
  rfl
 have eL := textFrom_len ts 0 "["
 have z1 : its.size ≤ sizeLine := by have := eL.1; rw [if_neg (Nat.lt_irrefl 0)] at this; omega
 have z2 : ∀ t ∈ ts, t.length ≤ sizeLine := fun t ht => by have := eL.2.1 t ht; omega
 have z3 : (listText ts).length ≤ sizeLine := wau (Nat.le_add_left _ _) fits
 have z4 := piled_le_listText ts
 intro k
 induction k with
 | zero =>
  intro i s oa ca acc c did ek hi bare gr ga da gp ac dd q
  have ei : i = its.size := by omega
  refine codeAny_builtin F.entry_list_repr_loop ?_
  show wpAny _ _ («list.__repr__.loop» ⟨[.ref a, .int i 0, .ref p, .int ((base + piled (ts.take i) : Nat) : Int) 0], []⟩) _ _ s
  rw [repr_loop_tree]
  refine wao (wpAny_listItems ga da ?_)
  have no : its[(i : Int).toNat]? = none := by simp [ei]
  simp only [no]
  unfold reprEnd
  refine wao (wpAny_listItems gp rfl ?_)
  rw [ac, repr_fold]
  refine wao (waH ?_)
  rw [show did.map (·.1) = ts by rw [dd, ei, ← hl, List.take_length]]
  exact wao (wpAny_mkStr (waH (q s.heap _ _ fun _ _ _ e => e)) z3)
 | succ k ih =>
  intro i s oa ca acc c did ek hi bare gr ga da gp ac dd q
  have lt : i < its.size := by omega
  obtain ⟨t, ht, rp⟩ := hT i its[i] (by simp [lt])
  have y1 := piled_take_succ ht
  have y2 := piled_take_le ts (i + 1)
  refine codeAny_builtin F.entry_list_repr_loop ?_
  show wpAny _ _ («list.__repr__.loop» ⟨[.ref a, .int i 0, .ref p, .int ((base + piled (ts.take i) : Nat) : Int) 0], []⟩) _ _ s
  rw [repr_loop_tree]
  refine wao (wpAny_listItems ga da ?_)
  have so : its[(i : Int).toNat]? = some its[i] := by simp [lt]
  simp only [so]
  rw [Int.toNat_natCast]
  refine wao (wpAny_holding (rp (base + piled (ts.take i) + 1) (by omega) _ _ _ _ _ (guards_under_guard (isGuard_list_loop _) gg) (fun b m => (cl b m).cons (a := a) fun e => na (e ▸ m)) (rm.loop _) bare gr fun h' tk hkp => ?_))
  refine wao (wpAny_mkStr ?_ (z2 t (waP ht)))
  refine wao ?_
  show wpAny _ _ (updateSeq p _) _ _ _
  have za : acc.size ≤ sizeLine := by
   have e1 : acc.toList.length = acc.size := by simp
   have e2 : (strValues did).length = did.length := by simp [strValues]
   have e3 : did.length = (ts.take i).length := by rw [← dd, waw]
   have e4 : (ts.take i).length ≤ i := by rw [List.length_take]; omega
   rw [ac] at e1
   omega
  refine wpAny_updateSeq (hkp _ _ gp) rfl (waH ⟨F.quiet_list_repr_loop _, ?_⟩) za
  rw [show ((i : Int) + 1) = ((i + 1 : Nat) : Int) by omega, show base + piled (ts.take i) + (t.length + 2) = base + piled (ts.take (i + 1)) by omega]
  refine ih (i + 1) _ oa ca (acc.push (.str t tk)) _ (did ++ [(t, tk)]) (by omega) lt bare (fun b o e => (Heap.get?_update_other _ _ fun z : p = b => by rw [← z, fp] at e; cases e).trans (hkp _ _ (gr b o e))) ((Heap.get?_update_other _ _ fun z : p = a => hap z.symm).trans (hkp _ _ ga)) da (Heap.get?_update_self _ (hkp _ _ gp) rfl) (by simp [ac, strValues]) (by simp [List.take_add_one, ht, dd]) fun h'' u tk' hx => ?_
  exact q h'' u tk' fun b o ne e => hx b o ne ((Heap.get?_update_other _ _ fun z : p = b => ne z.symm).trans (hkp b o e))
theorem jLc {a : Addr} {oa : Obj} {x : Value} {l : List Value} {na : Nat} {ts : List Str} (ga : h₀.get? a = some oa) (da : oa.data = .seq (x :: l).toArray na) (nin : a ∉ as) (hT : jB7 P w hh outer as h₀ d (x :: l) ts) {s : Shared}
  (gg : A.guards = some g) (cl : ∀ b ∈ a :: as, Clear g b) (rm : RmG hh outer (d + 1) A) (bare : AllBare s.gens) (gr : Grow h₀ s.heap)
  (q : ∀ h' u tk, Grow s.heap h' → R (.ok (.ret (.str (listText ts) u))) { s with heap := h', toks := tk }) (fits : base + (listText ts).length ≤ sizeLine) :
  wpAny (model P w) A.in1 (Builtin.listReprAt base ⟨[.ref a], []⟩) (fun fin s' => match fin with | .done f => R (.ok f) s' | .again c' => c'.quiet = true ∧ codeAny (model P w) A c' R s') (fun e s' => R (.error e) s') s := by
 have ca : Clear g a := cl a (.head _)
 have fp : h₀.get? s.heap.objs.size = none := by
  cases e : h₀.get? s.heap.objs.size with
  | none => rfl
  | some o => exact absurd (waX (gr _ _ e)) (Nat.lt_irrefl _)
 refine wpAny_list_repr_head (A := A.in1) gg (fun v rest kw m => listSameRef_of_ne (ca _ _ _ _ m)) (gr _ _ ga) da ?_
 refine wao (m := newList []) (wpAny_newObj_type (waH ⟨F.quiet_list_repr_loop _, ?_⟩))
 have lt := waX (gr _ _ ga)
 refine j5b (p := s.heap.objs.size) (waY lt) gg (fun b m => cl b (.tail _ m)) rm nin fp (by simpa using hT.len) (fun i y e => hT.at_ i y (by simpa using e)) fits _ 0 _ oa na #[] _ [] rfl (wa4 _) bare
  (fun b o e => wap _ (gr _ _ e)) (wap _ (gr _ _ ga)) da (waS _ rfl) rfl (by simp) fun h' u tk hk => ?_
 exact q h' u tk fun b o e => hk b o (waY (waX e)) (wap _ e)
theorem j15 {E : Value → Shared → Prop} (gg : A.guards = some g) (cl : ∀ b ∈ as, Clear g b) (rm : RmG hh outer d A) : ∀ (l : List Value) (ts : List Str) (acc : Array Str) (n : Nat) (s : Shared) (Q : (Array Str × Nat) → Shared → Prop), jB7 P w hh outer as h₀ d l ts → n + piled ts ≤ sizeLine →
  AllBare s.gens → Grow h₀ s.heap → (∀ h' tk, Grow s.heap h' → Q ⟨acc ++ ts.toArray, n + piled ts⟩ { s with heap := h', toks := tk }) → wpAny (model P w) A (forIn l (⟨acc, n⟩ : (Array Str × Nat)) tupBody) Q E s
 | [], _, acc, n, s, Q, .nil, _, _, _, q => by
  have q0 := q s.heap s.toks fun _ _ e => e
  simp only [List.forIn_nil]
  exact waH (by simpa [piled] using q0)
 | x :: l, _, acc, n, s, Q, .cons (t := t) (ts := ts) hx hl, fits, bare, gr, q => by
  rw [piled_cons] at fits
  rw [List.forIn_cons]
  refine wao (wao (hx (n + 1) (by omega) _ _ _ _ _ gg cl rm bare gr fun h' tk hkp => waH ?_))
  refine j15 gg cl rm l ts (acc.push t) (n + (t.length + 2)) _ Q hl (by omega) bare (fun b o e => hkp _ _ (gr _ _ e)) fun h'' tk' hk2 => ?_
  have q1 := q h'' tk' fun b o e => hk2 _ _ (hkp _ _ e)
  rw [show n + piled (t :: ts) = n + (t.length + 2) + piled ts by rw [piled_cons]; omega] at q1
  simpa using q1
theorem jSr {a : Addr} {o : Obj} {its : Array Value} {n : Nat} {ts : List Str} (ga : h₀.get? a = some o) (da : o.data = .seq its n) (nin : a ∉ as) (hT : jB7 P w hh outer as h₀ d its.toList ts) {s : Shared} {id : String} {rest : List Value}
  (hcg : (Code.builtin id ⟨.ref a :: rest, []⟩).isGuard = true) (gg : A.guards = some g) (cl : ∀ b ∈ a :: as, Clear g b) (rm : RmG hh outer d (A.under (.builtin id ⟨.ref a :: rest, []⟩))) (bare : AllBare s.gens) (gr : Grow h₀ s.heap)
  (q : ∀ h' u tk, Grow s.heap h' → R (.ok (.ret (.str (tupleText ts) u))) { s with heap := h', toks := tk }) (fits : base + (tupleText ts).length ≤ sizeLine) :
  wpOwn (model P w) A (.builtin id ⟨.ref a :: rest, []⟩) (Builtin.tupleReprAt base ⟨[.ref a], []⟩) (fun fin s' => match fin with | .done f => R (.ok f) s' | .again c' => c'.quiet = true ∧ codeAny (model P w) A c' R s') (fun e s' => R (.error e) s') s := by
 have ca : Clear g a := cl a (.head _)
 have hl : ts.length = its.size := by simpa using hT.len
 have z := piled_le_tupleText ts
 have z0 : (tupleText ts).length ≤ sizeLine := wau (Nat.le_add_left _ _) fits
 rw [tuple_repr_tree, tupleReprUnderWay_eq]
 refine wpOwn_bind (wpOwn_stackTailAny gg (tupGuardF_off _) (tupGuardF_pos _) ?_)
 rw [show (g.any fun c => tupGuardF (.ref a) (c, default)) = false by
  rw [List.any_eq_false]
  intro c m
  rw [tupGuardF_of_clear ca c m]
  exact waa]
 refine wpOwn_of_wpAny ?_
 show wpAny _ _ (tupleReprRest base (.ref a)) _ _ s
 unfold tupleReprRest Builtin.Tuple.tupleItemsOf
 refine wao (wao (wpAny_seqItems (gr _ _ ga) da (waH ?_)))
 rw [← Array.forIn_toList]
 refine wao (j15 (guards_under_guard hcg gg) (fun b m => (cl b (.tail _ m)).cons (a := a) fun e => nin (e ▸ m)) rm _ ts _ _ _ _ hT (by omega) bare gr fun h' tk hkp => ?_)
 refine wao (wpAny_mkStr (waH ?_) (by simpa [tupleText, hl] using z0))
 simpa [tupleText, hl] using q h' tk (tk + 1) hkp
end
section
variable {P : Program} {w : World} {hh : Bool} {outer : List PySem.Env} {as : List Addr} {h₀ : Heap} {d : Nat} {a : Addr} {o : Obj} {n : Nat} {ts : List Str}
theorem RpG.listE (ga : h₀.get? a = some o) (hc : o.cls = .type "list") (da : o.data = .seq #[] n) : RpG P w hh outer as h₀ d (.ref a) "[]" :=
 fun base hb A g E s Q _ _ rm _ gr q => wpAny_pyReprUnder_ref (by omega) (wpAny_pyReprObjUnder_list_empty ⟨o, gr _ _ ga, hc⟩ (by have := rm.un; omega) (gr _ _ ga) da ⟨_, _, rfl, q s.heap _ fun _ _ e => e⟩)
theorem RpG.list {x : Value} {l : List Value} (ga : h₀.get? a = some o) (hc : o.cls = .type "list") (da : o.data = .seq (x :: l).toArray n) (nin : a ∉ as) (hT : jB7 P w hh outer as h₀ d (x :: l) ts) : RpG P w hh outer (a :: as) h₀ (d + 1) (.ref a) (listText ts) := by
 intro base hb A g E s Q gg cl rm bare gr q
 refine wpAny_pyReprUnder_ref (by omega) (wpAny_pyReprObjUnder_twin (twin := "list.__repr__.under") ⟨o, gr _ _ ga, hc⟩ wbq.toG rfl (by have := rm.un; omega) ?_)
 exact call_twin_plain F.plain_list_repr_under F.entry_list_repr_under F.check_list_repr_under ⟨o, gr _ _ ga, hc⟩ wbq.toG (F.args_list_repr_1 _) (jLc (R := callEnd _ E) ga da nin hT gg cl rm bare gr (fun h' u tk hk => ⟨⟨_, _, rfl⟩, _, _, rfl, q h' tk hk⟩) hb)
theorem RpG.tuple {its : Array Value} (ga : h₀.get? a = some o) (hc : o.cls = .type "tuple") (da : o.data = .seq its n) (nin : a ∉ as) (hT : jB7 P w hh outer as h₀ d its.toList ts) : RpG P w hh outer (a :: as) h₀ (d + 1) (.ref a) (tupleText ts) := by
 intro base hb A g E s Q gg cl rm bare gr q
 refine wpAny_pyReprUnder_ref (by omega) (wpAny_pyReprObjUnder_twin (twin := "tuple.__repr__.under") ⟨o, gr _ _ ga, hc⟩ F.slot_tuple_repr rfl (by have := rm.un; omega) ?_)
 exact call_twin_own (F.quiet_tuple_repr_under _) F.entry_tuple_repr_under F.check_tuple_repr_under ⟨o, gr _ _ ga, hc⟩ F.slot_tuple_repr (F.args_tuple_repr_1 _) (jSr (R := callEnd _ E) ga da nin hT (isGuard_tuple_repr_under _) gg cl (rm.tupU _) bare gr (fun h' u tk hk => ⟨⟨_, _, rfl⟩, _, _, rfl, q h' tk hk⟩) hb)
theorem topL {x : Value} {l : List Value} (ga : h₀.get? a = some o) (hc : o.cls = .type "list") (da : o.data = .seq (x :: l).toArray n) (nin : a ∉ as) (hT : jB7 P w hh outer as h₀ d (x :: l) ts) {A : Around} {E : Value → Shared → Prop} {s : Shared} {Q : Value → Shared → Prop}
  (gg : A.guards = some []) (rm : RmG hh outer (d + 1) A) (bare : AllBare s.gens) (gr : Grow h₀ s.heap) (q : ∀ h' u tk, Grow s.heap h' → Q (.str (listText ts) u) { s with heap := h', toks := tk }) (fits : (listText ts).length ≤ sizeLine) : wpAny (model P w) A (pyReprObj (.ref a)) Q E s := by
 have ty : s.TypeIs (.ref a) "list" := ⟨o, gr _ _ ga, hc⟩
 unfold pyReprObj
 refine wao (wpAny_cRoomFor (by have := rm.un; omega) (wao (wpAny_specialOf (name := Str.ofString "__repr__") ty wbq.lookup ?_)))
 refine wao (m := callSpecialIfBound? (.ref a) (Str.ofString "__repr__")) (wpAny_callSpecialIfBound?_slot (name := Str.ofString "__repr__") ty wbq
  (wbs (codeAny_call_builtin wbq.plain F.entry_list_repr (wbq.check _ _ _ _ _ _ _ _ ty (F.args_list_repr_1 _) (jLc (base := 0) (R := callEnd _ E) ga da nin hT gg (fun b _ => Clear.nil b) rm bare gr (fun h' u tk hk => ?_) (by omega))))))
 exact wao (wpAny_isInstance (T := "str") (b := true) rfl isSubtype_str_str (waH (q h' u tk hk)))
theorem topT {its : Array Value} (ga : h₀.get? a = some o) (hc : o.cls = .type "tuple") (da : o.data = .seq its n) (nin : a ∉ as) (hT : jB7 P w hh outer as h₀ d its.toList ts) {A : Around} {E : Value → Shared → Prop} {s : Shared} {Q : Value → Shared → Prop}
  (gg : A.guards = some []) (rm : RmG hh outer (d + 1) A) (bare : AllBare s.gens) (gr : Grow h₀ s.heap) (q : ∀ h' u tk, Grow s.heap h' → Q (.str (tupleText ts) u) { s with heap := h', toks := tk }) (fits : (tupleText ts).length ≤ sizeLine) : wpAny (model P w) A (pyReprObj (.ref a)) Q E s := by
 have ty : s.TypeIs (.ref a) "tuple" := ⟨o, gr _ _ ga, hc⟩
 unfold pyReprObj
 refine wao (wpAny_cRoomFor (by have := rm.un; omega) (wao (wpAny_specialOf (name := Str.ofString "__repr__") ty F.slot_tuple_repr.lookup ?_)))
 refine wao (m := callSpecialIfBound? (.ref a) (Str.ofString "__repr__")) (wpAny_callSpecialIfBound?_slotG (name := Str.ofString "__repr__") ty F.slot_tuple_repr
  (wbs (codeAny_call_builtin_own (Code.quiet_builtin _ (by decide +kernel)) F.entry_tuple_repr (F.slot_tuple_repr.check _ _ _ _ _ _ _ _ ty (F.args_tuple_repr_1 _) (jSr (base := 0) (R := callEnd _ E) ga da nin hT (isGuard_tuple_repr _) gg (fun b _ => Clear.nil b) (rm.tup _) bare gr (fun h' u tk hk => ?_) (by omega))))))
 exact wao (wpAny_isInstance (T := "str") (b := true) rfl isSubtype_str_str (waH (q h' u tk hk)))
end
end SI
namespace SI
open PySem PySem.Spec PyProof.Rows L2
abbrev jFl (y c1 f1 c2 f2 c3 : Str) (n1 n2 n3 : Nat) (p0 p1 p2 p3 p4 p5 p6 p7 p8 p9 q0 q1 q2 q3 q4 : Pos) : List Stmt :=
 [.Return (some (.JoinedStr [.Constant (.str c1) n1 p1, .FormattedValue (.Call (.Name "len" p2) [.Attribute (.Name y p3) f1 p4] [] p5) (-1) none p6, .Constant (.str c2) n2 p7, .FormattedValue (.Call (.Name "len" p8) [.Attribute (.Name y p9) f2 q0] [] q1) (-1) none q2, .Constant (.str c3) n3 q3] q4)) p0]
structure jMl (K : PySem.W.Frag) (f : Addr) (c1 f1 c2 f2 c3 : Str) : Prop where
 ex : ∃ (name qual : Str) (params : Arguments) (scope : Scope) (dV kV doc pm cdv ct oc : Value) (an od : Option Addr) (osl : Array (Option Value)) (N : List Str) (y : Str) (n1 n2 n3 : Nat) (p0 p1 p2 p3 p4 p5 p6 p7 p8 p9 q0 q1 q2 q3 q4 : Pos),
  K.lookup f = some ⟨oc, od, .func (PySem.W.fnOf name qual params (jFl y c1 f1 c2 f2 c3 n1 n2 n3 p0 p1 p2 p3 p4 p5 p6 p7 p8 p9 q0 q1 q2 q3 q4) scope dV kV doc pm an cdv ct), osl⟩ ∧ PySem.W.codeIn K cdv qual = true ∧ FnScope N [y] scope ∧ scope.names.lookup y = some .local ∧ (y == ("__debug__" : Str)) = false ∧
  scope.names.lookup ("len" : Str) = some .globalImplicit ∧ L2.Binds K (PySem.W.fnOf name qual params (jFl y c1 f1 c2 f2 c3 n1 n2 n3 p0 p1 p2 p3 p4 p5 p6 p7 p8 p9 q0 q1 q2 q3 q4) scope dV kV doc pm an cdv ct) [y] []
section
variable (P : Program) (w : World) (zb : Bool) (outer : List PySem.Env) (h : Heap)
mutual
inductive RN : Value → Str → Nat → Prop
 | leaf {v : Value} {t : Str} : (∀ a, v ≠ .ref a) → (t.length ≤ sizeLine → ReprIs P w v t) → RN v t 0
 | own {a : Addr} {o : Obj} {C : Addr} {t : Str} : h.get? a = some o → o.cls = .ref C → (t.length ≤ sizeLine → RpG P w zb outer [] h 0 (.ref a) t) → RN (.ref a) t 0
 | dict {a : Addr} {o : Obj} : h.get? a = some o → o.cls = .type "dict" → RpG P w zb outer [a] h 1 (.ref a) (dictText []) → RN (.ref a) (dictText []) 1
 | list {a : Addr} {o : Obj} {vs : Array Value} {n : Nat} {ts : List Str} {k : Nat} : h.get? a = some o → o.cls = .type "list" → o.data = .seq vs n → RNs vs.toList ts k → RN (.ref a) (listText ts) (k + 1)
 | tup {a : Addr} {o : Obj} {vs : Array Value} {n : Nat} {ts : List Str} {k : Nat} : h.get? a = some o → o.cls = .type "tuple" → o.data = .seq vs n → RNs vs.toList ts k → RN (.ref a) (tupleText ts) (k + 1)
inductive RNs : List Value → List Str → Nat → Prop
 | nil : RNs [] [] 0
 | cons {v : Value} {vs : List Value} {t : Str} {ts : List Str} {k m : Nat} : RN v t k → RNs vs ts m → RNs (v :: vs) (t :: ts) (max k m)
end
end
theorem jKe {a b : String} {P : Prop} (z : Value.type a = Value.type b) (h : a ≠ b) : P := absurd (Value.type.inj z) h
section
variable {P : Program} {w : World} {zb : Bool} {outer : List PySem.Env} {h : Heap}
mutual
theorem RN.det : ∀ {v : Value} {t : Str} {k : Nat}, RN P w zb outer h v t k → ∀ {t' : Str} {k' : Nat}, RN P w zb outer h v t' k' → k = k'
 | _, _, _, .leaf n _, _, _, q => by cases q <;> first | rfl | exact absurd rfl (n _)
 | _, _, _, .own e c _, _, _, q => by
  cases q with
  | leaf n => exact absurd rfl (n _)
  | own => rfl
  | dict e' c' => rw [e] at e'; cases e'; rw [c] at c'; cases c'
  | list e' c' => rw [e] at e'; cases e'; rw [c] at c'; cases c'
  | tup e' c' => rw [e] at e'; cases e'; rw [c] at c'; cases c'
 | _, _, _, .dict e c _, _, _, q => by
  cases q with
  | leaf n => exact absurd rfl (n _)
  | own e' c' => rw [e] at e'; cases e'; rw [c] at c'; cases c'
  | dict e' c' => rfl
  | list e' c' => rw [e] at e'; cases e'; exact jKe (c.symm.trans c') (by decide)
  | tup e' c' => rw [e] at e'; cases e'; exact jKe (c.symm.trans c') (by decide)
 | _, _, _, .list e c d r, _, _, q => by
  cases q with
  | leaf n => exact absurd rfl (n _)
  | own e' c' => rw [e] at e'; cases e'; rw [c] at c'; cases c'
  | dict e' c' => rw [e] at e'; cases e'; exact jKe (c.symm.trans c') (by decide)
  | list e' c' d' r' => rw [e] at e'; cases e'; rw [d] at d'; cases d'; rw [r.det r']
  | tup e' c' => rw [e] at e'; cases e'; exact jKe (c.symm.trans c') (by decide)
 | _, _, _, .tup e c d r, _, _, q => by
  cases q with
  | leaf n => exact absurd rfl (n _)
  | own e' c' => rw [e] at e'; cases e'; rw [c] at c'; cases c'
  | dict e' c' => rw [e] at e'; cases e'; exact jKe (c.symm.trans c') (by decide)
  | list e' c' => rw [e] at e'; cases e'; exact jKe (c.symm.trans c') (by decide)
  | tup e' c' d' r' => rw [e] at e'; cases e'; rw [d] at d'; cases d'; rw [r.det r']
theorem RNs.det : ∀ {v : List Value} {t : List Str} {k : Nat}, RNs P w zb outer h v t k → ∀ {t' : List Str} {k' : Nat}, RNs P w zb outer h v t' k' → k = k'
 | _, _, _, .nil, _, _, q => by cases q; rfl
 | _, _, _, .cons r rs, _, _, q => by
  cases q with
  | cons r' rs' => rw [r.det r', rs.det rs']
end
def AtM (P : Program) (w : World) (zb : Bool) (outer : List PySem.Env) (h : Heap) (k : Nat) (bs : List Addr) : Prop := ∀ b ∈ bs, ∃ t n, RN P w zb outer h (.ref b) t n ∧ n ≤ k
theorem AtM.notin {a : Addr} {t : Str} {k m : Nat} {bs : List Addr} (r : RN P w zb outer h (.ref a) t m) (hk : k < m) (hb : AtM P w zb outer h k bs) : a ∉ bs := fun e => by
 obtain ⟨t', n, r', hn⟩ := hb a e
 have := r.det r'
 omega
mutual
theorem RN.rk : ∀ {v : Value} {t : Str} {k : Nat}, RN P w zb outer h v t k → t.length ≤ sizeLine → ∃ bs, AtM P w zb outer h k bs ∧ RpG P w zb outer bs h k v t
 | _, _, _, .leaf n q, z => ⟨[], (fun _ e => nomatch e), .ofIs (q z)⟩
 | _, _, _, .own e c q, z => ⟨[], (fun _ e => nomatch e), q z⟩
 | _, _, _, .dict (a := a) e c q, z => ⟨[a], fun b hb => by
  obtain rfl := waB.mp hb
  exact ⟨_, _, .dict e c q, waK _⟩, q⟩
 | _, _, _, .list (a := a) (vs := vs) (ts := ts) (k := k) e c d r, z => by
  obtain ⟨bs, hb, hk⟩ := r.rk fun t m => wau (listText_mem_le m) z
  have r0 : RN P w zb outer h (.ref a) (listText ts) (k + 1) := .list e c d r
  have nin := hb.notin r0 (wa5 _)
  refine ⟨a :: bs, fun b m => ?_, ?_⟩
  ·rcases waE.mp m with rfl | m
   ·exact ⟨_, _, r0, waK _⟩
   ·obtain ⟨t', n, r', hn⟩ := hb b m
    exact ⟨t', n, r', by omega⟩
  ·obtain ⟨l⟩ := vs
   cases l with
   | nil =>
    have r : RNs P w zb outer h [] ts k := r
    cases r
    rw [listText_nil]
    exact .listE e c d
   | cons x l => exact .list e c d nin hk
 | _, _, _, .tup (a := a) (vs := vs) (ts := ts) (k := k) e c d r, z => by
  obtain ⟨bs, hb, hk⟩ := r.rk fun t m => wau (tupleText_mem_le m) z
  have r0 : RN P w zb outer h (.ref a) (tupleText ts) (k + 1) := .tup e c d r
  have nin := hb.notin r0 (wa5 _)
  refine ⟨a :: bs, fun b m => ?_, .tuple e c d nin hk⟩
  rcases waE.mp m with rfl | m
  ·exact ⟨_, _, r0, waK _⟩
  ·obtain ⟨t', n, r', hn⟩ := hb b m
   exact ⟨t', n, r', by omega⟩
theorem RNs.rk : ∀ {vs : List Value} {ts : List Str} {k : Nat}, RNs P w zb outer h vs ts k → (∀ t ∈ ts, t.length ≤ sizeLine) → ∃ bs, AtM P w zb outer h k bs ∧ jB7 P w zb outer bs h k vs ts
 | _, _, _, .nil, z => ⟨[], (fun _ e => nomatch e), .nil⟩
 | _, _, _, .cons (k := k) (m := m) r rs, z => by
  obtain ⟨b1, h1, k1⟩ := r.rk (z _ wah)
  obtain ⟨b2, h2, k2⟩ := rs.rk fun t ht => z t (wak _ ht)
  refine ⟨b1 ++ b2, fun b e => ?_, .cons (k1.more (fun b e => waJ _ e) (Nat.le_max_left _ _)) (k2.more (fun b e => waG _ e) (Nat.le_max_right _ _))⟩
  rcases wa1.mp e with e | e
  ·obtain ⟨t', n, r', hn⟩ := h1 b e
   exact ⟨t', n, r', wau hn (Nat.le_max_left _ _)⟩
  ·obtain ⟨t', n, r', hn⟩ := h2 b e
   exact ⟨t', n, r', wau hn (Nat.le_max_right _ _)⟩
end
theorem RN.top {v : Value} {t : Str} {k : Nat} (r : RN P w zb outer h v t (k + 1)) (nd : ∀ a o, v = .ref a → h.get? a = some o → o.cls ≠ .type "dict") (z : t.length ≤ sizeLine) {A : Around} {E : Value → Shared → Prop} {s : Shared} {Q : Value → Shared → Prop}
  (gg : A.guards = some []) (rm : RmG zb outer (k + 1) A) (bare : AllBare s.gens) (gr : Grow h s.heap) (q : ∀ h' u tk, Grow s.heap h' → Q (.str t u) { s with heap := h', toks := tk }) : wpAny (model P w) A (pyReprObj v) Q E s := by
 generalize hm : k + 1 = m at r rm
 cases r with
 | leaf => cases hm
 | own => cases hm
 | dict e c => exact absurd c (nd _ _ rfl e)
 | @list a o vs n ts k' e c d rs =>
  obtain rfl : k' = k := by omega
  obtain ⟨bs, hb, hk⟩ := rs.rk fun t m => wau (listText_mem_le m) z
  have nin := hb.notin (.list e c d rs) (wa5 _)
  obtain ⟨l⟩ := vs
  cases l with
  | nil =>
   have rs : RNs P w zb outer h [] ts k' := rs
   cases rs
   rw [listText_nil] at q
   exact wpAny_pyReprObj_list_empty ⟨o, gr _ _ e, c⟩ (by have := rm.un; omega) (gr _ _ e) d (q s.heap _ _ fun _ _ e => e)
  | cons x l => exact topL e c d nin hk gg rm bare gr q z
 | @tup a o vs n ts k' e c d rs =>
  obtain rfl : k' = k := by omega
  obtain ⟨bs, hb, hk⟩ := rs.rk fun t m => wau (tupleText_mem_le m) z
  have nin := hb.notin (.tup e c d rs) (wa5 _)
  exact topT e c d nin hk gg rm bare gr q z
end
structure RpO (K : PySem.W.Frag) (mg : Str → Option Value) : Prop where
 ex : ∃ fa, jMl K fa "Order of " "spot_row" " places and " "rung_row" " steps" ∧ Meth K (ca K "Order") "__repr__" fa ∧ PySem.W.typeIn K (.ref fa) = some (.type "function")
 cl : Cls K (ca K "Order")
 n1 : NoAttr K (ca K "Order") "spot_row"
 n2 : NoAttr K (ca K "Order") "rung_row"
 ln : mg "len" = none
section
variable {X : Cx} {pins : List (Addr × Obj)} {s : Shared} {σ : L2.St} {H : Hp} {Q : VK}
structure jYx (X : Cx) (pins : List (Addr × Obj)) (σ : L2.St) (elt tg : Expr) (scope : Scope) (g : TG) (vs : List Nat) (Q : VK) (a : Addr) (H1 : Hp) (s1 : Shared) : Prop where
 inv : Inv X pins σ H1 s1
 sq : ∃ xs, SqL X.K H1 a xs
 turn : ∃ te : TE, (∀ (s3 : Shared) (H3 : Hp) (C : Addr) (cl : List (Str × Addr)) (fp : List Addr), Inv X pins σ H3 s3 → Un (frs X.stack) [] H1 H3 s1.heap s3.heap → (∀ b ∈ fp, s1.heap.get? b = none) → PE (X.blk s3 H3 scope (compEnvC scope cl C X.env) fp) elt te) ∧
  tLc (fun _ _ R => R (Itl X.K a) H1) g tYes te vs σ H1 Q
theorem jLz {elt tg iter : Expr} {scope : Scope} {pos : Pos} {g : TG} {te : TE} {vs : List Nat} {a k D : Addr} {s3 s4 : Shared} {H3 : Hp} {ce : PySem.Env} {W : Nat → Nat → Hp → Prop} {m0 : Nat} {use : Option (Value → Sem Unit)} {Qf : Value → Shared → Prop} (hc : X.calm = true)
  (hR : ∀ (D C : Addr) (s' : Shared) (m : Str → Option Value) (H' : Hp), Inv X pins σ H' s' → Q (.ref D) H' → s'.heap.Ns C m → FpOk X pins H' C → compPost (model X.prog X.w) X.A X.xe use Qf (.ref D) C (.ok .next) s') (J3 : Inv X pins σ H3 s3) (f3 : FpOk X pins H3 k)
  (pe : PE (X.blk s3 H3 scope ce [k]) elt te) (pg : PG (X.blk s3 H3 scope ce [k]) tg g) (J4 : Inv (X.blk s3 H3 scope ce [k]) [] (wipe σ vs) H3 s4) (it4 : s4.heap.IsListIter k a 0) (cL : ce.locals = s3.heap.objs.size) (w0 : W 0 m0 H3)
  (turn : ∀ i m H, W i m H → ((Itl X.K a).stop i H ∧ Q (.ref D) H) ∨ ((Itl X.K a).go i H ∧ ∃ Nx : Hp → Prop, (∀ H', Nx H' → ∃ m', m' < m ∧ W (i + 1) m' H') ∧ ∀ x H', (Itl X.K a).yld i H x H' → g x (wipe σ vs) H' fun σ2 H2 => wipe σ2 vs = wipe σ vs ∧ tYes σ2 H2 fun b H3 =>
    if b = true then te σ2 H3 fun y H4 => ∃ acc, H4 D = some (.lst acc) ∧ acc.length < sizeLine ∧ Nx (upd H4 D (.lst (acc ++ [y]))) else Nx H3)) :
  codeAny (model X.prog X.w) X.A (.compLoop (.ListComp elt [⟨tg, iter, [], 0⟩] scope pos) 0 (.ref k) (.ref D) ce) (compPost (model X.prog X.w) X.A X.xe use Qf (.ref D) s3.heap.objs.size) s4 := by
 have Tk : Turn X.prog X.w X.K tg (Itl X.K a) [k] k (fun i h => h.IsListIter k a i) := turn_list a k
 -- the iterator is no one's
 have own : ∀ {σ' : L2.St} {H' : Hp} {s' : Shared}, Inv (X.blk s3 H3 scope ce [k]) [] σ' H' s' → H' k = none → ∀ b ∈ [k], FpOk (X.blk s3 H3 scope ce [k]) [] H' b := fun {σ' H' s'} J hn b hb => by
  obtain rfl := waB.mp hb
  have e1 := J.ok.exf b hb
  exact ⟨hn, e1.1, J.ok.exfs b hb, .inl hb, fun x c e => e1.2 x c e, fun p hp => nomatch (show p ∈ ([] : List (Addr × Obj)) from hp)⟩
 have ob : ∀ {i : Nat} {h : Heap}, h.IsListIter k a i → ∃ o, h.get? k = some o ∧ ∀ v, o.data ≠ .cell v := fun {i h} e => Tk.obj i h e k (by simp)
 refine compLoop_any (fun n s' => ∃ i H', Inv (X.blk s3 H3 scope ce [k]) [] (wipe σ vs) H' s' ∧ s'.heap.IsListIter k a i ∧ H' k = none ∧ W i n H') ?_ m0 ⟨0, H3, J4, it4, f3.1, w0⟩
 rintro n s5 ⟨i, H5, J5, it5, k5, w5⟩
 rcases turn i n H5 w5 with ⟨stop, fin⟩ | ⟨go, Nx, hNx, step⟩
 ·-- no item is left: back in the frame around
  refine thnF (Tk.done (X.blk s3 H3 scope ce [k]) rfl rfl rfl hc i [] s5 _ H5 (fun _ _ => False) J5 (own J5 k5) it5 stop) fun r s6 hr => ?_
  obtain ⟨rfl, J6⟩ := hr
  have B : Inv X pins σ H5 s6 := J3.call' (ch := [k]) J6.os J6.base J6.hok J6.bare fun b hb => by
   obtain rfl := waB.mp hb
   exact ⟨f3.2.2.2.1, f3.2.1, f3.2.2.2.2.1, f3.2.2.2.2.2⟩
  have fre : H5 ce.locals = none := J6.free
  obtain ⟨m, hns, _⟩ := J6.loc
  have hns : s6.heap.Ns ce.locals m := hns
  rw [cL] at fre hns
  exact hR D s3.heap.objs.size s6 m H5 B fin hns (J3.fpOk (waK _) fre)
 ·refine thnF (Tk.item (X.blk s3 H3 scope ce [k]) rfl rfl rfl hc i [] s5 _ H5 (fun _ _ => False) J5 (own J5 k5) it5 go) fun r s6 hr => ?_
  obtain ⟨u, rfl, h6⟩ := hr
  refine thnF h6 fun _ s7 h7 => ?_
  obtain ⟨x, H7, J7, r7, y7, it7, k7⟩ := h7
  have k7 : H7 k = none := k7 k (by simp)
  obtain ⟨o7, e7, _⟩ := ob it7
  have P7 := J7.pinned (own J7 k7) fun b hb => by rw [waB.mp hb]; exact ob it7
  refine thnF (pg.run _ s7 _ H7 x u _ P7 r7 (step x H7 y7)) fun _ s8 h8 => ?_
  obtain ⟨σ8, H8, J8, hw8, q8⟩ := h8
  refine wpAny_tests_nil ?_
  have q8 : te σ8 H8 fun y H4 => ∃ acc, H4 D = some (.lst acc) ∧ acc.length < sizeLine ∧ Nx (upd H4 D (.lst (acc ++ [y]))) := q8
  rw [if_pos rfl]
  refine thnF (pe.run _ s8 σ8 H8 _ J8 q8) fun z s9 h9 => ?_
  obtain ⟨y, H9, J9, r9, acc, hD9, hz9, nx⟩ := h9
  refine app_ok (X := X.blk s3 H3 scope ce [k]) J9 hD9 hz9 r9 fun s' J' => ?_
  obtain ⟨m', lt', w'⟩ := hNx _ nx
  have hl : (wipe σ vs).length = σ8.length := by rw [← hw8, wbt]
  have pk := J'.pin (k, o7) (waG _ (waG _ (mem_pinsAt (by simp) e7)))
  exact ⟨m', lt', i + 1, _, (J'.unpinned (pins := [])).weak hl fun j v e => by
   rw [← hw8] at e
   exact (wipe_some e).1, Tk.keep _ _ _ it7 fun b hb o e => by
    rw [waB.mp hb] at e ⊢
    rw [e7] at e
    cases e
    exact pk.1, pk.2.1, w'⟩
theorem jI0 {elt tg iter : Expr} {scope : Scope} {own : List (Str × Nat)} {pos pos' : Pos} {g : TG} {use : Option (Value → Sem Unit)} {Qf : Value → Shared → Prop} (hc : X.calm = true)
  (hR : ∀ (D C : Addr) (s' : Shared) (m : Str → Option Value) (H' : Hp), Inv X pins σ H' s' → Q (.ref D) H' → s'.heap.Ns C m → FpOk X pins H' C → compPost (model X.prog X.w) X.A X.xe use Qf (.ref D) C (.ok .next) s') (hN : X.N.Nodup) (I : Inv X pins σ H s) (ok : BlkOk X.N X.env.scope scope own)
  (hg : ∀ (s : Shared) (H : Hp) (C : Addr) (cl : List (Str × Addr)) (fp : List Addr), PG (X.blk s H scope (compEnvC scope cl C X.env) fp) tg g) (hs : ∀ x, foldedSetIterable iter X.env x = pure x)
  (hev : wpAny (model X.prog X.w) X.A (eval iter X.env) (fun xv s1 => ∃ a H1, xv = .ref a ∧ jYx X pins σ elt tg scope g (own.map (·.2)) Q a H1 s1) X.xe s) :
  wpAny (model X.prog X.w) X.A (comprehension (.ListComp elt [⟨tg, iter, [], 0⟩] scope pos) scope X.env pos' (newList []) false (eval iter X.env) use) Qf X.xe s := by
 have fr : ∀ y ∈ scope.names, y.2 = .free → ∃ c, X.env.cells.lookup y.1 = some c := fun y hy e => I.ok.has _ (ok.free y hy e)
 refine wpAny_comprehension_free (use := use) rfl hs (closure_ok fr) ok.kind (fun y hy e => (ok.uniq y hy).trans (by rw [e])) (thn hev fun xv s1 hx => ?_)
 obtain ⟨a, H1, rfl, N⟩ := hx
 obtain ⟨te, hte, hW⟩ := N.turn
 obtain ⟨xs0, hsq⟩ := N.sq
 obtain ⟨its0, rv0, pl0, hz0⟩ := N.inv.list hsq
 refine wpAny_pyIter_list pl0.isList ?_
 generalize hk : s1.heap.objs.size = k
 have Tk : Turn X.prog X.w X.K tg (Itl X.K a) [k] k (fun i h => h.IsListIter k a i) := turn_list a k
 refine wpAny_newObj_type ?_ (by show 0 ≤ sizeLine; decide)
 refine newEnv_comp ?_
 -- the new list at D, behind the iterator
 generalize h2 : s1.heap.push _ = p2
 have q2 : ∀ b o, s1.heap.get? b = some o → p2.get? b = some o := fun b o e => by rw [← h2]; exact wap _ e
 have it2 : p2.IsListIter k a 0 := by rw [← h2, ← hk]; exact ⟨_, waS _ rfl, rfl, rfl⟩
 have k2 : k < p2.objs.size := by rw [← h2, ← hk, Heap.size_push]; exact wa5 _
 have J2 : Inv X pins σ H1 { s1 with heap := p2 } := N.inv.kept (t' := s1.toks) q2
 have k0 : H1 k = none := N.inv.hok.fresh (Nat.le_of_eq hk)
 have f2 : FpOk X pins H1 k := N.inv.fpOk (Nat.le_of_eq hk) k0
 generalize hD : p2.objs.size = D
 have D0 : H1 D = none := J2.hok.fresh (Nat.le_of_eq hD)
 obtain ⟨W, ⟨m0, w0⟩, turn⟩ := hW D D0
 generalize h3 : p2.push _ = p3
 have q3 : ∀ b o, p2.get? b = some o → p3.get? b = some o := fun b o e => by rw [← h3]; exact wap _ e
 have kD : k ≠ D := by rw [← hD]; exact waY k2
 have lD : ObjOk X.prog X.w (upd H1 D (.lst [])) p3 D (.lst []) := ⟨wa4 _, [], 0, .nil, by rw [← h3, ← hD]; exact waS _ rfl⟩
 have J3 : Inv X pins σ (upd H1 D (.lst [])) { s1 with heap := p3 } := J2.laid (t' := s1.toks) q3 (Nat.le_of_eq hD) lD
 have U3 : Un (frs X.stack) [] H1 (upd H1 D (.lst [])) s1.heap p3 := (Un.kept q2).trans (Un.laid q3 (Nat.le_of_eq hD) D0)
 have f3 : ∀ b ∈ [k], FpOk X pins (upd H1 D (.lst [])) b ∧ b < p3.objs.size := fun b hb => by
  rw [waB.mp hb]
  exact ⟨⟨by rw [upd_ne kD]; exact k0, f2.2⟩, by rw [← h3, Heap.size_push]; exact Nat.lt_succ_of_lt k2⟩
 have it3 : p3.IsListIter k a 0 := Tk.keep _ _ _ it2 fun b _ o e => q3 b o e
 have J4 := block_start J3 ok hN f3
 have nk : ∀ b ∈ [k], s1.heap.get? b = none := fun b hb => by
  rw [waB.mp hb, ← hk]
  cases e : s1.heap.get? s1.heap.objs.size with
  | none => rfl
  | some o => exact absurd (waX e) (Nat.lt_irrefl _)
 have hpe := hte { s1 with heap := p3 } (upd H1 D (.lst [])) p3.objs.size (cellsFrom (p3.objs.size + 1) scope.names (cloFrom X.env.cells scope.names [])) [k] J3 U3 nk
 have hpg := hg { s1 with heap := p3 } (upd H1 D (.lst [])) p3.objs.size (cellsFrom (p3.objs.size + 1) scope.names (cloFrom X.env.cells scope.names [])) [k]
 show codeAny (model X.prog X.w) X.A (.compStart (.ListComp elt [⟨tg, iter, [], 0⟩] scope pos) 0 (.ref k) (.ref D) (compEnvC scope (cellsFrom (p3.objs.size + 1) scope.names (cloFrom X.env.cells scope.names [])) p3.objs.size X.env))
  (compPost (model X.prog X.w) X.A X.xe use Qf (.ref D) p3.objs.size) { s1 with heap := pushCells (p3.push { cls := .type "dict", data := .dict #[] }) scope.names }
 refine codeAny_compStart_list (jLz (vs := own.map (·.2)) hc hR J3 (f3 k (by simp)).1 hpe hpg J4 (Tk.keep _ _ _ it3 fun b _ o e => pushCells_keeps _ _ _ _ (wap _ e)) rfl w0 turn) ?_
 exact Tk.self X.A 0 _ _ _ (Tk.keep _ _ _ it3 fun b _ o e => pushCells_keeps _ _ _ _ (wap _ e)) (jLz (vs := own.map (·.2)) hc hR J3 (f3 k (by simp)).1 hpe hpg J4 (Tk.keep _ _ _ it3 fun b _ o e => pushCells_keeps _ _ _ _ (wap _ e)) rfl w0 turn)
structure LcEv (X : Cx) (e : Expr) (t : TE) : Prop where
 ex : ∃ (elt tg iter : Expr) (scope : Scope) (pos : Pos) (own : List (Str × Nat)) (g : TG), e = .ListComp elt [⟨tg, iter, [], 0⟩] scope pos ∧ BlkOk X.N X.env.scope scope own ∧
  (∀ (s : Shared) (H : Hp) (C : Addr) (cl : List (Str × Addr)) (fp : List Addr), PG (X.blk s H scope (compEnvC scope cl C X.env) fp) tg g) ∧ (∀ x, foldedSetIterable iter X.env x = pure x) ∧
  ∀ (pins : List (Addr × Obj)) (s : Shared) (σ : L2.St) (H : Hp) (Q : VK), Inv X pins σ H s → t σ H Q → wpAny (model X.prog X.w) X.A (eval iter X.env) (fun xv s1 => ∃ a H1, xv = .ref a ∧ jYx X pins σ elt tg scope g (own.map (·.2)) Q a H1 s1) X.xe s
theorem LcEv.pe {e : Expr} {t : TE} (h : LcEv X e t) (hc : X.calm = true) (hN : X.N.Nodup) : PE X e t := by
 obtain ⟨elt, tg, iter, scope, pos, own, g, rfl, ok, hg, hs, ev⟩ := h.ex
 refine ⟨fun pins s σ H Q I q => ?_⟩
 rw [eval_ListComp]
 refine jI0 hc (fun D C s' m H' J q hn f => ⟨m, hn, fun h'' sb => ?_⟩) hN I ok hg hs (ev pins s σ H Q I q)
 obtain ⟨f0, f1, _, g3, g4, g5⟩ := f
 exact ⟨.ref D, H', J.turned (t' := s'.toks) (fun b o hb e => (sb.2 b hb).trans e) f0 f1 g3 g4 g5, rfl, q⟩
theorem LcEv.ps {elt tg iter : Expr} {scope : Scope} {pos py spos : Pos} {t : TE} {i : Nat} {y : Str} (h : LcEv X (.ListComp elt [⟨tg, iter, [], 0⟩] scope pos) t) (hc : X.calm = true) (hN : X.N.Nodup) (hy : X.N[i]? = some y) (hyl : X.env.scope.names.lookup y = some .local)
  (hsw : swapsWith (.ListComp elt [⟨tg, iter, [], 0⟩] scope pos) (some (.Name y py)) spos.line X.env = pure true) : PS X (.Assign [.Name y py] (.ListComp elt [⟨tg, iter, [], 0⟩] scope pos) spos) (tAsg t (gName i)) := by
 obtain ⟨elt', tg', iter', scope', pos', own, g, e, ok, hg, hs, ev⟩ := h.ex
 cases e
 refine ⟨fun pins s σ H D I q => ?_⟩
 rw [exec_Assign_Name_used _ _ _ _ hsw]
 refine wao (wpAny_standAt (wao ?_))
 show wpAny _ X.A (do let _ ← comprehension (.ListComp elt [⟨tg, iter, [], 0⟩] scope pos) scope X.env (firstIterPos [⟨tg, iter, [], 0⟩] pos) (newList []) false (eval iter X.env) (some (assign (.Name y py) X.env))) _ _ s
 refine wao (thn (jI0 (Qf := fun _ s' => SP X pins D .next s') hc (fun L C s' m H' J q hn f => ?_) hN I ok hg hs (ev pins s σ H _ I q)) fun _ s' hq => waH (waH hq))
 show wpAny _ _ (assign (.Name y py) X.env (.ref L)) _ _ _
 refine wpAny_assign_Name (store_ok2 (v := V.ref L) J hN hy (.inl hyl) rfl (fun s2 I2 ⟨a, sb, ha⟩ => ?_) (.inr hyl))
 obtain ⟨f0, f1, f2, f3, f4, f5⟩ := f
 have haC : C ≠ a := by
  rcases ha with z | z
  ·rw [z]; exact f1
  ·exact fun e => f4 y a z e.symm
 exact ⟨m, hn.sameBut sb haC, fun h3 sb3 => ⟨_, H', I2.turned (t' := s2.toks) (fun b o hb e => (sb3.2 b hb).trans e) f0 f1 f3 f4 f5, q⟩⟩
end
theorem Un.over {fs ex : List Addr} {H H1 H2 : Hp} {h h1 h2 : Heap} (a : Un fs [] H H1 h h1) (b : Un fs ex H1 H2 h1 h2) (n : ∀ x ∈ ex, h.get? x = none) : Un fs [] H H2 h h2 := by
 have no : ∀ {c : Addr} {o : Obj}, h.get? c = some o → c ∉ ex := fun {c o} e z => by rw [n c z] at e; cases e
 refine ⟨fun c o e f hc _ => ?_, fun c o e f hc _ => ?_, fun c o e f _ => ?_, fun c o e _ => ?_, fun c xs e => b.tups c xs (a.tups c xs e), fun c o u e => b.frzs c o u (a.frzs c o u e), fun c ps e => ?_⟩
 ·exact b.keep c o (a.keep c o e f hc (by simp)) (a.free c o e f (by simp)) hc (no e)
 ·obtain ⟨sl, e1⟩ := a.slot c o e f hc (by simp)
  obtain ⟨sl2, e2⟩ := b.slot c _ e1 (a.free c o e f (by simp)) hc (no e)
  exact ⟨sl2, e2⟩
 ·obtain ⟨o1, e1⟩ := a.there c o e (by simp)
  exact b.free c o1 e1 (a.free c o e f (by simp)) (no e)
 ·obtain ⟨o1, e1⟩ := a.there c o e (by simp)
  exact b.there c o1 e1 (no e)
 ·obtain ⟨m1, e1⟩ := a.tbls c ps e
  obtain ⟨m2, e2⟩ := b.tbls c _ e1
  exact ⟨m1 ++ m2, by rw [e2, Array.append_assoc]⟩
structure jYe (X : Cx) (c P : Addr) : Prop where
 tb : LamX.TabB X.base X.mg c P
 code : X.env.code = .ref c
 mem : (P, X.env.qual ++ "<lambda>") ∈ tabs X.K
 one : ∀ p ∈ tabs X.K, p.1 = P → p.2 = X.env.qual ++ "<lambda>"
structure LamD where
 params : Arguments
 body : Expr
 scope : Scope
 lpos : Pos
structure MkF where
 d : LamD
 f : Addr
 c : Addr
 pm : Value
 ct : Value
abbrev MkF.o (X : Cx) (m : MkF) : Obj := lamO X m.d.params m.d.body m.d.scope m.pm m.c m.ct
structure LamD.Ok (X : Cx) (d : LamD) : Prop where
 sc : LamX.LamS X.env.scope d.scope
 df : defaultsOf d.params X.env = ([], [])
section
variable {X : Cx} {pins : List (Addr × Obj)} {s : Shared} {σ : L2.St} {H : Hp} {c P : Addr}
structure jIi where
 d : LamD
 yp : Pos
 ap : Pos
 cp : Pos
 sp : Pos
def jIi.st (y : Str) (l : jIi) : Stmt := .Expr (.Call (.Attribute (.Name y l.yp) "append" l.ap) [.Lambda l.d.params l.d.body l.d.scope l.d.lpos] [] l.cp) l.sp
end
abbrev jFt (P : Program) (w : World) (K : PySem.W.Frag) (mg : Str → Option Value) (base : Heap) (N : List Str) (gn : Str) (scope : Scope) (g : Addr) (cdv : Value) (A : Around) (outer : List PySem.Env) (s : Shared) (H : Hp) : Cx :=
 cxOf (L2.CX P w) P w K mg base N gn scope g cdv A outer s H X0
def exN (x : Str) : Option String :=
 if x = "ValueError" then some "ValueError" else if x = "LookupError" then some "LookupError" else if x = "ArithmeticError" then some "ArithmeticError" else if x = "KeyError" then some "KeyError" else if x = "IndexError" then some "IndexError" else if x = "ZeroDivisionError" then some "ZeroDivisionError" else none
def xiB (K : PySem.W.Frag) (C : Addr) : Bool := (PySem.W.clsIn K C).isSome && (decide (PySem.W.findIn K (.ref C) "__getattribute__" = some (some (.builtin "BaseException.__getattribute__"))) && (decide (PySem.W.findIn K (.ref C) "__getattr__" = some none) && (decide (PySem.W.subIn K (.ref C) (.type "BaseException") = some true) &&
 (decide (PySem.W.findIn K (.ref C) "__class__" = some (some (.builtin "object.__class__"))) && (decide (PySem.W.mroIn K C (.type "object") = some true) && (decide (PySem.W.specialIn K (.builtin "object.__class__") "__get__" = some (some (.builtin "getset_descriptor.__get__"))) && decide (PySem.W.takesIn K (.builtin "object.__class__") = some true)))))))
structure CalI where
 name : Str
 params : Arguments
 body : List Stmt
 scope : Scope
 N : List Str
 ps : List Str
def j0h (y : Str) : List Stmt → Option (List jIi × Pos × Pos)
 | [.Return (some (.Name z rp)) rp2] => if z = y then some ([], rp, rp2) else none
 | .Expr (.Call (.Attribute (.Name z yp) m ap) [.Lambda ps b sc lp] [] cp) sp :: r => if z = y ∧ m = "append" then (j0h y r).map fun q => (⟨⟨ps, b, sc, lp⟩, yp, ap, cp, sp⟩ :: q.1, q.2) else none
 | _ => none
def jR5 : List Stmt → Option (Str × LamD × List jIi)
 | .Assign [.Name y _] (.List [.Lambda ps b sc lp0] _) _ :: r => (j0h y r).map fun q => (y, ⟨ps, b, sc, lp0⟩, q.1)
 | _ => none
structure Gs where
 blt : List Str
 cons : List (Str × T)
 fns : List (Str × List Str × List T)
 cls : List (Str × List Str × List T)
 mts : List (Str × Str × List Str)
 prp : List (Str × Str)
 fld : List (Str × Str)
 isc : List Str
 
 tld : List (Str × List Hd)
 
 lms : List Str
 
 exs : List (Str × List Str) := []
 
 xcs : List Str := []
 
 xfl : Str := ""
 
 srt : List Str := []
 
 cms : List (Str × Str × List Str) := []
 
 dcs : List (Str × List (Str × Int)) := []
 
 trs : List (List (List Str) × List Hd) := []
 
 ids : List Str := []
 
 kdf : List Str := []
 
 rps : Bool := false
 
 cal : List CalI := []
structure Sx where
 N : List Str
 sc : Scope
 blk : Option Scope
 
 lam : Bool
def Sx.fnB (c : Sx) (x : Str) : Bool := match c.blk with
 | none => true
 | some s => s.names.lookup x == some .cell
def visB (sc : Scope) (x : Str) : Bool := match sc.names.lookup x with
 | some .local => true
 | some .cell => true
 | some .free => true
 | _ => false
def locB (sc : Scope) (x : Str) : Bool := match sc.names.lookup x with
 | some .local => true
 | some .cell => true
 | _ => false
def glB (c : Sx) (x : Str) : Bool := c.sc.names.lookup x == some .globalImplicit
def varB (c : Sx) (i : Nat) (x : Str) : Bool := c.N[i]? == some x && visB c.sc x && !(x == ("__debug__" : Str)) && !(x == ("__classdict__" : Str))
def tgB (c : Sx) (i : Nat) (x : Str) : Bool := c.N[i]? == some x && locB c.sc x && (c.fnB x || c.sc.names.lookup x == some .local)
def bltB (G : Gs) (c : Sx) (x : Str) : Bool := glB c x && G.blt.contains x
def eqSs : List T → List T → Bool
 | [], [] => true
 | .str a :: r, .str b :: q => a == b && eqSs r q
 | _, _ => false
def eqC : T → T → Bool
 | .non, .non => true
 | .bl a, .bl b => a == b
 | .int a, .int b => a == b
 | .str a, .str b => a == b
 | .tup a, .tup b => eqSs a b
 | _, _ => false
def eqHi : Hi → Hi → Bool
 | .con a, .con b => eqC a b
 | .fld f, .fld g => f == g
 | .rpr f, .rpr g => f == g
 | _, _ => false
def jMm : List Hi → List Hi → Bool
 | [], [] => true
 | a :: as, b :: bs => eqHi a b && jMm as bs
 | _, _ => false
def eqHb : Hb → Hb → Bool
 | .lst a, .lst b => jMm a b
 | .tup a, .tup b => jMm a b
 | .con a, .con b => eqC a b
 | _, _ => false
def jId : List Hd → List Hd → Bool
 | [], [] => true
 | a :: as, b :: bs => (a.cs == b.cs && eqHb a.b b.b) && jId as bs
 | _, _ => false
def conB (G : Gs) (c : Sx) (t : T) : Expr → Bool
 | .Constant (.int i) _ _ => eqC t (.int i)
 | .Constant (.bool b) _ _ => eqC t (.bl b)
 | .Constant .none _ _ => eqC t .non
 | .Constant (.str x) _ _ => eqC t (.str x) && decide (x.length ≤ sizeLine) && PyData.strOk x
 | .Name x _ => glB c x && !(x == ("__debug__" : Str)) && G.cons.any fun p => p.1 == x && eqC t p.2
 | _ => false
def jBl : Expr → Bool
 | .Call (.Name _ _) [] [] _ => false
 | _ => true
def jJp : Expr → Bool
 | .Slice _ _ _ _ => false
 | _ => true
def ownB (N : List Str) (ws : List Nat) : List (Str × Nat) := ws.filterMap fun i => (N[i]?).map fun x => (x, i)
def Sx.in (c : Sx) (scope : Scope) : Sx := ⟨c.N, relS scope c.sc, some scope, c.lam && c.blk.isNone⟩
def blkB (c : Sx) (scope : Scope) (ws : List Nat) : Bool :=
 scope.kind == .function && decide ((ownB c.N ws).map (·.2) = ws) && scope.names.all (fun y => scope.names.lookup y.1 == some y.2) &&
  scope.names.all (fun y => y.2 != .free || c.sc.names.lookup y.1 == some .cell || c.sc.names.lookup y.1 == some .free) &&
  scope.names.all (fun y => (y.2 != .local && y.2 != .cell) || ((ownB c.N ws).map (·.1)).contains y.1 || !c.N.contains y.1)
theorem jNn {X : Cx} {c : Sx} {s : Shared} {H : Hp} {scope : Scope} {C : Addr} {cl : List (Str × Addr)} {fp : List Addr} (h : X.env.scope = c.sc) : (X.blk s H scope (compEnvC scope cl C X.env) fp).env.scope = (c.in scope).sc := by
 show relabel scope X.env = relS scope c.sc
 rw [← h]
 rfl
def tgsB (c : Sx) : List Nat → List Expr → Bool
 | [], [] => true
 | i :: is, .Name x _ :: es => tgB c i x && tgsB c is es
 | _, _ => false
def tgtB (c : Sx) : Tg → Expr → Bool
 | .nm i, .Name x _ => tgB c i x
 | .tp is, .Tuple es _ _ => tgsB c is es
 | .tn i is, .Tuple [.Name x _, .Tuple es _ _] _ _ => tgB c i x && tgsB c is es
 | _, _ => false
theorem jHg {X : Cx} {c : Sx} {x : Str} (hs : X.env.scope = c.sc) (h : glB c x = true) : Gl X x := by
 unfold glB at h
 rw [waj, ← hs] at h
 exact h
def ceN : Expr → List Str
 | .Name x _ => [x]
 | .Tuple [.Name x _, .Name y _, .Name z _] _ _ => [x, y, z]
 | _ => []
def conH (t : T) : Expr → Bool
 | .Constant (.int i) _ _ => eqC t (.int i)
 | .Constant (.bool b) _ _ => eqC t (.bl b)
 | .Constant .none _ _ => eqC t .non
 | .Constant (.str x) _ _ => eqC t (.str x) && decide (x.length ≤ sizeLine) && PyData.strOk x
 | _ => false
def hiB (n : Option Str) (rb : Bool) : Hi → Expr → Bool
 | .con t, e => conH t e
 | .fld f, .Attribute (.Name y _) f' _ => f == f' && decide (n = some y)
 | .rpr f, .Call (.Name r _) [.Attribute (.Name y _) f' _] [] _ => false
 | _, _ => false
def hisB (n : Option Str) (rb : Bool) : List Hi → List Expr → Bool
 | [], [] => true
 | h :: hs, e :: es => hiB n rb h e && (noStar e && hisB n rb hs es)
 | _, _ => false
def hbB (n : Option Str) (rb : Bool) : Hb → Expr → Bool
 | .lst is, .List es _ => hisB n rb is es && decide (is.length ≤ 100)
 | .tup is, .Tuple es _ _ => hisB n rb is es && decide (is.length ≤ 100)
 | .con t, e => conH t e
 | _, _ => false
def nmB (d : Sx) : Option Str → Bool
 | none => true
 | some y => d.N[d.N.idxOf y]? == some y && d.sc.names.lookup y == some .local && !(y == ("__debug__" : Str)) && !(y == ("__classdict__" : Str))
def glD (d : Sx) (x : Str) : Bool := glB ⟨d.N, d.sc, none, false⟩ x && !(x == ("__debug__" : Str))
def rprB (G : Gs) (d : Sx) : Bool := G.rps && bltB G ⟨d.N, d.sc, none, false⟩ "repr"
def hclB (G : Gs) (d : Sx) (h : ExceptHandler) (hd : Hd) : Bool := match h with
 | .ExceptHandler (some ce) n [.Return (some e) _] _ => !(ceN ce).isEmpty && (ceN ce).all (fun x => glD d x && G.xcs.contains x) && nmB d n && hbB n (rprB G d) hd.b e
 | _ => false
def clsB (G : Gs) (d : Sx) : List ExceptHandler → List Hd → Bool
 | [], [] => true
 | h :: hs, x :: xs => hclB G d h x && clsB G d hs xs
 | _, _ => false
def clF (K : PySem.W.Frag) (G : Gs) (h : ExceptHandler) (hd : Hd) : Bool := match h with
 | .ExceptHandler (some ce) _ _ _ => G.exs.all fun q => decide (PySem.W.exmAny K (.ref (ca K q.1)) ((ceN ce).map fun x => .ref (ca K x)) = some (hd.cs.contains q.1))
 | _ => false
def jOk : Hb → List Str
 | .lst is => is.filterMap fun | .fld f => some f | .rpr f => some f | _ => none
 | .tup is => is.filterMap fun | .fld f => some f | .rpr f => some f | _ => none
 | .con _ => []
def clsF (K : PySem.W.Frag) (G : Gs) : List ExceptHandler → List Hd → Bool
 | [], [] => true
 | h :: hs, x :: xs => clF K G h x && ((jOk x.b).all (fun f => G.exs.all fun q => xfB K (ca K q.1) && decide (PySem.W.findIn K (.ref (ca K q.1)) f = some none)) && clsF K G hs xs)
 | _, _ => false
def ceH : ExceptHandler → List Str
 | .ExceptHandler (some ce) _ _ _ => ceN ce
 | _ => []
def isxF (K : PySem.W.Frag) (G : Gs) (cv : Value) (sub : List Str) : Bool := G.exs.all fun q => xiB K (ca K q.1) && decide (PySem.W.kitOne K (.ref (ca K q.1)) cv = some (sub.contains q.1))
def trF (K : PySem.W.Frag) (G : Gs) : List (List Str) → List Hd → Bool
 | [], [] => true
 | [], ⟨sub, .con (.str x)⟩ :: _ => isxF K G (.ref (ca K x)) sub
 | [], ⟨sub, .lst [.con (.str x)]⟩ :: _ => match exN x with
  | some n => isxF K G (.type n) sub
  | none => false
 | cs :: r, x :: xs => (G.exs.all fun q => decide (PySem.W.exmAny K (.ref (ca K q.1)) (cs.map fun x => .ref (ca K x)) = some (x.cs.contains q.1))) && ((jOk x.b).all (fun f => G.exs.all fun q => xfB K (ca K q.1) && decide (PySem.W.findIn K (.ref (ca K q.1)) f = some none)) && trF K G r xs)
 | _, _ => false
def biX : Bi → Option Str
 | .len => some "len" | .int => some "int" | .all => some "all" | .tuple => some "tuple" | .list => some "list"
 | .repr => some "repr" | .str => some "str"
 | _ => none
def ksOf (kws : List Keyword) : List Str := kws.filterMap (·.arg)
def kwB (kws : List Keyword) : Bool := decide (kws.map (·.arg) = (ksOf kws).map some)
def dfB (dT : List T) : List PArg → Bool
 | [] => true
 | .arg _ :: r => dfB dT r
 | .dflt j t :: r => (match dT[j]? with | some u => eqD u t | none => false) && dfB dT r
where eqD : T → T → Bool
 | .tup [], .tup [] => true
 | a, b => eqC a b
def upA (pl : List PArg) : List PArg := .arg 0 :: pl.map fun a => match a with | .arg i => .arg (i + 1) | .dflt j t => .dflt j t
abbrev Ck := Sx → Expr → Bool
abbrev CkL := Sx → List Expr → Bool
abbrev CkR := Sx → Expr → Expr → Bool
def kVar (c : Sx) (i : Nat) : Expr → Bool
 | .Name x _ => varB c i x
 | _ => false
def kBin (c : Sx) (op : Operator) (ra rb : Ck) : Expr → Bool
 | .BinOp a op' b _ => decide (op = op') && ra c a && rb c b
 | _ => false
def kNeg (c : Sx) (ra : Ck) : Expr → Bool
 | .UnaryOp .USub a _ => ra c a
 | _ => false
def kNt (c : Sx) (ra : Ck) : Expr → Bool
 | .UnaryOp .Not a _ => ra c a
 | _ => false
def kCmp (c : Sx) (op : CmpOp) (ra rb : Ck) : Expr → Bool
 | .Compare a [op'] [b] _ => decide (op = op') && ra c a && rb c b && !behindInMarks op' b
 | _ => false
def jFj (c : Sx) (op op2 : CmpOp) (ra rb rd : Ck) : Expr → Bool
 | .Compare a [p, p2] [b, d] _ => decide (op = p) && decide (op2 = p2) && ra c a && rb c b && rd c d && !lastMarks [p, p2] [b, d]
 | _ => false
def kAnd (c : Sx) (ra rb : Ck) : Expr → Bool
 | .BoolOp .And [a, b] _ => ra c a && rb c b
 | .BoolOp .And (a :: b :: d :: r) p => ra c a && rb c (.BoolOp .And (b :: d :: r) p)
 | _ => false
def kOr (c : Sx) (ra rb : Ck) : Expr → Bool
 | .BoolOp .Or [a, b] _ => ra c a && rb c b
 | .BoolOp .Or (a :: b :: d :: r) p => ra c a && rb c (.BoolOp .Or (b :: d :: r) p)
 | _ => false
def kIte (c : Sx) (rt ra rb : Ck) : Expr → Bool
 | .IfExp t a b _ => rt c t && ra c a && rb c b
 | _ => false
def kTup (c : Sx) (rl : CkL) : Expr → Bool
 | .Tuple es _ _ => rl c es
 | _ => false
def kLst (c : Sx) (rl : CkL) : Expr → Bool
 | .List es _ => rl c es
 | _ => false
abbrev CkD := Sx → List (Option Expr) → List Expr → Bool
def kDk (c : Sx) (rk rv : Ck) (rd : CkD) : List (Option Expr) → List Expr → Bool
 | some k :: ks, v :: vs => rk c k && rv c v && rd c ks vs
 | _, _ => false
def kDst (c : Sx) (rv : Ck) (rd : CkD) : List (Option Expr) → List Expr → Bool
 | none :: ks, v :: vs => rv c v && rd c ks vs
 | _, _ => false
def kDn : List (Option Expr) → List Expr → Bool
 | [], [] => true
 | _, _ => false
def bmN : Bm → Str
 | .index => "index" | .count => "count" | .join => "join" | .split => "split" | .countS => "count" | .countT => "count" | _ => ""
def kBm (c : Sx) (b : Bm) (ro : Ck) (rl : CkL) : Expr → Bool
 | .Call (.Attribute o m apos) [a] [] cpos => m == bmN b && (b == .index || b == .count || b == .join || b == .split || b == .countS || b == .countT) && jBl o && apos.endLine == cpos.line && noStar a && ro c o && rl c [a]
 | .Call (.Attribute o m apos) [] [] cpos => m == "upper" && b == .upper && jBl o && apos.endLine == cpos.line && ro c o && rl c []
 | _ => false
def repS : Exs → Str → Str → Bool
 | .cons (.con (.str y')) (.cons (.con (.str z')) .nil), y, z => y' == y && z' == z
 | _, _, _ => false
def jVp (c : Sx) (b : Bm) (es : Exs) (ro : Ck) : Expr → Bool
 | .Call (.Attribute (.Subscript a (.Constant (.int i) k p) p1) m apos) [.Constant (.str y) _ _, .Constant (.str z) _ _] [] cpos => b == .repl && m == "replace" && repS es y z && !(y == z) && apos.endLine == cpos.line && ro c (.Subscript a (.Constant (.int i) k p) p1)
 | _ => false
def jVm (G : Gs) (c : Sx) (k m : Str) (n : Nat) (ro : Ck) (rl : CkL) : Expr → Bool
 | .Call (.Attribute o m' apos) es [] cpos => m' == m && jBl o && apos.endLine == cpos.line && es.all noStar && decide (es.length < 30) && decide (n = es.length) && (G.mts.any fun p => p.1 == k && p.2.1 == m && decide (p.2.2.length = es.length + 1)) && ro c o && rl c es
 | _ => false
def kIdx (c : Sx) (ra rb : Ck) : Expr → Bool
 | .Subscript a b _ => ra c a && rb c b && jJp b
 | _ => false
def jQu (c : Sx) (l : Bool) (r : Ck) : Option Expr → Bool
 | none => !l
 | some x => l && r c x
def kSlc (c : Sx) (l h : Bool) (ra rlo rhi : Ck) : Expr → Bool
 | .Subscript a (.Slice lo hi none _) _ => ra c a && jQu c l rlo lo && jQu c h rhi hi
 | _ => false
def jQy (c : Sx) (f : Str) (n : Nat) (as : List Expr) (kws : List Keyword) (x : Str) (rl : CkL) : Bool :=
 x == f && glB c x && !(x == ("__debug__" : Str)) && as.all noStar && kwB kws && decide (n = as.length + (ksOf kws).length) && rl c (as ++ kws.map (·.value))
def jTw (G : Gs) (c : Sx) (f : Str) (n : Nat) (rl : CkL) : Expr → Bool
 | .Call (.Name x _) as kws _ => jQy c f n as kws x rl && (G.fns.any fun p => p.1 == x && plOk p.2.1 as.length (ksOf kws) p.2.2.length (idPl n))
 | _ => false
def jZs (a : Arguments) : Bool := a.posonlyargs.isEmpty && a.args.isEmpty && a.vararg.isNone && a.kwonlyargs.isEmpty && a.kw_defaults.isEmpty && a.kwarg.isNone && a.defaults.isEmpty
def jUk (G : Gs) (c : Sx) (k f : Str) (ro : Ck) : Expr → Bool
 | .Attribute o f' _ => f' == f && jBl o && (G.fld.any fun p => p.1 == k && p.2 == f) && ro c o
 | _ => false
def jTe (G : Gs) (c : Sx) (k f : Str) (ro : Ck) : Expr → Bool
 | .Attribute o f' _ => f' == f && jBl o && (G.prp.any fun p => p.1 == k && p.2 == f) && ro c o
 | _ => false
def kBi (G : Gs) (c : Sx) (b : Bi) (rl : CkL) : Expr → Bool
 | .Call (.Name x _) (a :: as) [] _ => biX b == some x && bltB G c x && (a :: as).all noStar && rl c (a :: as)
 | _ => false
def jRp : Expr → Bool
 | .Call _ _ _ _ => true
 | _ => false
def jSt : Ex → Bool
 | .con (.str _) => true
 | _ => false
def jLv (c : Sx) (x : Ex) (r : Ck) (rl : CkL) : List Expr → Bool
 | .FormattedValue e cv none _ :: es => cv == -1 && r c e && rl c es
 | .Constant k kk p :: es => jSt x && r c (.Constant k kk p) && rl c es
 | _ => false
def j55 : PArg → Bool
 | .arg _ => true
 | _ => false
def rowX (sub : List Str) (x : Str) (b : Bool) : List Hd → Bool
 | [⟨s, .con (.str y)⟩] => !b && (decide (s = sub) && y == x)
 | [⟨s, .lst [.con (.str y)]⟩] => b && (decide (s = sub) && y == x)
 | _ => false
def tyX (G : Gs) (c : Sx) (x : Str) (b : Bool) : Expr → Bool
 | .Name z _ => z == x && (if b then bltB G c z && (exN z).isSome else glB c z && (G.xcs.contains z && !(z == ("__debug__" : Str))))
 | _ => false
def jO7 (f : Str) (p : List (List Str) × List Hd) : Bool := match p.1, p.2 with
 | [_], [⟨_, .lst is⟩] => is.any fun i => match i with
  | .fld g => g == f
  | _ => false
 | _, _ => false
def kXo (G : Gs) (c : Sx) (n : Nat) (rl : CkL) : Xo → Expr → Bool
 | .mk x ns pl, .Call (.Name y _) as kws _ => jQy c x n as kws y rl && ((G.exs.any fun p => p.1 == y && decide (p.2 = ns)) && (plOk (("self" : Str) :: ns) (as.length + 1) (ksOf kws) 0 (upA pl) && ((as.isEmpty || (ksOf kws).isEmpty) && ((!ns.isEmpty || (ksOf kws).isEmpty) && (pl.all j55 && decide (as.length ≤ 100))))))
 | .isx all sub x b, .Call (.Name y _) [a, t] [] _ => y == "isinstance" && (bltB G c y && (noStar a && (noStar t && (tyX G c x b t && ((all.all fun k => G.exs.any fun p => p.1 == k) && ((G.trs.any fun p => p.1.isEmpty && rowX sub x b p.2) && (decide (n = 1) && rl c [a])))))))
 | .fld cs f, .Attribute a g _ => g == f && (jBl a && (noStar a && ((cs.all fun k => G.exs.any fun p => p.1 == k) && ((G.trs.any (jO7 f)) && (decide (n = 1) && rl c [a])))))
 | _, _ => false
def jWk : Ex → Bool
 | .con (.bl true) => true
 | _ => false
def kIfs (c : Sx) (cond : Ex) (rc : Ck) : List Expr → Bool
 | [] => jWk cond
 | [t] => rc c t
 | _ => false
def kLc (c : Sx) (ws : List Nat) (tg : Tg) (cond : Ex) (rs : CkR) (rc re : Ck) : Expr → Bool
 | .ListComp elt [⟨tg', iter, ifs, 0⟩] scope _ => blkB c scope ws && tgtB (c.in scope) tg tg' && (tgS tg).all (fun j => ws.contains j) && rs c tg' iter && kIfs (c.in scope) cond rc ifs && re (c.in scope) elt
 | _ => false
def kLc2 (c : Sx) (ws : List Nat) (tg tg2 : Tg) (cond cond2 : Ex) (rs rs2 : CkR) (rc rc2 re : Ck) : Expr → Bool
 | .ListComp elt [⟨tg', iter, ifs, 0⟩, ⟨tg2', iter2, ifs2, 0⟩] scope _ => blkB c scope ws && tgtB (c.in scope) tg tg' && tgtB (c.in scope) tg2 tg2' && (tgS tg).all (fun j => ws.contains j) && (tgS tg2).all (fun j => ws.contains j) && rs c tg' iter && rs2 (c.in scope) tg2' iter2 &&
   kIfs (c.in scope) cond rc ifs && kIfs (c.in scope) cond2 rc2 ifs2 && re (c.in scope) elt
 | _ => false
def kDc (c : Sx) (ws : List Nat) (tg : Tg) (cond : Ex) (rs : CkR) (rc rk rv : Ck) : Expr → Bool
 | .DictComp kx vx [⟨tg', iter, ifs, 0⟩] scope _ => blkB c scope ws && tgtB (c.in scope) tg tg' && (tgS tg).all (fun j => ws.contains j) && rs c tg' iter && kIfs (c.in scope) cond rc ifs && rk (c.in scope) kx && rv (c.in scope) vx
 | _ => false
def kNil : List Expr → Bool
 | [] => true
 | _ => false
def jNh (c : Sx) (r : Ck) (rl : CkL) : List Expr → Bool
 | e :: es => r c e && rl c es
 | _ => false
def kOne (c : Sx) (r : Ck) (rl : CkL) : List Expr → Bool
 | e :: es => noStar e && r c e && rl c es
 | _ => false
def jVh (c : Sx) (r : Ck) (rl : CkL) : List Expr → Bool
 | .Starred e _ :: es => r c e && rl c es
 | _ => false
def jM0 : Expr → Bool
 | .Set _ _ _ => false
 | _ => true
def jT2 (G : Gs) (c : Sx) (r : Ck) : Expr → Bool
 | .Call (.Name y _) [a] [] _ => y == "range" && bltB G c y && noStar a && r c a
 | _ => false
mutual
def er (G : Gs) : Ex → Ck
 | .var i => fun c e => kVar c i e
 | .con t => fun c e => conB G c t e
 | .bin op a b => fun c e => kBin c op (er G a) (er G b) e
 | .neg a => fun c e => kNeg c (er G a) e
 | .nt a => fun c e => kNt c (er G a) e
 | .cmp op a b => fun c e => kCmp c op (er G a) (er G b) e
 | .chain op op2 a b d => fun c e => jFj c op op2 (er G a) (er G b) (er G d) e
 | .and a b => fun c e => kAnd c (er G a) (er G b) e
 | .or a b => fun c e => kOr c (er G a) (er G b) e
 | .ite t a b => fun c e => kIte c (er G t) (er G a) (er G b) e
 | .tup es => fun c e => kTup c (erL G es) e
 | .lst es => fun c e => kLst c (erL G es) e
 | .cel es => fun _ _ => false
 | .dsp ds => fun _ _ => false
 | .idx a b => fun c e => kIdx c (er G a) (er G b) e
 | .slc l h a lo hi => fun c e => kSlc c l h (er G a) (er G lo) (er G hi) e
 | .rev a => fun _ _ => false
 | .call f es => fun c e => jTw G c f (lenS es) (erS G es) e
 | .told f hs x => fun _ _ => false
 | .toldC ws f hs g np nn es ix kk xs => fun _ _ => false
 | .callk f pl es => fun _ _ => false
 | .new k pl es => fun _ _ => false
 | .meth o k m es => fun c e => jVm G c k m (lenS es) (er G o) (erS G es) e
 | .methk o k m pl es => fun _ _ => false
 | .getc x D a => fun _ _ => false
 | .clsm k m pl es => fun _ _ => false
 | .newv i k pl es => fun _ _ => false
 | .attr o k f => fun c e => jUk G c k f (er G o) e
 | .prop o k f => fun c e => jTe G c k f (er G o) e
 | .bi .lrange es => fun _ _ => false
 | .bi .lenSet es => fun _ _ => false
 | .bi .sortedSet es => fun _ _ => false
 | .bi .dictZ es => fun _ _ => false
 | .bi .zipL es => fun _ _ => false
 | .bi .zipT es => fun _ _ => false
 | .bi .sortK es => fun _ _ => false
 | .bi .eqSet es => fun _ _ => false
 | .bi .itemsL es => fun _ _ => false
 | .bi .sortedD es => fun _ _ => false
 | .bi .dictP es => fun _ _ => false
 | .bi .reprN es => fun _ _ => false
 | .bi .maxV es => fun _ _ => false
 | .bi b es => fun c e => kBi G c b (erS G es) e
 | .spec k m es => fun _ _ => false
 | .own1 k m a => fun _ _ => false
 | .eqo cs a b => fun _ _ => false
 | .eqc ne k ks a b => fun _ _ => false
 | .eqi ne k r a b => fun _ _ => false
 | .ownb k a => fun _ _ => false
 | .ownr k a => fun _ _ => false
 | .ownl k a => fun _ _ => false
 | .bm b o es => fun c e => kBm c b (er G o) (erS G es) e || jVp c b es (er G o) e
 | .isi a ty ks => fun _ _ => false
 | .isd a ty ks => fun _ _ => false
 | .own2 k a b => fun _ _ => false
 | .ownin ne k a b => fun _ _ => false
 | .lc ws tg src cond elt => fun c e => kLc c ws tg cond (erR G src) (er G cond) (er G elt) e
 | .lc2 ws tg src cond tg2 src2 cond2 elt => fun c e => kLc2 c ws tg tg2 cond cond2 (erR G src) (erR G src2) (er G cond) (er G cond2) (er G elt) e
 | .dc ws tg src cond k v => fun c e => kDc c ws tg cond (erR G src) (er G cond) (er G k) (er G v) e
 | .minBy a i b => fun _ _ => false
 | .fstr es => fun _ _ => false
 | .xo k es => fun c e => kXo G c (lenS es) (erS G es) k e
 | .lend _ x => fun c e => jRp e && er G x c e
 | .dead => fun _ _ => true
def erS (G : Gs) : Exs → CkL
 | .nil => fun _ es => kNil es
 | .cons x xs => fun c es => jNh c (er G x) (erS G xs) es
def erA (G : Gs) : Exs → List Str → Scope → List LamD → Bool
 | .nil => fun _ _ ds => ds.isEmpty
 | .cons x xs => fun N sc ds => match ds with
  | d :: r => jZs d.params && LamX.lamSB sc d.scope && er G x ⟨N, d.scope, some d.scope, false⟩ d.body && erA G xs N sc r
  | [] => false
def erF (G : Gs) : Exs → CkL
 | .nil => fun _ es => kNil es
 | .cons x xs => fun c es => jLv c x (er G x) (erF G xs) es
def erL (G : Gs) : Els → CkL
 | .nil => fun _ es => kNil es
 | .one x xs => fun c es => kOne c (er G x) (erL G xs) es
 | .star x xs => fun c es => jVh c (er G x) (erL G xs) es
def erR (G : Gs) : Src → CkR
 | .of x => fun c _ e => er G x c e && jM0 e
 | .rng1 x => fun c _ e => jT2 G c (er G x) e
 | .rng2 x y => fun _ _ _ => false
 | .rngD x y z => fun _ _ _ => false
 | .enm x => fun _ _ _ => false
 | .zip x y => fun _ _ _ => false
 | .itm x => fun _ _ _ => false
 | .kys x => fun _ _ _ => false
def erD (G : Gs) : Dps → CkD
 | .nil => fun _ ks vs => kDn ks vs
 | .kv k v r => fun c ks vs => kDk c (er G k) (er G v) (erD G r) ks vs
 | .star e r => fun c ks vs => kDst c (er G e) (erD G r) ks vs
end
structure Er (X : Cx) (rx : RX) (W : WX) (Φ : Calls) (e : Expr) (x : Ex) : Prop where
 de : PE X e (DE X.K rx W Φ x)
 dw : PE X e (DW X.K rx W Φ x)
 df : fresh x = true → PE X e (DF X.K rx W Φ x)
 dt : PT X e (DT X.K rx W Φ x)
structure CalP (P : Program) (w : World) (K : PySem.W.Frag) (mg : Str → Option Value) (base : Heap) (p : CalI) (g : Addr) : Prop where
 ex : ∀ y d ls, jR5 p.body = some (y, d, ls) → ∃ (dV kV doc pm cdv ct oc : Value) (an od : Option Addr) (osl : Array (Option Value)) (i : Nat) (c P' : Addr),
  K.lookup g = some ⟨oc, od, .func (PySem.W.fnOf p.name p.name p.params p.body p.scope dV kV doc pm an cdv ct), osl⟩ ∧ PySem.W.codeIn K cdv p.name = true ∧
  L2.Binds K (PySem.W.fnOf p.name p.name p.params p.body p.scope dV kV doc pm an cdv ct) p.ps [] ∧ FnScope p.N p.ps p.scope ∧ p.N[i]? = some y ∧ p.ps.length ≤ i ∧ p.scope.names.lookup y = some .local ∧ (y == ("__debug__" : Str)) = false ∧ (y == ("__classdict__" : Str)) = false ∧
  ls.length < 1000 ∧ (∀ l ∈ ls, (l.ap.endLine == l.cp.line) = true) ∧ ∀ (A : Around) (outer : List PySem.Env) (s : Shared) (H : Hp), jYe (jFt P w K mg base p.N p.name p.scope g cdv A outer s H) c P'
 kp : PySem.W.keepIn K (.ref g) = true
structure GOk (P : Program) (w : World) (K : PySem.W.Frag) (mg : Str → Option Value) (base : Heap) (CX : CXT) (k : Nat) (rx : RX) (Φ : Calls) (G : Gs) : Prop where
 blt : ∀ x ∈ G.blt, mg x = none
 cons : ∀ p ∈ G.cons, ∃ u v, mg p.1 = some u ∧ RelV v u ∧ ∀ S as, Rep K S as v p.2
 fns : ∀ p ∈ G.fns, ∃ fa, mg p.1 = some (.ref fa) ∧ jB6 P w K mg base CX k fa p.2.1 p.2.2 (spM K rx p.2.1.length (Φ ("", p.1)))
 cls : ∀ p ∈ G.cls, ∃ fa n, mg p.1 = some (.ref (ca K p.1)) ∧ Mk K (ca K p.1) fa ∧ p.2.1.length = n + 1 ∧ jB6 P w K mg base CX k fa p.2.1 p.2.2 (spN K rx p.1 n (Φ (p.1, "")))
 prp : ∀ p ∈ G.prp, ∃ fa q ps dT, Cls K (ca K p.1) ∧ PropOf K (ca K p.1) p.2 q fa ∧ ps.length = 1 ∧ plOk ps 1 [] dT.length (idPl 1) = true ∧ jB6 P w K mg base CX k fa ps dT (spM K rx ps.length (Φ (p.1, p.2)))
 fld : ∀ p ∈ G.fld, Cls K (ca K p.1) ∧ NoAttr K (ca K p.1) p.2
 isi : ∀ ty ks, (∀ k ∈ ks, k ∈ G.isc) → (∀ c, ty = .cls c → ∃ p ∈ G.cls, p.1 = c) → jOs K ty ks
 mts : ∀ p ∈ G.mts, MtOk P w K mg base CX k rx Φ p.1 p.2.1 p.2.2
 cms : ∀ p ∈ G.cms, ∃ mc q fa dT, mg p.1 = some (.ref (ca K p.1)) ∧ ClX.CRead K (ca K p.1) mc ∧ ClX.CMet K (ca K p.1) mc p.2.1 q fa ∧ plOk p.2.2 p.2.2.length [] (dT : List T).length (idPl p.2.2.length) = true ∧ jB6 P w K mg base CX k fa p.2.2 dT (spM K rx p.2.2.length (Φ (p.1, p.2.1)))
 dcs : ∀ p ∈ G.dcs, ∃ a, mg p.1 = some (.ref a) ∧ DcK K a p.2
 rxe : rx = rxE G.exs
 exs : ∀ p ∈ G.exs, mg p.1 = some (.ref (ca K p.1)) ∧ XCls P K mg (ca K p.1) p.2
 cxe : CX = L2.CX P w
 xcs : ∀ x ∈ G.xcs, mg x = some (.ref (ca K x))
 trs : ∀ p ∈ G.trs, trF K G p.1 p.2 = true
 ids : ∀ c ∈ G.ids, j0g K (ca K c)
 kdf : ∀ x ∈ G.kdf, ∃ f, mg x = some (.ref f) ∧ jLs K f
 rps : G.rps = true → RpO K mg
 cal : ∀ p ∈ G.cal, ∃ g, mg p.name = some (.ref g) ∧ CalP P w K mg base p g
 tld : ∀ p ∈ G.tld, ∃ g, mg p.1 = some (.ref g) ∧ Tld P w K mg base (k + 1) (rxE G.exs) G.exs p.1 g p.2 (fun t => Φ ("!", p.1) [t])
structure j76 (X : Cx) (k : Nat) : Prop where
 room : Room (k + 4) X.A
 ex : ∃ cc P, X.env.code = .ref cc ∧ LamX.TabB X.base X.mg cc P ∧ (P, X.env.qual ++ "<lambda>") ∈ tabs X.K ∧ ∀ p ∈ tabs X.K, p.1 = P → p.2 = X.env.qual ++ "<lambda>"
structure XOk (X : Cx) (c : Sx) (CX : CXT) (k : Nat) (rx : RX) (Φ : Calls) (G : Gs) : Prop where
 N : X.N = c.N
 sc : X.env.scope = c.sc
 fn : ∀ x, c.fnB x = true → X.fn x = true
 calm : X.calm = true
 nd : X.N.Nodup
 room : Room (k + 1) X.A
 gd : X.A.guards = some []
 g : GOk X.prog X.w X.K X.mg X.base CX k rx Φ G
 lam : c.lam = true → j76 X k
 r4 : c.blk = none → Room (k + 4) X.A
abbrev NoX (CX : CXT) : Prop := ∀ (X : Cx) (σ : L2.St), PassesAt CX X σ fun _ _ _ => False
section
variable {X : Cx} {c : Sx} {CX : CXT} {k : Nat} {rx : RX} {Φ : Calls} {G : Gs} {W : WX} {e : Expr} {x y z : Ex}
theorem XOk.blk (h : XOk X c CX k rx Φ G) (scope : Scope) (s : Shared) (H : Hp) (C : Addr) (cl : List (Str × Addr)) (fp : List Addr) : XOk (X.blk s H scope (compEnvC scope cl C X.env) fp) (c.in scope) CX k rx Φ G :=
 ⟨h.N, jNn h.sc, fun x hx => hx, h.calm, h.nd, h.room, h.gd, h.g, (fun z => ⟨(h.lam ((wab _ _).mp z).1).room, (h.lam ((wab _ _).mp z).1).ex⟩), fun z => nomatch z⟩
theorem XOk.units (h : XOk X c CX k rx Φ G) : X.A.units + 66 < cLine := by have := h.room.un; omega
theorem XOk.blt (h : XOk X c CX k rx Φ G) {x : Str} (hb : bltB G c x = true) : Gl X x ∧ X.mg x = none := by
 unfold bltB at hb
 rw [wab] at hb
 exact ⟨jHg h.sc hb.1, h.g.blt x (by simpa using hb.2)⟩
variable {ra rb rd : Ck}
abbrev IhE (X : Cx) (rx : RX) (W : WX) (Φ : Calls) (c : Sx) (r : Ck) (x : Ex) : Prop := ∀ e, r c e = true → Er X rx W Φ e x
end
section
variable {X : Cx} {c : Sx} {CX : CXT} {k : Nat} {rx : RX} {Φ : Calls} {G : Gs} {W : WX} {e : Expr} {x y z : Ex} {ra rb rd : Ck} {rl : CkL}
abbrev IhB (c : Sx) (CX : CXT) (k : Nat) (rx : RX) (Φ : Calls) (G : Gs) (r : Ck) (x : Ex) : Prop := ∀ (X : Cx) (scope : Scope), XOk X (c.in scope) CX k rx Φ G → IhE X rx WF Φ (c.in scope) r x
end
section
variable {CX : CXT} {k : Nat} {rx : RX} {Φ : Calls} {G : Gs}
abbrev OkX (CX : CXT) (k : Nat) (rx : RX) (Φ : Calls) (G : Gs) (x : Ex) : Prop := ∀ (X : Cx) (c : Sx) (W : WX), XOk X c CX k rx Φ G → (∀ σ, PassesAt CX X σ (WE W σ)) → IhE X rx W Φ c (er G x) x
theorem okB {x : Ex} (nx : NoX CX) (h : OkX CX k rx Φ G x) (c : Sx) : IhB c CX k rx Φ G (er G x) x := fun X scope o => h X (c.in scope) WF o (fun σ => nx X σ)
end
def jEp : Expr → Bool
 | .ListComp _ _ _ _ => false
 | .SetComp _ _ _ _ => false
 | .DictComp _ _ _ _ _ => false
 | _ => true
def lcSw (c : Sx) (y : Str) (py : Pos) (scope : Scope) (lp : Pos) : Bool :=
 c.sc.names.lookup y == some .local && py.line == lp.line && !(scope.names.any fun (n, k) => n == y && (k == .local || k == .cell))
def swS (c : Sx) (ts vs : List Expr) : Option (Option (List Str)) :=
 if (!(ts.length == 2 || ts.length == 3) || vs.length != ts.length || ScopeKind.function != ScopeKind.function) = true then some none
 else if (vs.any fun | .Starred .. => true | _ => false) = true then some none
 else if ((ts.filterMap fun
   | .Name id pos => if (c.sc.names.lookup id == some .local && pos.line == (ts.head?.map (·.pos.line)).getD 0) = true then some id else none
   | _ => none).length != ts.length || (ts.filterMap fun
 | .Name id pos => if (c.sc.names.lookup id == some .local && pos.line == (ts.head?.map (·.pos.line)).getD 0) = true then some id else none
 | _ => none).eraseDups.length != (ts.filterMap fun
 | .Name id pos => if (c.sc.names.lookup id == some .local && pos.line == (ts.head?.map (·.pos.line)).getD 0) = true then some id else none
 | _ => none).length) = true then some none
 else if (vs.all (foldedForSure 8)) = true then some none
 else if (vs.all (constantsAlone 8)) = true then none
 else some (some (ts.filterMap fun
   | .Name id pos => if (c.sc.names.lookup id == some .local && pos.line == (ts.head?.map (·.pos.line)).getD 0) = true then some id else none
   | _ => none))
def jHw (c : Sx) (i : Nat) (x : Str) : Bool := c.N[i]? == some x && c.sc.names.lookup x == some .local
def jYh (c : Sx) (is : List Nat) (ns es : List Expr) : Bool := match is, ns, es with
 | [i, j], [.Name x _, .Name y _], [_, _] => decide (swS c ns es = some (some [x, y])) && decide (i ≠ j) && jHw c i x && jHw c j y
 | [i, j, l], [.Name x _, .Name y _, .Name z _], [_, _, _] => decide (swS c ns es = some (some [x, y, z])) && decide (i ≠ j) && decide (i ≠ l) && decide (j ≠ l) && jHw c i x && jHw c j y && jHw c l z
 | _, _, _ => false
abbrev CkT := Sx → Stmt → Bool
abbrev CkTs := Sx → List Stmt → Bool
def jWw : Ex → Bool
 | .lc _ _ _ _ _ => true
 | .lc2 _ _ _ _ _ _ _ _ => true
 | .dc _ _ _ _ _ _ => true
 | .toldC _ _ _ _ _ _ _ _ _ _ => false
 | _ => false
def kSw (c : Sx) (x : Ex) (y : Str) (py : Pos) : Expr → Bool
 | .ListComp _ _ scope lp => c.sc.kind == .function && (!lcSw c y py scope lp || jWw x)
 | .DictComp _ _ _ scope lp => c.sc.kind == .function && (!lcSw c y py scope lp || jWw x)
 | e => jEp e
def kSet (c : Sx) (i : Nat) (x : Ex) (r : Ck) : Stmt → Bool
 | .Assign [.Name y py] e _ => tgB c i y && r c e && kSw c x y py e
 | _ => false
def kPar (c : Sx) (is : List Nat) (rs : CkL) : Stmt → Bool
 | .Assign [.Tuple ns _ _] (.Tuple es _ _) _ => c.sc.kind == .function && tgsB c is ns && es.all noStar && rs c es && decide (is.length ≤ 8) && (decide (swS c ns es = some none) || jYh c is ns es)
 | _ => false
def kExp (c : Sx) (r : Ck) : Stmt → Bool
 | .Expr e _ => jEp e && r c e
 | _ => false
def jXt : Ex → Bool
 | .con .non => true
 | _ => false
def kRet (c : Sx) (x : Ex) (r : Ck) : Stmt → Bool
 | .Return (some e) _ => r c e
 | .Return none _ => jXt x
 | _ => false
def kIf (c : Sx) (r : Ck) (ra rb : CkTs) : Stmt → Bool
 | .If t a b _ => r c t && ra c a && rb c b
 | _ => false
def kFor (c : Sx) (tg : Tg) (rs : CkR) (rb : CkTs) : Stmt → Bool
 | .For t iter body [] _ => tgtB c tg t && rs c t iter && rb c body
 | _ => false
def kWhl (c : Sx) (x : Ex) (r : Ck) (rb : CkTs) : Stmt → Bool
 | .While t body [] _ => r c t && rb c body
 | _ => false
def jIx (G : Gs) (c : Sx) (k : Str) (ns : List Str) (rl : CkL) : Stmt → Bool
 | .Raise (some (.Call (.Name x _) as [] _)) none _ => x == k && glB c x && !(x == ("__debug__" : Str)) && as.all noStar && decide (as.length = ns.length) && (G.exs.any fun p => p.1 == x && decide (p.2 = ns)) && rl c as
 | _ => false
def kTry (G : Gs) (c : Sx) (hs : List Hd) (rb : CkTs) : Stmt → Bool
 | .Try body (h0 :: hds) [] [] _ => rb c body && clsB G c (h0 :: hds) hs && G.trs.any fun p => decide (p.1 = (h0 :: hds).map ceH) && jId p.2 hs
 | _ => false
def kHx (c : Sx) : Ex → Expr → Bool
 | .var i, e => kVar c i e
 | .nt (.var i), .UnaryOp .Not a _ => kVar c i a
 | _, _ => false
def kHr (c : Sx) : Ss → Expr → Bool
 | .cons (.ret h) .nil, e => kHx c h e
 | _, _ => false
def jWa (G : Gs) (c : Sx) (i : Nat) (re : Ck) (rb : CkTs) (cs : List Str) (h : Ss) : Stmt → Bool
 | .Try (.Assign [.Name y _] e _ :: body) [.ExceptHandler (some (.Name x _)) none [.Return (some he) _] _] [] [] _ => tgB c i y && re c e && jEp e && rb c body && kHr c h he && glD c x && G.xcs.contains x && G.trs.any fun p => decide (p.1 = [[x]]) && jId p.2 [⟨cs, .con .non⟩]
 | _ => false
def kFl (c : Sx) (i : Nat) (f : Str) : Exs → Expr → Bool
 | .cons (.var j) .nil, .Attribute (.Name y _) g _ => g == f && decide (j = i) && varB c i y
 | _, _ => false
def isRp : Bi → Bool
 | .repr => true
 | _ => false
mutual
def xE (G : Gs) (i : Nat) : Ex → Ck
 | .var j => fun c e => kVar c j e
 | .con t => fun _ e => conH t e
 | .cmp op a b => fun c e => kCmp c op (xE G i a) (xE G i b) e
 | .and a b => fun c e => kAnd c (xE G i a) (xE G i b) e
 | .ite t a b => fun c e => kIte c (xE G i t) (xE G i a) (xE G i b) e
 | .bi b es => fun c e => isRp b && kBi G c b (xS G i es) e
 | .call f es => fun c e => kFl c i f es e
 | _ => fun _ _ => false
def xS (G : Gs) (i : Nat) : Exs → CkL
 | .nil => fun _ es => kNil es
 | .cons x xs => fun c es => jNh c (xE G i x) (xS G i xs) es
end
def kPas : Stmt → Bool
 | .Pass _ => true
 | _ => false
def j1y : List Stmt → Bool
 | [] => true
 | _ => false
def jSe (c : Sx) (r : CkT) (rs : CkTs) : List Stmt → Bool
 | s :: ss => r c s && rs c ss
 | _ => false
def jNr (G : Gs) (rs : CkTs) : SI.St → Option CkTs
 | _ => none
def jWj (c : Sx) (a : Option CkTs) (r : CkT) (rs : CkTs) (ss : List Stmt) : Bool := match a with
 | some q => q c ss
 | none => jSe c r rs ss
def rpX (i : Nat) (f : Str) : Ex := .bi .repr (.cons (.call f (.cons (.var i) .nil)) .nil)
def kRzc (G : Gs) (c : Sx) (i : Nat) (cl : Str) (ns : List Str) (j : Nat) (f : Str) (rl : CkL) : Stmt → Bool
 | .Try [rst] [.ExceptHandler (some (.Name x _)) (some y) [.Expr (.Call (.Attribute (.Name z _) m apos) [e] [] cpos) _] _] [] [] _ =>
  jIx G c cl ns rl rst && (nmB c (some y) && (decide (c.N.idxOf y = i) && (glD c x && (G.xcs.contains x && (m == "append" && (varB c j z && (noStar e && (apos.endLine == cpos.line && (decide (i ≠ j) && (xE G i (rpX i f) c e &&
   G.trs.any fun p => match p.1, p.2 with
    | [[w]], [⟨cs, .lst is⟩] => w == x && (cs.contains cl && jO7 f ([[w]], [⟨cs, .lst is⟩]))
    | _, _ => false))))))))))
 | _ => false
mutual
def es (G : Gs) : SI.St → CkT
 | .set i x => fun c s => kSet c i x (er G x) s
 | .par is xs => fun c s => kPar c is (erS G xs) s
 | .unp is x => fun _ _ => false
 | .dvm h k j a b => fun _ _ => false
 | .setIx i k x => fun _ _ => false
 | .setAt k f x => fun _ _ => false
 | .aug i op x => fun _ _ => false
 | .setIf i t x => fun _ _ => false
 | .setOwn k o i x => fun _ _ => false
 | .setIxs i ks xs => fun _ _ => false
 | .app i x => fun _ _ => false
 | .ext i x => fun _ _ => false
 | .ins i k x => fun _ _ => false
 | .rem i x => fun _ _ => false
 | .pop i j => fun _ _ => false
 | .appPop i j x => fun _ _ => false
 | .exp x => fun c s => kExp c (er G x) s
 | .ret x => fun c s => kRet c x (er G x) s
 | .ite x a b => fun c s => kIf c (er G x) (ess G a) (ess G b) s
 | .for_ tg src b => fun c s => kFor c tg (erR G src) (ess G b) s
 | .whl x b => fun c s => kWhl c x (er G x) (ess G b) s
 | .raise k ns xs => fun _ _ => false
 | .try_ b hs => fun c s => kTry G c hs (ess G b) s
 | .tryA i e b cs h => fun c s => jWa G c i (er G e) (ess G b) cs h s
 | .tryX i b cs h => fun _ _ => false
 | .acts _ _ _ _ _ _ => fun _ _ => false
 | .rzc i cl ns xs j f => fun c s => kRzc G c i cl ns j f (erS G xs) s
 | .pas => fun _ s => kPas s
 | .brk => fun _ _ => false
 | .cnt => fun _ _ => false
 | .dead => fun _ _ => true
def ess (G : Gs) : Ss → CkTs
 | .nil => fun _ ss => j1y ss
 | .cons s r => fun c ss => jWj c (jNr G (ess G r) s) (es G s) (ess G r) ss
end
def OutX (K : PySem.W.Frag) (rx : RX) (W : WX) (F : Hp) (σ : L2.St) (E : Env) (r : Res RS) (S : Hp) (as : List Addr) (D : Ends) : Prop :=
 match r with
 | .ok o C' => OutS K rx W F (.ok o C') S as D
 | .exc x C' => ∀ cls d S' as' H', Le S S' → as <+: as' → Sim K F S' as' σ H' E C' → rx K S' as' cls d x H' → W cls d σ H'
 | .stuck _ => False
section
variable {K : PySem.W.Frag} {rx : RX} {W : WX} {F S S' : Hp} {as as' : List Addr} {σ σ' : L2.St} {H H' : Hp} {E E' : Env} {C C' : jAa} {D : Ends}
theorem OutX.mono {r : Res RS} (h : OutX K rx W F σ E r S as D) (l : Le S S') (p : as <+: as') : OutX K rx W F σ E r S' as' D := by
 cases r with
 | ok o C' => exact OutS.mono (r := .ok o C') h l p
 | exc x C' => exact fun cls d S2 as2 H2 l2 p2 => h cls d S2 as2 H2 (l.trans l2) (p.trans p2)
 | stuck w => exact h
theorem OutX.bind {α β : Type} {ma : M α} {f : α → M RS} {Ra : Hp → List Addr → Hp → β → α → Prop} {Q1 : β → Hp → Prop} (out : OutX K rx W F σ E (M.bind ma f C) S as D)
  (k : ∀ v t S' as' H' C', ma C = .ok t C' → Le S S' → as <+: as' → Sim K F S' as' σ H' E C' → Ra S' as' H' v t → OutX K rx W F σ E (f t C') S' as' D → Q1 v H') : Out K rx W F σ E (ma C) Ra S as Q1 := by
 unfold M.bind at out
 cases e : ma C with
 | ok t C' =>
  rw [e] at out
  exact fun v S2 as2 H2 l2 p2 sim r => k v t S2 as2 H2 C' e l2 p2 sim r (OutX.mono out l2 p2)
 | exc x C' => rw [e] at out; exact out
 | stuck w => rw [e] at out; exact out
theorem OutX.needB {w : String} {b : Bool} {f : Unit → M RS} (h : OutX K rx W F σ E (M.bind (SI.need w b) f C) S as D) : b = true ∧ OutX K rx W F σ E (f () C) S as D := by
 cases b with
 | false => exact False.elim h
 | true => exact ⟨rfl, h⟩
end
section
variable {X : Cx} {c : Sx} {CX : CXT} {k : Nat} {rx : RX} {Φ : Calls} {G : Gs} {W : WX} {st : Stmt} {x y z : Ex} {ra rb rd : Ck} {rl : CkL} {n : Nat} {i : Nat} {xs : Exs}
theorem XOk.tr (o : XOk X c CX k rx Φ G) (pn : List (Addr × Obj)) (xe : Value → Shared → Prop) : XOk (X.tr pn xe) c CX k rx Φ G := ⟨o.N, o.sc, o.fn, o.calm, o.nd, o.room, o.gd, o.g, fun z => ⟨(o.lam z).room, (o.lam z).ex⟩, o.r4⟩
end
structure DefI where
 key : FK
 name : Str
 qual : Str
 params : Arguments
 body : List Stmt
 scope : Scope
 N : List Str
 ps : List Str
 dT : List T
 fd : FDef
 lam : Bool := false
 hds : List Hd := []
 
 cel : Bool := false
abbrev DefI.sx (d : DefI) : Sx := ⟨d.N, d.scope, none, false⟩
def CalI.toD (p : CalI) : DefI := ⟨("%", p.name), p.name, p.name, p.params, p.body, p.scope, p.N, p.ps, [], ⟨p.ps.length, p.N.length, .nil⟩, true, [], false⟩
def eqDs : List T → List T → Bool
 | [], [] => true
 | a :: as, b :: bs => dfB.eqD a b && eqDs as bs
 | _, _ => false
def DefI.shp (d : DefI) : Bool :=
 d.params.posonlyargs.isEmpty && decide (d.params.args.map (·.arg) = d.ps) && d.params.kwonlyargs.isEmpty && d.params.vararg.isNone && d.params.kwarg.isNone &&
 d.scope.kind == .function && !d.scope.isCoroutine && !d.scope.isGenerator && decide d.N.Nodup && decide (d.N.take d.ps.length = d.ps) && d.ps.all (fun x => d.scope.names.lookup x == some .local || d.scope.names.lookup x == some .cell) && d.scope.names.all (fun y => y.2 != .free) &&
 decide (d.fd.ps = d.ps.length) && decide (d.fd.n = d.N.length) && decide (d.dT.length ≤ d.ps.length)
def DefI.ok (G : Gs) (d : DefI) : Bool := d.shp && ess G d.fd.body ⟨d.N, d.scope, none, d.lam⟩ d.body
def CalI.okB (p : CalI) : Bool := p.toD.shp && plOk p.ps p.ps.length [] 0 (idPl p.ps.length) && match jR5 p.body with
 | some (y, _, ls) => p.N[p.N.idxOf y]? == some y && decide (p.ps.length ≤ p.N.idxOf y) && p.scope.names.lookup y == some .local && !(y == ("__debug__" : Str)) && !(y == ("__classdict__" : Str)) && decide (ls.length < 1000) && ls.all fun l => l.ap.endLine == l.cp.line
 | none => false
section
variable {P : Program} {w : World} {K : PySem.W.Frag} {mg : Str → Option Value} {base : Heap} {k : Nat} {rx : RX} {Φ : Calls} {G : Gs} {d : DefI} {f : Addr} {sp : Sp}
theorem Sim.drop {F S : Hp} {as : List Addr} {σ : L2.St} {H : Hp} {E : Env} {C : jAa} (s : Sim K F S as σ H E C) : Sim K F S as [] H [] C :=
 ⟨s.sub', s.nof, s.frm, fun i t e => by simp at e, fun i t e => by simp at e, fun i j t t' a e => by simp at e, s.cl, s.ce, s.nd, waK _, fun a q w e => ⟨(s.pn a q w e).1, fun i t e => by simp at e⟩, s.tb⟩
end
abbrev Lf := Sx → Str → Nat → Expr → Bool
def hLf (L : Lf) (f : Str) : Exs → Ck
 | .cons (.var i) .nil => fun c e => L c f i e
 | _ => fun _ _ => false
def hcon (t : T) : Expr → Bool
 | .Constant (.int i) _ _ => eqC t (.int i)
 | .Constant (.bool b) _ _ => eqC t (.bl b)
 | .Constant .none _ _ => eqC t .non
 | .Constant (.str x) _ _ => eqC t (.str x) && decide (x.length ≤ sizeLine) && PyData.strOk x
 | _ => false
mutual
def hE (L : Lf) : Ex → Ck
 | .var i => fun c e => kVar c i e
 | .con t => fun _ e => hcon t e
 | .bin op a b => fun c e => kBin c op (hE L a) (hE L b) e
 | .cmp op a b => fun c e => kCmp c op (hE L a) (hE L b) e
 | .chain op op2 a b d => fun c e => jFj c op op2 (hE L a) (hE L b) (hE L d) e
 | .and a b => fun c e => kAnd c (hE L a) (hE L b) e
 | .ite t a b => fun c e => kIte c (hE L t) (hE L a) (hE L b) e
 | .idx a b => fun c e => kIdx c (hE L a) (hE L b) e
 | .lst es => fun c e => kLst c (hL L es) e
 | .bm b o es => fun c e => kBm c b (hE L o) (hS L es) e
 | .call f es => fun c e => hLf L f es c e
 | _ => fun _ _ => false
def hS (L : Lf) : Exs → CkL
 | .nil => fun _ es => kNil es
 | .cons x xs => fun c es => jNh c (hE L x) (hS L xs) es
def hL (L : Lf) : Els → CkL
 | .nil => fun _ es => kNil es
 | .one x xs => fun c es => kOne c (hE L x) (hL L xs) es
 | .star _ _ => fun _ _ => false
end
def hSet (c : Sx) (i : Nat) (r : Ck) : Stmt → Bool
 | .Assign [.Name y _] e _ => tgB c i y && r c e && jEp e
 | _ => false
mutual
def hT (L : Lf) : SI.St → CkT
 | .set i x => fun c st => hSet c i (hE L x) st
 | .ite t a b => fun c st => kIf c (hE L t) (hTs L a) (hTs L b) st
 | .ret x => fun c st => kRet c x (hE L x) st
 | _ => fun _ _ => false
def hTs (L : Lf) : Ss → CkTs
 | .nil => fun _ ss => j1y ss
 | .cons s r => fun c ss => jSe c (hT L s) (hTs L r) ss
end
end SI
namespace SI
open PySem
def srtT : List (Str × Str × Option Str) := [("InvalidText", "text", some "given"), ("InvalidStep", "rung", some "given"), ("InvalidMove", "moved", some "given"), ("InvalidName", "label", some "given"), ("InvalidWish", "wish", some "given"),
 ("InvalidClaim", "claim", some "given"), ("InvalidPlace", "spot", some "given"), ("InvalidWord", "sign", some "given"), ("NotAnOrder", "no order", some "given"), ("NotHints", "no hints", some "given"), ("InvalidPlaces", "places", some "index"),
 ("InvalidSteps", "rungs", some "index"), ("InvalidLot", "heap", some "index"), ("InvalidRow", "takings", some "given"), ("InvalidHints", "hints", some "given"), ("InvalidWishes", "wishes", some "given"), ("InvalidChanges", "changes", some "given"),
 ("UnknownPlace", "unknown", some "given"), ("UnknownName", "title", some "given"), ("InUse", "use", none), ("Moving", "moving", some "found"), ("Impossible", "none", none), ("Shared", "shared", some "given"), ("TooMany", "many", some "most"),
 ("NothingToUndo", "undo", none), ("Broken", "broken", none)]
def j5w (p : Str × Str × Option Str) : Hd := ⟨[p.1], .lst [.con (.str p.2.1), match p.2.2 with | some f => .fld f | none => .con .non]⟩
def jL5 : List Hd := srtT.map j5w
def srtB (c : Str) : Nat := if (srtT.take 17).any (fun p => p.1 == c) then 0 else if ((srtT.drop 17).take 3).any (fun p => p.1 == c) then 1 else if (srtT.drop 20).any (fun p => p.1 == c) then 2 else 3
def subX (c C : Str) : Option Bool := if srtT.any (fun p => p.1 == C) then some (c == C) else if C == "NotRight" || C == "ValueError" then some (srtB c == 0) else if C == "NotThere" || C == "LookupError" then some (srtB c == 1)
 else if C == "CannotBe" || C == "ArithmeticError" then some (srtB c == 2) else none
def isx (i : Nat) (C : Str) : Ex := .call C (.cons (.var i) .nil)
def lsB : List Ex → Els
 | [] => .nil
 | e :: r => .one e (lsB r)
def strX (l : List Str) : Ex := .lst (lsB (l.map fun x => .con (.str x)))
def own3 (i : Nat) (l : List Str) : Ex := .lst (lsB (l.map (isx 0)))
def jSn : Ss :=
 (.cons (.set 1 (own3 0 ["InvalidText", "InvalidStep", "InvalidMove"]))
 (.cons (.set 1 (.bin .Add (.var 1) (own3 0 ["InvalidName", "InvalidWish", "InvalidClaim"])))
 (.cons (.set 1 (.bin .Add (.var 1) (own3 0 ["InvalidPlace", "InvalidWord", "NotAnOrder"])))
 (.cons (.set 1 (.bin .Add (.var 1) (own3 0 ["NotHints", "InvalidPlaces", "InvalidSteps"])))
 (.cons (.set 1 (.bin .Add (.var 1) (own3 0 ["InvalidLot", "InvalidRow", "InvalidHints"])))
 (.cons (.set 1 (.bin .Add (.var 1) (own3 0 ["InvalidWishes", "InvalidChanges", "UnknownPlace"])))
 (.cons (.set 1 (.bin .Add (.var 1) (own3 0 ["UnknownName", "InUse", "Moving"])))
 (.cons (.set 1 (.bin .Add (.var 1) (own3 0 ["Impossible", "Shared", "TooMany"])))
 (.cons (.set 1 (.bin .Add (.var 1) (own3 0 ["NothingToUndo", "Broken"])))
 (.cons (.set 2 (strX ["text", "rung", "moved", "label", "wish", "claim", "spot", "sign", "no order", "no hints", "places"]))
 (.cons (.set 2 (.bin .Add (.var 2) (strX ["rungs", "heap", "takings", "hints", "wishes", "changes", "unknown", "title", "use", "moving"])))
 (.cons (.set 2 (.bin .Add (.var 2) (strX ["none", "shared", "many", "undo", "broken"])))
 (.cons (.set 3 (own3 0 ["NotRight", "NotThere", "CannotBe"]))
 (.cons (.set 4 (own3 0 ["ValueError", "LookupError", "ArithmeticError"]))
 (.cons (.set 5 (.ite (.cmp .Eq (.bm .count (.var 1) (.cons (.con (.bl true)) .nil)) (.con (.int 1))) (.bm .index (.var 1) (.cons (.con (.bl true)) .nil)) (.con (.int 99))))
 (.cons (.ret (.ite (.and (.cmp .Lt (.var 5) (.con (.int 26))) (.chain .Eq .Eq (.var 3) (.var 4) (.lst (.one (.cmp .Lt (.var 5) (.con (.int 17))) (.one (.chain .Lt .Lt (.con (.int 16)) (.var 5) (.con (.int 20))) (.one (.cmp .Gt (.var 5) (.con (.int 19))) .nil))))))
   (.idx (.var 2) (.var 5)) (.con (.str ""))))
 .nil))))))))))))))))
def suSs : Ss :=
 (.cons (.set 3 (.call "_law_sort" (.cons (.var 2) .nil)))
 (.cons (.ite (.cmp .In (.var 3) (strX ["places", "rungs", "heap"])) (.cons (.ret (.lst (.one (.var 3) (.one (isx 2 "index") .nil)))) .nil) .nil)
 (.cons (.ite (.cmp .In (.var 3) (strX ["moving", "many"])) (.cons (.ret (.lst (.one (.var 3) (.one (.ite (.cmp .Eq (.var 3) (.con (.str "moving"))) (isx 2 "found") (isx 2 "most")) .nil)))) .nil) .nil)
 (.cons (.ret (.lst (.one (.var 3) (.one (.ite (.cmp .NotIn (.var 3) (strX ["none", "undo", "use", "broken", ""])) (isx 2 "given") (.con .non)) .nil))))
 .nil))))
end SI
namespace SI
open PySem PySem.Spec PyProof.Rows L2
def bltC : List Str := ["ValueError", "LookupError", "ArithmeticError"]
def lfI (G : Gs) : Lf := fun c f i e => match e with
 | .Call (.Name g _) [.Name y _, .Name z _] [] _ => g == "isinstance" && bltB G c g && varB c i y && z == f && !(z == ("__debug__" : Str)) && glB c z && (if bltC.contains z then G.blt.contains z else G.xcs.contains z) && (subX "" f).isSome
 | _ => false
def fldN (f : Str) : Bool := f == "given" || f == "index" || f == "most" || f == "found"
def lfS : Lf := fun c f i e => match e with
 | .Attribute (.Name y _) g _ => g == f && varB c i y && fldN f
 | .Call (.Name g _) [.Name y _] [] _ => g == f && f == "_law_sort" && glB c g && varB c i y
 | _ => false
def clsU (K : PySem.W.Frag) (z : Str) : Value := if z == "ValueError" then .type "ValueError" else if z == "LookupError" then .type "LookupError" else if z == "ArithmeticError" then .type "ArithmeticError" else .ref (ca K z)
def jVw (G : Gs) (d : DefI) (hds : List ExceptHandler) : Bool := match hds with
 | [.ExceptHandler (some ce) (some y) (b :: sts) _] => !(ceN ce).isEmpty && (ceN ce).all (fun x => glD d.sx x && G.xcs.contains x) && nmB d.sx (some y) && decide (d.N.idxOf y = 2) && decide (d.N.length = 4) && hTs lfS suSs ⟨d.N, d.scope, none, false⟩ (b :: sts) && jId d.hds jL5 && G.srt.contains "_law_sort"
 | _ => false
def zAg : List Str := srtT.map (·.1) ++ (["NotRight", "ValueError", "NotThere", "LookupError", "CannotBe", "ArithmeticError"] : List Str)
def exiB (K : PySem.W.Frag) (C : Addr) : Bool := (PySem.W.clsIn K C).isSome && (decide (PySem.W.findIn K (.ref C) "__class__" = some (some (.builtin "object.__class__"))) && decide (PySem.W.mroIn K C (.type "object") = some true))
def srtQ (K : PySem.W.Frag) (c : Str) : Bool := srtT.any (fun p => p.1 == c) && (xfB K (ca K c) && (exiB K (ca K c) && ((["given", "index", "most", "found"] : List Str).all (fun f => decide (PySem.W.findIn K (.ref (ca K c)) f = some none)) &&
 zAg.all fun z => decide (PySem.W.kitOne K (.ref (ca K c)) (clsU K z) = some ((subX c z).getD false)))))
def srtF (K : PySem.W.Frag) (G : Gs) (hds : List ExceptHandler) : Bool := match hds with
 | .ExceptHandler (some ce) _ _ _ :: _ => (G.exs.all fun q => srtQ K q.1 && decide (PySem.W.exmAny K (.ref (ca K q.1)) ((ceN ce).map fun x => .ref (ca K x)) = some (jL5.any fun h => h.cs.contains q.1))) &&
  (decide (PySem.W.specialIn K (.builtin "object.__class__") "__get__" = some (some (.builtin "getset_descriptor.__get__"))) && decide (PySem.W.takesIn K (.builtin "object.__class__") = some true))
 | _ => false
def jBg (k : FK) : List DefI → Option DefI
 | [] => none
 | d :: r => if d.key = k then some d else jBg k r
def jAx (D : List DefI) : Prog := ⟨D.map fun d => (d.key, d.fd), (D.filter (·.cel)).map (·.key.1), []⟩
def jOw : Ss → Bool
 | .cons (.ret (.var 1)) .nil => true
 | _ => false
def jIl : Ss → Bool
 | .cons (.ret (.lst (.one (.var 1) .nil))) .nil => true
 | _ => false
def jH8 (z : Str) : Ss → Bool
 | .cons (.ret (.lst (.one (.con (.str y)) (.one (.own1 c m (.var 1)) .nil)))) .nil => decide (y = z) && decide (m = "__str__")
 | _ => false
def retC : Ss → Str
 | .cons (.ret (.lst (.one _ (.one (.own1 c _ _) .nil)))) .nil => c
 | _ => Str.empty
def Tf.okB (G : Gs) (d : DefI) (rest : List Stmt) : Tf → Bool
 | .asg v _ _ => d.N[1]? == some v && locB d.scope v && decide (d.fd.ps = 2) && ess G d.fd.body ⟨d.N, d.scope, none, false⟩ rest
 | .exp _ => decide (d.fd.ps = 1) && ess G d.fd.body ⟨d.N, d.scope, none, false⟩ rest
 | .ret _ => decide (d.fd.ps = 2) && jOw d.fd.body && rest.isEmpty
 | .retL _ _ => decide (d.fd.ps = 2) && jIl d.fd.body && rest.isEmpty
 | .retS z _ _ _ _ _ _ => decide (d.fd.ps = 2) && jH8 z d.fd.body && rest.isEmpty && bltB G ⟨d.N, d.scope, none, false⟩ "str" && decide (z.length ≤ sizeLine) && PyData.strOk z && G.mts.any fun p => p.1 == retC d.fd.body && p.2.1 == ("__str__" : Str) && decide (p.2.2.length = 1)
def DefI.okT (_ : Gs) (_ : DefI) : Bool := false
def DefI.hdF (K : PySem.W.Frag) (G : Gs) (d : DefI) : Bool := match d.body with
 | .Try _ hds _ _ _ :: _ => if jVw G d hds then srtF K G hds else clsF K G hds d.hds
 | _ => false
def DefI.srt (G : Gs) (d : DefI) : Bool := match d.body with
 | .Try _ hds _ _ _ :: _ => jVw G d hds
 | _ => false
def DefI.okS (G : Gs) (d : DefI) : Bool := d.shp && (decide (d.ps.length = 1) && (d.dT.isEmpty && (decide (d.name = d.qual) && (decide (d.N.length = 6) && hTs (lfI G) jSn ⟨d.N, d.scope, none, false⟩ d.body))))
def DefI.repB (d : DefI) : Bool := d.shp && (d.dT.isEmpty && (decide (d.name = "__repr__") && match d.body, d.ps with
 | [.Return (some (.JoinedStr [.Constant (.str c1) _ _, .FormattedValue (.Call (.Name l1 _) [.Attribute (.Name y1 _) f1 _] [] _) v1 none _, .Constant (.str c2) _ _, .FormattedValue (.Call (.Name l2 _) [.Attribute (.Name y2 _) f2 _] [] _) v2 none _, .Constant (.str c3) _ _] _)) _], [a] =>
  ((c1 == ("Order of " : Str) && c2 == (" places and " : Str)) && (c3 == (" steps" : Str) && (f1 == ("spot_row" : Str) && f2 == ("rung_row" : Str)))) && ((l1 == ("len" : Str) && l2 == ("len" : Str)) && ((y1 == a && y2 == a) && (decide (v1 = -1) && decide (v2 = -1)))) && (decide (d.scope.names.lookup a = some .local) && !(a == ("__debug__" : Str)) && decide (d.scope.names.lookup ("len" : Str) = some .globalImplicit))
 | _, _ => false))
section
variable {P : Program} {w : World} {K : PySem.W.Frag} {mg : Str → Option Value} {base : Heap} {rx : RX} {D : List DefI} {G : Gs}
def DefI.keyB (d : DefI) : Bool := d.shp && (d.dT.isEmpty && (decide (d.name = d.qual) && match d.body, d.ps with
 | [.Return (some (.Tuple [.Call (.Name ln _) [.Name y _] [] _, .Name y2 _] _ _)) _], [a] => ln == ("len" : Str) && y == a && y2 == a && decide (d.scope.names.lookup a = some .local) && !(a == ("__debug__" : Str)) && decide (d.scope.names.lookup ("len" : Str) = some .globalImplicit)
 | _, _ => false))
theorem Tld.mono {L : List (Str × List Str)} {x : Str} {g : Addr} {hs : List Hd} {m : T → M T} {j k : Nat} (h : Tld P w K mg base j rx L x g hs m) (hj : j ≤ k) : Tld P w K mg base k rx L x g hs m := by
 obtain ⟨pg, sg, dV, kV, doc, pm, cdv, ct, oc, an, od, osl, Ng, a, tf, rest, p1, p2, p5, h0, hds, l, e1, e2, e3, e4, e5, e6, e7, e8, e9, e10, run⟩ := h.ex
 exact ⟨⟨pg, sg, dV, kV, doc, pm, cdv, ct, oc, an, od, osl, Ng, a, tf, rest, p1, p2, p5, h0, hds, l, e1, e2, e3, e4, e5, e6, e7, e8, e9, e10, fun A fr s H hr hg => run A fr s H (hr.mono hj) hg⟩, h.kp⟩
end
inductive XB where
 | ve | le | ae
def XB.B : XB → String
 | .ve => "ValueError" | .le => "LookupError" | .ae => "ArithmeticError"
def XB.nw : XB → String
 | .ve => "ValueError.__new__" | .le => "LookupError.__new__" | .ae => "ArithmeticError.__new__"
def XB.it : XB → String
 | .ve => "ValueError.__init__" | .le => "LookupError.__init__" | .ae => "ArithmeticError.__init__"
def XB.bm (b : XB) : List Value := [.type b.B, .type "Exception", .type "BaseException", .type "object"]
theorem XB.KF : ∀ b : XB, PySem.W.KxsFacts b.B b.it
 | .ve => PySem.W.kxs_ValueError
 | .le => PySem.W.kxs_LookupError
 | .ae => PySem.W.kxs_ArithmeticError
theorem XB.FB : ∀ b : XB, ExcBaseFacts b.B b.nw b.it b.bm
 | .ve => F.excBase_ValueError
 | .le => F.excBase_LookupError
 | .ae => F.excBase_ArithmeticError
theorem XB.SF : ∀ b : XB, StoreFacts b.B b.bm "object.__setattr__" "object"
 | .ve => F.store_ValueError
 | .le => F.store_LookupError
 | .ae => F.store_ArithmeticError
def jRn (K : PySem.W.Frag) (fl : Str) (c : Addr) : Bool := match (K.lookup c : Option Obj) with
 | some ⟨_, _, .fields vs, _⟩ => (match (vs[2]? : Option Value) with
  | some (.str f _) => (fl : Str) == f
  | _ => false)
 | _ => false
def j1v (K : PySem.W.Frag) (C c : Addr) : Bool := match K.lookup c with
 | some ⟨_, _, .cell (some (.ref C')), _⟩ => decide (C' = C)
 | _ => false
def jOh : Value → Bool
 | .none => true
 | _ => false
def j16 (K : PySem.W.Frag) (fl : Str) (C : Addr) (fs : List Str) (fd : FuncData) : Bool := match fd.body, fd.closure, fd.code, fd.params.args with
 | .stmts (.Expr (.Call (.Attribute (.Call (.Name s0 _) [] [] _) i0 p2) [] [] p3) _ :: rest), [(cn, cc)], .ref cda, ar :: args =>
  decide (s0 = ("super" : Str)) && (decide (i0 = ("__init__" : Str)) && (decide (cn = ("__class__" : Str)) && ((p2.endLine == p3.line) && (decide (ar.arg = ("self" : Str)) && (sets (fs.zip (args.map (·.arg))) rest && (decide (fs = args.map (·.arg)) &&
   (PySem.W.codeIn K (.ref cda) fd.qualname && (jRn K fl cda && (j1v K C cc && (decide ((("self" : Str) :: args.map (·.arg)).Nodup) && ((args.map (·.arg)).all fun a => fd.scope.names.lookup a == some .local && !(a == ("__debug__" : Str)))))))))))))
 | _, _, _, _ => false
def xfnB (fd : FuncData) : Bool := fd.params.posonlyargs.isEmpty && (fd.params.kwonlyargs.isEmpty && (fd.params.vararg.isNone && (fd.params.kwarg.isNone && (jOh fd.defaults && (decide (fd.globals = mainGlobals) && (decide (fd.builtins = builtinsNs) &&
 (fd.scope.names.lookup ("super" : Str) == some .globalImplicit && (fd.scope.names.lookup ("__class__" : Str) == some .free && (fd.scope.names.lookup ("self" : Str) == some .local && (decide (fd.scope.kind = .function) && (!fd.scope.isCoroutine && (!fd.scope.isGenerator && (fd.scope.names.all (fun x => x.2 != .cell) &&
 plOk (fd.params.args.map (·.arg)) (fd.params.args.map (·.arg)).length [] 0 (idPl (fd.params.args.map (·.arg)).length))))))))))))))
def xcB (K : PySem.W.Frag) (C : Addr) (b : XB) : Bool := decide (PySem.W.subIn K (.ref C) (.type "BaseException") = some true) && (decide (PySem.W.typeIn K (.ref C) = some (.type "type")) && PySem.W.keepIn K (.ref C))
def xinB (K : PySem.W.Frag) (fl : Str) (C : Addr) (fs : List Str) (b : XB) : Bool := (match PySem.W.findIn K (.ref C) "__init__" with
  | some (some (.ref fI)) => (match K.lookup fI with
   | some ⟨_, _, .func fd, _⟩ => j16 K fl C fs fd && xfnB fd
   | _ => false) && decide (PySem.W.typeIn K (.ref fI) = some (.type "function"))
  | _ => false) && (fs.all (fun f => decide (PySem.W.takerIn K C f = some none)) && (decide (fs.length ≤ 100) && (!fs.isEmpty && (PySem.W.excInitIn K C b.bm b.nw && (PySem.W.excOver K C b.bm && (PySem.W.hasDictIn K C &&
 (decide (PySem.W.findIn K (.ref C) "__setattr__" = some (some (.builtin "object.__setattr__"))) && (decide (PySem.W.nsIn K cStatics "thirdparty.any" = some none) && (decide (PySem.W.ks_superIn K C C "__init__" = some (some (.builtin b.it))) &&
 (decide (PySem.W.subIn K (.ref C) (.type b.B) = some true) && (decide (PySem.W.mroIn K C (.ref C) = some true) && xcB K C b)))))))))))
def xnoB (K : PySem.W.Frag) (C : Addr) (b : XB) : Bool := PySem.W.excIn K C b.bm b.nw && xcB K C b
def jVd (K : PySem.W.Frag) (fl : Str) (C : Addr) (fs : List Str) : Bool := match fs with
 | [] => xnoB K C .ve || (xnoB K C .le || xnoB K C .ae)
 | _ => xinB K fl C fs .ve || (xinB K fl C fs .le || xinB K fl C fs .ae)
mutual
def dvB (K : PySem.W.Frag) : Value → T → Bool
 | u, .non => (match u with | .none => true | _ => false)
 | u, .bl b => (match u with | .bool c => b == c | _ => false)
 | u, .int i => (match u with | .int j _ => decide (i = j) | _ => false)
 | u, .str x => (match u with | .str y _ => decide (x = y) && decide (x.length ≤ sizeLine) && PyData.strOk x | _ => false)
 | u, .tup ts => (match u with
  | .ref a => (match K.lookup a with
   | some ⟨.type c, none, .seq its _, _⟩ => decide (c = "tuple") && decide (its.size ≤ sizeLine) && dvsB K its.toList ts
   | _ => false)
  | _ => false)
 | _, _ => false
def dvsB (K : PySem.W.Frag) : List Value → List T → Bool
 | [], [] => true
 | u :: us, t :: ts => dvB K u t && dvsB K us ts
 | _, _ => false
end
def pq (K : PySem.W.Frag) (C : Addr) (f : Str) : Addr := match PySem.W.findIn K (.ref C) f with
 | some (some (.ref p)) => p
 | _ => 0
def pg (K : PySem.W.Frag) (C : Addr) (f : Str) : Addr := match PySem.W.recIn K (pq K C f) "property" with
 | some (.ref g :: _) => g
 | _ => 0
def cg (K : PySem.W.Frag) (C : Addr) (f : Str) : Addr := match PySem.W.recIn K (pq K C f) "classmethod" with
 | some (.ref g :: _) => g
 | _ => 0
def cmB (K : PySem.W.Frag) (C : Addr) (m : Str) : Bool := PySem.W.readsIn K C (.type "type") && decide (PySem.W.specialIn K (.ref C) "__getattribute__" = some (some (.builtin "type.__getattribute__"))) &&
 (match PySem.W.findCls K (.ref C) (.type "type") m with | some (.get g a .none c) => g == .builtin "classmethod.__get__" && (a == .ref (pq K C m) && c == .ref C) | _ => false) && (match PySem.W.recIn K (pq K C m) "classmethod" with | some (.ref _ :: _) => true | _ => false) && PySem.W.fnIn K (cg K C m)
def jQk : List DictEntry → List (Str × Int) → Bool
 | [], [] => true
 | e :: es, p :: D => (match e.key with | .str x _ => decide (x = p.1) | _ => false) && (match e.val with | .int i _ => decide (i = p.2) | _ => false) && jQk es D
 | _, _ => false
def jTj (K : PySem.W.Frag) (a : Addr) (D : List (Str × Int)) : Bool := (a == sysModules) == false && (match K.lookup a with
 | some ⟨.type c, none, .dict es _, sl⟩ => decide (c = "dict") && sl.isEmpty && jQk es.toList D
 | _ => false)
abbrev FnW : Type := Option (Str × Str × Arguments × FuncBody × Scope × Addr × List (Str × Addr) × Addr)
def fnAt (K : PySem.W.Frag) (f : Addr) : FnW := match K.lookup f with
 | some ⟨_, _, .func fd, _⟩ => some (fd.name, fd.qualname, fd.params, fd.body, fd.scope, fd.globals, fd.closure, fd.builtins)
 | _ => none
def DefI.val (d : DefI) : FnW := some (d.name, d.qual, d.params, .stmts d.body, d.scope, mainGlobals, [], builtinsNs)
def dflT (K : PySem.W.Frag) (dV : Value) : List T → Bool
 | [] => (match dV with | .none => true | _ => false)
 | t :: ts => (match dV with
  | .ref T => (match K.lookup T with
   | some ⟨_, _, .seq its _, _⟩ => dvsB K its.toList (t :: ts)
   | _ => false)
  | _ => false)
def defB (K : PySem.W.Frag) (f : Addr) (d : DefI) : Bool := PySem.W.keepIn K (.ref f) && (match K.lookup f with
 | some ⟨_, _, .func fd, _⟩ => PySem.W.codeIn K fd.code d.qual && dflT K fd.defaults d.dT
 | _ => false)
def optB (D : List DefI) (k : FK) (f : DefI → Bool) : Bool := match jBg k D with
 | some d => f d
 | none => false
def Gs.txt (D : List DefI) (G : Gs) : Bool :=
 (G.fns.all fun p => p.1 != ("" : Str) && optB D ("", p.1) fun d => d.ok G && decide (d.ps = p.2.1) && eqDs d.dT p.2.2 && (!d.lam || (G.lms.contains p.1 && decide (d.qual = p.1)))) &&
 (G.cls.all fun p => p.1 != ("" : Str) && optB D (p.1, "__init__") fun d => d.ok G && decide (d.ps = p.2.1) && eqDs d.dT p.2.2 && decide (0 < d.ps.length) && ((jAx D).cells.contains p.1 == d.cel)) &&
 (G.prp.all fun p => (p.2 != ("" : Str) && (p.1 != ("!" : Str) && p.1 != ("" : Str))) && optB D p fun d => d.ok G && decide (d.ps.length = 1) && plOk d.ps 1 [] d.dT.length (idPl 1)) &&
 (G.mts.all fun p => (p.2.1 != ("" : Str) && (p.1 != ("!" : Str) && p.1 != ("" : Str))) && optB D (p.1, p.2.1) fun d => d.ok G && decide (d.ps = p.2.2) && plOk d.ps d.ps.length [] d.dT.length (idPl d.ps.length)) &&
 (D.all fun d => d.key.1 == ("" : Str) || !d.lam) &&
 (G.tld.all fun p => p.1 != ("" : Str) && optB D ("!", p.1) fun d => d.okT G && decide (d.name = p.1) && jId d.hds p.2) &&
 (G.srt.all fun x => optB D ("?", x) fun d => d.okS G) &&
 (G.cms.all fun p => (p.2.1 != ("" : Str) && (p.1 != ("!" : Str) && p.1 != ("" : Str))) && optB D (p.1, p.2.1) fun d => d.ok G && decide (d.ps = p.2.2) && plOk d.ps d.ps.length [] d.dT.length (idPl d.ps.length)) &&
 (G.kdf.all fun x => (G.fns.any fun p => p.1 == x) && optB D ("", x) fun d => d.keyB) &&
 (!G.rps || ((G.mts.any fun p => p.1 == "Order" && p.2.1 == "__repr__") && optB D ("Order", "__repr__") (fun d => d.repB) && (G.fld.contains ("Order", "spot_row") && G.fld.contains ("Order", "rung_row")) && G.blt.contains "len")) &&
 (G.cal.all fun p => p.okB && G.lms.contains p.name)
def lamB (K : PySem.W.Frag) (f : Addr) (q : Str) : Bool := match K.lookup f with
 | some ⟨_, _, .func fd, _⟩ => (match fd.code with
  | .ref c => (tabs K).any fun p => decide (p.2 = q ++ ".<locals>." ++ "<lambda>") && PySem.W.codeHdIn K c p.1 && p.1 != mainGlobals && (tabs K).all fun r => r.1 != p.1 || decide (r.2 = p.2)
  | _ => false)
 | _ => false
open He in
def Gs.fact (K : PySem.W.Frag) (D : List DefI) (G : Gs) : Bool :=
 (G.blt.all fun x => (Fa.free x).ok K) &&
 (G.cons.all fun p => match PySem.W.nsIn K mainGlobals p.1 with
   | some (some u) => dvB K u p.2
   | _ => false) &&
 (G.fns.all fun p => (Fa.glo p.1).ok K && optB D ("", p.1) fun d => defB K (ga K p.1) d) &&
 (G.cls.all fun p => (Fa.glo p.1).ok K && (Fa.mkr p.1).ok K && optB D (p.1, "__init__") fun d => defB K (ma K (ga K p.1) "__init__") d) &&
 (G.prp.all fun p => (Fa.cls p.1).ok K && eqO (PySem.W.findIn K (.ref (ga K p.1)) p.2) (some (some (.ref (pq K (ga K p.1) p.2)))) && eqO (PySem.W.specialIn K (.ref (pq K (ga K p.1) p.2)) "__get__") (some (some (.builtin "property.__get__"))) &&
   decide (PySem.W.takesIn K (.ref (pq K (ga K p.1) p.2)) = some true) && (match PySem.W.recIn K (pq K (ga K p.1) p.2) "property" with | some (.ref _ :: _) => true | _ => false) && optB D p fun d => defB K (pg K (ga K p.1) p.2) d) &&
 (G.fld.all fun p => (Fa.cls p.1).ok K && (Fa.noat p.1 p.2).ok K) &&
 (G.isc.all fun c => (Fa.cls c).ok K && eqO (PySem.W.findIn K (.ref (ga K c)) "__class__") (some (some (.builtin "object.__class__"))) && decide (PySem.W.mroIn K (ga K c) (.type "object") = some true) &&
   (["str", "int", "bool", "tuple", "list"].all fun n => decide (PySem.W.kitOne K (.ref (ga K c)) (.type n) = some false)) && (G.cls.all fun p => decide (PySem.W.kitOne K (.ref (ga K c)) (.ref (ga K p.1)) = some (c == p.1)))) &&
 (G.cls.all fun p => jH9.all fun n => decide (PySem.W.kitOne K (.type n) (.ref (ga K p.1)) = some false)) &&
 (eqO (PySem.W.specialIn K (.builtin "object.__class__") "__get__") (some (some (.builtin "getset_descriptor.__get__"))) && decide (PySem.W.takesIn K (.builtin "object.__class__") = some true)) &&
 (G.mts.all fun p => (Fa.cls p.1).ok K && (Fa.meth p.1 p.2.1).ok K && decide (PySem.W.typeIn K (.ref (ma K (ga K p.1) p.2.1)) = some (.type "function")) && decide (PySem.W.subIn K (.ref (ga K p.1)) (.type "object") = some true) && (p.2.1 != ("__eq__" : Str) || eqO (PySem.W.findIn K (.ref (ga K p.1)) "__ne__") (some (some (.builtin "object.__ne__")))) && (p.2.1 != ("__len__" : Str) || p.1 != ("Order" : Str) || eqO (PySem.W.findIn K (.ref (ga K p.1)) "__bool__") (some none)) &&
   optB D (p.1, p.2.1) fun d => defB K (ma K (ga K p.1) p.2.1) d) &&
 (G.tld.all fun p => (Fa.glo p.1).ok K && optB D ("!", p.1) fun d => defB K (ga K p.1) d && d.hdF K G) &&
 (G.srt.all fun x => (Fa.glo x).ok K && optB D ("?", x) fun d => defB K (ga K x) d) &&
 (G.lms.all fun x => lamB K (ga K x) x) &&
 (G.cms.all fun p => (Fa.glo p.1).ok K && cmB K (ga K p.1) p.2.1 && optB D (p.1, p.2.1) fun d => defB K (cg K (ga K p.1) p.2.1) d) &&
 (G.dcs.all fun p => match PySem.W.nsIn K mainGlobals p.1 with
   | some (some (.ref a)) => jTj K a p.2
   | _ => false) &&
 ((G.exs.all fun p => (Fa.glo p.1).ok K && jVd K G.xfl (ga K p.1) p.2) && ((G.xcs.all fun x => (Fa.glo x).ok K) && ((G.exs.isEmpty || (Fa.free "super").ok K) && ((G.trs.all fun p => trF K G p.1 p.2) && G.ids.all fun c => (Fa.cls c).ok K && eqO (PySem.W.findIn K (.ref (ga K c)) "__eq__") (some (some (.builtin "object.__eq__"))) && eqO (PySem.W.findIn K (.ref (ga K c)) "__ne__") (some (some (.builtin "object.__ne__"))) && decide (PySem.W.subIn K (.ref (ga K c)) (.type "object") = some true) && PySem.W.noSeq K (ga K c))))) &&
 (G.cal.all fun p => (Fa.glo p.name).ok K && defB K (ga K p.name) p.toD)
def Gs.adrs (K : PySem.W.Frag) (G : Gs) : List FnW := (G.fns.map fun p => fnAt K (He.ga K p.1)) ++ (G.cls.map fun p => fnAt K (He.ma K (He.ga K p.1) "__init__")) ++ (G.prp.map fun p => fnAt K (pg K (He.ga K p.1) p.2)) ++ (G.mts.map fun p => fnAt K (He.ma K (He.ga K p.1) p.2.1)) ++ (G.tld.map fun p => fnAt K (He.ga K p.1)) ++ (G.srt.map fun x => fnAt K (He.ga K x)) ++ (G.cms.map fun p => fnAt K (cg K (He.ga K p.1) p.2.1)) ++ G.cal.map fun p => fnAt K (He.ga K p.name)
def jF9 (D : List DefI) (k : FK) : FnW := match jBg k D with
 | some d => d.val
 | none => none
def Gs.vals (D : List DefI) (G : Gs) : List FnW := (G.fns.map fun p => jF9 D ("", p.1)) ++ (G.cls.map fun p => jF9 D (p.1, "__init__")) ++ (G.prp.map fun p => jF9 D p) ++ (G.mts.map fun p => jF9 D (p.1, p.2.1)) ++ (G.tld.map fun p => jF9 D ("!", p.1)) ++ (G.srt.map fun x => jF9 D ("?", x)) ++ (G.cms.map fun p => jF9 D (p.1, p.2.1)) ++ G.cal.map fun p => p.toD.val
def jFf (o : Obj) : Bool := match o.cls with
 | .type n => n != "list"
 | _ => true
def frN (g : Addr → Option Obj) (as : List Addr) : PySem.W.Frag := (He.frG g as).filter fun q => jFf q.2
theorem jOr {g : Addr → Option Obj} {as : List Addr} {a : Addr} {o : Obj} (h : (frN g as).lookup a = some o) : g a = some o ∧ jFf o = true := by
 obtain ⟨h1, h2⟩ := List.mem_filter.mp (He.lookup_mem h)
 exact ⟨He.frG_mem h1, h2⟩
def lmsT (G : Gs) (K : PySem.W.Frag) : List (Addr × Str) := G.lms.filterMap fun x => (PySem.W.tabIn K x).map fun q => (q.2, x)
def jV0 (p : Addr × Str) : Obj := ⟨.type "TABLE-MARK", none, .fields #[.ref p.1, .str (p.2 ++ ".<locals>." ++ "<lambda>") default], #[]⟩
def jIj (ps : List (Addr × Str)) : PySem.W.Frag → PySem.W.Frag
 | [] => []
 | q :: r => (q :: r) ++ ps.map fun p => (q.1, jV0 p)
def fixK (G : Gs) (K : PySem.W.Frag) : PySem.W.Frag := match lmsT G K with
 | [] => K
 | ps => jIj ps (K.filter fun q => !(ps.map (·.1)).contains q.1)
def j0p (K : PySem.W.Frag) (f : Addr) : Addr := match K.lookup f with
 | some ⟨_, _, .func fd, _⟩ => (match fd.code with | .ref c => c | _ => 0)
 | _ => 0
def jRm (G : Gs) (K : PySem.W.Frag) : Bool := (tabs (fixK G K)).all fun p => (match (fixK G K).lookup p.1 with | none => true | _ => false) && (G.lms.any fun x => PySem.W.codeHdIn K (j0p K (He.ga K x)) p.1) && (match K.lookup p.1 with
 | some ⟨.none, none, .fields a, sl⟩ => a.isEmpty && sl.isEmpty
 | _ => false)
abbrev AlI : Type := Bool × List FnW
def obsI (D : List DefI) (G : Gs) (K : PySem.W.Frag) : AlI := (G.fact (fixK G K) D && jRm G K, G.adrs (fixK G K))
def valI (D : List DefI) (G : Gs) : AlI := (true, G.vals D)
def jV6 (as : List Addr) (D : List DefI) (G : Gs) (g : Addr → Option Obj) : AlI := obsI D G (frN g as)
def hookA (as : List Addr) (D : List DefI) (G : Gs) : PySem.W.Hook where
 α := AlI
 obs := fun s => jV6 as D G s.heap.get?
 val := fun _ => valI D G
 says := fun _ h => ∃ K : PySem.W.Frag, K.In h ∧ obsI D G K = valI D G ∧ ∀ a o, K.lookup a = some o → jFf o = true
 of := fun _ _ e => ⟨_, fun a o z => (jOr z).1, e, fun a o z => (jOr z).2⟩
 keeps := fun _ _ _ ⟨K, hK, c⟩ k => ⟨K, PySem.W.Frag.In.keeps hK k, c⟩
end SI
namespace SI
open PySem PySem.Spec PyProof.Rows L2
def stAt (b : List Stmt) (i : Nat) : Stmt := b.getD i (.Pass ⟨0, 0, 0, 0⟩)
def fnA : Stmt → Arguments
 | .FunctionDef _ a _ _ _ _ _ _ _ _ => a
 | _ => ⟨[], [], none, [], [], none, []⟩
def fnB : Stmt → List Stmt
 | .FunctionDef _ _ b _ _ _ _ _ _ _ => b
 | _ => []
def fnS : Stmt → Scope
 | .FunctionDef _ _ _ _ _ _ s _ _ _ => s
 | _ => ⟨.function, [], false, false, []⟩
def dfF (p : Program) (i : Nat) (key : FK) (name qual : Str) (N ps : List Str) (dT : List T) (fd : FDef) : DefI :=
 ⟨key, name, qual, fnA (stAt p.main.body i), fnB (stAt p.main.body i), fnS (stAt p.main.body i), N, ps, dT, fd, false, [], false⟩
end SI
section
set_option maxHeartbeats 0
namespace SI
open PySem PySem.Spec PyProof.Rows L2
abbrev jHj : Program := PySem.Challenge.pw_stillplaces_k01_limits_and_errors
def zBr : List Str := []
def jAj : List Str := ["Broken", "Impossible", "InUse", "InvalidChanges", "InvalidClaim", "InvalidHints", "InvalidLot", "InvalidMove", "InvalidName", "InvalidPlace", "InvalidPlaces", "InvalidRow", "InvalidStep", "InvalidSteps", "InvalidText", "InvalidWish", "InvalidWishes", "InvalidWord", "Moving", "NotAnOrder", "NotHints", "NothingToUndo", "Shared", "TooMany", "UnknownName", "UnknownPlace"]
def jBb : FDef := ⟨1, 2, (.cons (.set 1 (.lst (.one (.xo (.isx jAj ["InvalidText"] "InvalidText" false) (.cons (.var 0) .nil)) (.one (.xo (.isx jAj ["InvalidStep"] "InvalidStep" false) (.cons (.var 0) .nil)) (.one (.xo (.isx jAj ["InvalidMove"] "InvalidMove" false) (.cons (.var 0) .nil)) .nil)))))
 (.cons (.set 1 (.bin .Add (.var 1) (.lst (.one (.xo (.isx jAj ["InvalidName"] "InvalidName" false) (.cons (.var 0) .nil)) (.one (.xo (.isx jAj ["InvalidWish"] "InvalidWish" false) (.cons (.var 0) .nil)) (.one (.xo (.isx jAj ["InvalidClaim"] "InvalidClaim" false) (.cons (.var 0) .nil)) .nil))))))
 (.cons (.set 1 (.bin .Add (.var 1) (.lst (.one (.xo (.isx jAj ["InvalidPlace"] "InvalidPlace" false) (.cons (.var 0) .nil)) (.one (.xo (.isx jAj ["InvalidWord"] "InvalidWord" false) (.cons (.var 0) .nil)) (.one (.xo (.isx jAj ["NotAnOrder"] "NotAnOrder" false) (.cons (.var 0) .nil)) .nil))))))
 (.cons (.set 1 (.bin .Add (.var 1) (.lst (.one (.xo (.isx jAj ["NotHints"] "NotHints" false) (.cons (.var 0) .nil)) (.one (.xo (.isx jAj ["InvalidPlaces"] "InvalidPlaces" false) (.cons (.var 0) .nil)) (.one (.xo (.isx jAj ["InvalidSteps"] "InvalidSteps" false) (.cons (.var 0) .nil)) .nil))))))
 (.cons (.set 1 (.bin .Add (.var 1) (.lst (.one (.xo (.isx jAj ["InvalidLot"] "InvalidLot" false) (.cons (.var 0) .nil)) (.one (.xo (.isx jAj ["InvalidRow"] "InvalidRow" false) (.cons (.var 0) .nil)) (.one (.xo (.isx jAj ["InvalidHints"] "InvalidHints" false) (.cons (.var 0) .nil)) .nil))))))
 (.cons (.set 1 (.bin .Add (.var 1) (.lst (.one (.xo (.isx jAj ["InvalidWishes"] "InvalidWishes" false) (.cons (.var 0) .nil)) (.one (.xo (.isx jAj ["InvalidChanges"] "InvalidChanges" false) (.cons (.var 0) .nil)) (.one (.xo (.isx jAj ["UnknownPlace"] "UnknownPlace" false) (.cons (.var 0) .nil)) .nil))))))
 (.cons (.set 1 (.bin .Add (.var 1) (.lst (.one (.xo (.isx jAj ["UnknownName"] "UnknownName" false) (.cons (.var 0) .nil)) (.one (.xo (.isx jAj ["InUse"] "InUse" false) (.cons (.var 0) .nil)) (.one (.xo (.isx jAj ["Moving"] "Moving" false) (.cons (.var 0) .nil)) .nil))))))
 (.cons (.set 1 (.bin .Add (.var 1) (.lst (.one (.xo (.isx jAj ["Impossible"] "Impossible" false) (.cons (.var 0) .nil)) (.one (.xo (.isx jAj ["Shared"] "Shared" false) (.cons (.var 0) .nil)) (.one (.xo (.isx jAj ["TooMany"] "TooMany" false) (.cons (.var 0) .nil)) .nil))))))
 (.cons (.set 1 (.bin .Add (.var 1) (.lst (.one (.xo (.isx jAj ["NothingToUndo"] "NothingToUndo" false) (.cons (.var 0) .nil)) (.one (.xo (.isx jAj ["Broken"] "Broken" false) (.cons (.var 0) .nil)) .nil)))))
 (.cons (.ret (.var 1))
 .nil))))))))))⟩
def jD5 : DefI := dfF jHj 34 ("", "_law_sorts") "_law_sorts" "_law_sorts" ["_law_e", "_law_found"] ["_law_e"] [] jBb
def jA9 : FDef := ⟨1, 2, (.cons (.set 1 (.lst (.one (.xo (.isx jAj ["NotRight", "InvalidName", "InvalidSteps", "InvalidLot", "InvalidWishes", "InvalidPlaces", "InvalidChanges", "InvalidMove", "InvalidText", "NotAnOrder", "InvalidStep", "InvalidClaim", "InvalidWish", "InvalidHints", "InvalidRow", "InvalidWord", "NotHints", "InvalidPlace"] "NotRight" false) (.cons (.var 0) .nil)) (.one (.xo (.isx jAj ["NotThere", "UnknownName", "UnknownPlace", "InUse"] "NotThere" false) (.cons (.var 0) .nil)) (.one (.xo (.isx jAj ["CannotBe", "Broken", "Moving", "Shared", "NothingToUndo", "TooMany", "Impossible"] "CannotBe" false) (.cons (.var 0) .nil)) .nil)))))
 (.cons (.set 1 (.bin .Add (.var 1) (.lst (.one (.xo (.isx jAj ["NotRight", "InvalidName", "InvalidSteps", "InvalidLot", "InvalidWishes", "InvalidPlaces", "InvalidChanges", "InvalidMove", "InvalidText", "NotAnOrder", "InvalidStep", "InvalidClaim", "InvalidWish", "InvalidHints", "InvalidRow", "InvalidWord", "NotHints", "InvalidPlace"] "ValueError" true) (.cons (.var 0) .nil)) (.one (.xo (.isx jAj ["NotThere", "UnknownName", "UnknownPlace", "InUse"] "LookupError" true) (.cons (.var 0) .nil)) (.one (.xo (.isx jAj ["CannotBe", "Broken", "Moving", "Shared", "NothingToUndo", "TooMany", "Impossible"] "ArithmeticError" true) (.cons (.var 0) .nil)) .nil))))))
 (.cons (.ret (.bin .Add (.var 1) (.lst (.one (.xo (.isx jAj [] "KeyError" true) (.cons (.var 0) .nil)) (.one (.xo (.isx jAj [] "IndexError" true) (.cons (.var 0) .nil)) (.one (.xo (.isx jAj [] "ZeroDivisionError" true) (.cons (.var 0) .nil)) .nil))))))
 .nil)))⟩
def jD4 : DefI := dfF jHj 35 ("", "_law_bases") "_law_bases" "_law_bases" ["_law_e", "_law_found"] ["_law_e"] [] jA9
def jBk : FDef := ⟨1, 4, (.cons (.par [1, 2] (.cons (.cmp .Lt (.var 0) (.con (.int 17))) (.cons (.chain .Lt .Lt (.con (.int 16)) (.var 0) (.con (.int 20))) .nil)))
 (.cons (.set 3 (.and (.nt (.var 1)) (.nt (.var 2))))
 (.cons (.ret (.bin .Add (.bin .Mult (.lst (.one (.var 1) (.one (.var 2) (.one (.var 3) .nil)))) (.con (.int 2))) (.bin .Mult (.lst (.one (.con (.bl false)) .nil)) (.con (.int 3)))))
 .nil)))⟩
def jE5 : DefI := dfF jHj 36 ("", "_law_due") "_law_due" "_law_due" ["_law_k", "_law_head", "_law_middle", "_law_end"] ["_law_k"] [] jBk
def jAs : FDef := ⟨1, 3, (.cons (.set 1 (.lst (.one (.xo (.mk "InvalidText" ["given"] [.arg 0]) (.cons (.var 0) .nil)) (.one (.xo (.mk "InvalidStep" ["given"] [.arg 0]) (.cons (.var 0) .nil)) (.one (.xo (.mk "InvalidMove" ["given"] [.arg 0]) (.cons (.var 0) .nil)) (.one (.xo (.mk "InvalidName" ["given"] [.arg 0]) (.cons (.var 0) .nil)) .nil))))))
 (.cons (.set 1 (.bin .Add (.var 1) (.lst (.one (.xo (.mk "InvalidWish" ["given"] [.arg 0]) (.cons (.var 0) .nil)) (.one (.xo (.mk "InvalidClaim" ["given"] [.arg 0]) (.cons (.var 0) .nil)) (.one (.xo (.mk "InvalidPlace" ["given"] [.arg 0]) (.cons (.var 0) .nil)) (.one (.xo (.mk "InvalidWord" ["given"] [.arg 0]) (.cons (.var 0) .nil)) .nil)))))))
 (.cons (.set 1 (.bin .Add (.var 1) (.lst (.one (.xo (.mk "NotAnOrder" ["given"] [.arg 0]) (.cons (.var 0) .nil)) (.one (.xo (.mk "NotHints" ["given"] [.arg 0]) (.cons (.var 0) .nil)) (.one (.xo (.mk "InvalidPlaces" ["index"] [.arg 0]) (.cons (.var 0) .nil)) (.one (.xo (.mk "InvalidSteps" ["index"] [.arg 0]) (.cons (.var 0) .nil)) .nil)))))))
 (.cons (.set 1 (.bin .Add (.var 1) (.lst (.one (.xo (.mk "InvalidLot" ["index"] [.arg 0]) (.cons (.var 0) .nil)) (.one (.xo (.mk "InvalidRow" ["index"] [.arg 0]) (.cons (.var 0) .nil)) (.one (.xo (.mk "InvalidHints" ["index"] [.arg 0]) (.cons (.var 0) .nil)) (.one (.xo (.mk "InvalidWishes" ["index"] [.arg 0]) (.cons (.var 0) .nil)) .nil)))))))
 (.cons (.set 1 (.bin .Add (.var 1) (.lst (.one (.xo (.mk "InvalidChanges" ["index"] [.arg 0]) (.cons (.var 0) .nil)) (.one (.xo (.mk "UnknownPlace" ["given"] [.arg 0]) (.cons (.var 0) .nil)) (.one (.xo (.mk "UnknownName" ["given"] [.arg 0]) (.cons (.var 0) .nil)) (.one (.xo (.mk "InUse" ["index"] [.arg 0]) (.cons (.var 0) .nil)) .nil)))))))
 (.cons (.set 1 (.bin .Add (.var 1) (.lst (.one (.xo (.mk "Moving" ["found"] [.arg 0]) (.cons (.var 0) .nil)) (.one (.xo (.mk "Impossible" [] []) .nil) (.one (.xo (.mk "Shared" ["given"] [.arg 0]) (.cons (.var 0) .nil)) (.one (.xo (.mk "TooMany" ["most"] [.arg 0]) (.cons (.var 0) .nil)) (.one (.xo (.mk "NothingToUndo" [] []) .nil) .nil))))))))
 (.cons (.set 1 (.bin .Add (.var 1) (.lst (.one (.xo (.mk "Broken" ["index", "shown"] [.arg 0, .arg 1]) (.cons (.var 0) (.cons (.con (.int 7)) .nil))) .nil))))
 (.cons (.set 2 (.lst (.one (.xo (.mk "InvalidText" ["given"] [.arg 0]) (.cons (.var 0) .nil)) (.one (.xo (.mk "InvalidStep" ["given"] [.arg 0]) (.cons (.var 0) .nil)) (.one (.xo (.mk "InvalidMove" ["given"] [.arg 0]) (.cons (.var 0) .nil)) .nil)))))
 (.cons (.set 2 (.bin .Add (.var 2) (.lst (.one (.xo (.mk "InvalidName" ["given"] [.arg 0]) (.cons (.var 0) .nil)) (.one (.xo (.mk "InvalidWish" ["given"] [.arg 0]) (.cons (.var 0) .nil)) (.one (.xo (.mk "InvalidClaim" ["given"] [.arg 0]) (.cons (.var 0) .nil)) .nil))))))
 (.cons (.set 2 (.bin .Add (.var 2) (.lst (.one (.xo (.mk "InvalidPlace" ["given"] [.arg 0]) (.cons (.var 0) .nil)) (.one (.xo (.mk "InvalidWord" ["given"] [.arg 0]) (.cons (.var 0) .nil)) (.one (.xo (.mk "NotAnOrder" ["given"] [.arg 0]) (.cons (.var 0) .nil)) .nil))))))
 (.cons (.set 2 (.bin .Add (.var 2) (.lst (.one (.xo (.mk "NotHints" ["given"] [.arg 0]) (.cons (.var 0) .nil)) (.one (.xo (.mk "InvalidPlaces" ["index"] [.arg 0]) (.cons (.var 0) .nil)) (.one (.xo (.mk "InvalidSteps" ["index"] [.arg 0]) (.cons (.var 0) .nil)) .nil))))))
 (.cons (.set 2 (.bin .Add (.var 2) (.lst (.one (.xo (.mk "InvalidLot" ["index"] [.arg 0]) (.cons (.var 0) .nil)) (.one (.xo (.mk "InvalidRow" ["index"] [.arg 0]) (.cons (.var 0) .nil)) (.one (.xo (.mk "InvalidHints" ["index"] [.arg 0]) (.cons (.var 0) .nil)) .nil))))))
 (.cons (.set 2 (.bin .Add (.var 2) (.lst (.one (.xo (.mk "InvalidWishes" ["index"] [.arg 0]) (.cons (.var 0) .nil)) (.one (.xo (.mk "InvalidChanges" ["index"] [.arg 0]) (.cons (.var 0) .nil)) (.one (.xo (.mk "UnknownPlace" ["given"] [.arg 0]) (.cons (.var 0) .nil)) .nil))))))
 (.cons (.set 2 (.bin .Add (.var 2) (.lst (.one (.xo (.mk "UnknownName" ["given"] [.arg 0]) (.cons (.var 0) .nil)) (.one (.xo (.mk "InUse" ["index"] [.arg 0]) (.cons (.var 0) .nil)) (.one (.xo (.mk "Moving" ["found"] [.arg 0]) (.cons (.var 0) .nil)) (.one (.xo (.mk "Impossible" [] []) .nil) .nil)))))))
 (.cons (.set 2 (.bin .Add (.var 2) (.lst (.one (.xo (.mk "Shared" ["given"] [.arg 0]) (.cons (.var 0) .nil)) (.one (.xo (.mk "TooMany" ["most"] [.arg 0]) (.cons (.var 0) .nil)) (.one (.xo (.mk "NothingToUndo" [] []) .nil) (.one (.xo (.mk "Broken" ["index", "shown"] [.arg 1, .arg 0]) (.cons (.con (.int 7)) (.cons (.var 0) .nil))) .nil)))))))
 (.cons (.ret (.lst (.one (.var 1) (.one (.var 2) .nil))))
 .nil))))))))))))))))⟩
def jD3 : DefI := dfF jHj 37 ("", "_law_given") "_law_given" "_law_given" ["_law_thing", "_law_found", "_law_named"] ["_law_thing"] [] jAs
def jAk : FDef := ⟨2, 5, (.cons (.set 2 (.lc [3] (.nm 3) (.of (.lst (.one (.con (.int 0)) (.one (.con (.int 1)) (.one (.con (.int 2)) (.one (.con (.int 3)) (.one (.con (.int 4)) (.one (.con (.int 5)) (.one (.con (.int 6)) (.one (.con (.int 7)) (.one (.con (.int 8)) (.one (.con (.int 9)) (.one (.con (.int 17)) (.one (.con (.int 18)) (.one (.con (.int 22)) .nil))))))))))))))) (.con (.bl true)) (.xo (.fld jAj "given") (.cons (.idx (.var 0) (.var 3)) .nil))))
 (.cons (.set 2 (.bin .Add (.var 2) (.lc [3] (.nm 3) (.of (.lst (.one (.con (.int 10)) (.one (.con (.int 11)) (.one (.con (.int 12)) (.one (.con (.int 13)) (.one (.con (.int 14)) (.one (.con (.int 15)) (.one (.con (.int 16)) (.one (.con (.int 19)) .nil)))))))))) (.con (.bl true)) (.xo (.fld jAj "index") (.cons (.idx (.var 0) (.var 3)) .nil)))))
 (.cons (.set 2 (.bin .Add (.var 2) (.lst (.one (.xo (.fld jAj "found") (.cons (.idx (.var 0) (.con (.int 20))) .nil)) (.one (.xo (.fld jAj "most") (.cons (.idx (.var 0) (.con (.int 23))) .nil)) .nil)))))
 (.cons (.set 4 (.idx (.var 0) (.con (.int 25))))
 (.cons (.ret (.and (.cmp .Eq (.bi .repr (.cons (.var 2) .nil)) (.bi .repr (.cons (.bin .Mult (.lst (.one (.var 1) .nil)) (.bi .len (.cons (.var 2) .nil))) .nil))) (.cmp .Eq (.bi .repr (.cons (.lst (.one (.xo (.fld jAj "index") (.cons (.var 4) .nil)) (.one (.xo (.fld jAj "shown") (.cons (.var 4) .nil)) .nil))) .nil)) (.bi .repr (.cons (.lst (.one (.var 1) (.one (.con (.int 7)) .nil))) .nil)))))
 .nil)))))⟩
def jB9 : DefI := dfF jHj 38 ("", "_law_kept_right") "_law_kept_right" "_law_kept_right" ["_law_found", "_law_thing", "_law_some", "_law_k", "_law_last"] ["_law_found", "_law_thing"] [] jAk
def jAy : FDef := ⟨1, 3, (.cons (.set 1 (.lst .nil))
 (.cons (.rzc 2 "InvalidText" ["given"] (.cons (.var 0) .nil) 1 "given")
 (.cons (.rzc 2 "UnknownName" ["given"] (.cons (.var 0) .nil) 1 "given")
 (.cons (.rzc 2 "Broken" ["index", "shown"] (.cons (.var 0) (.cons (.con (.int 3)) .nil)) 1 "index")
 (.cons (.ret (.cmp .Eq (.var 1) (.bin .Mult (.lst (.one (.bi .repr (.cons (.var 0) .nil)) .nil)) (.con (.int 3)))))
 .nil)))))⟩
def jB0 : DefI := dfF jHj 39 ("", "_law_raised_right") "_law_raised_right" "_law_raised_right" ["_law_thing", "_law_seen", "_law_e"] ["_law_thing"] [] jAy
def jBp : FDef := ⟨1, 5, (.cons (.for_ (.nm 1) (.of (.call "_law_given" (.cons (.var 0) .nil))) (.cons (.for_ (.nm 2) (.rng1 (.bi .len (.cons (.var 1) .nil))) (.cons (.set 3 (.lc [4] (.nm 4) (.rng1 (.bi .len (.cons (.var 1) .nil))) (.con (.bl true)) (.cmp .Eq (.var 4) (.var 2))))
 (.cons (.ite (.or (.cmp .NotEq (.call "_law_sorts" (.cons (.idx (.var 1) (.var 2)) .nil)) (.var 3)) (.cmp .NotEq (.call "_law_bases" (.cons (.idx (.var 1) (.var 2)) .nil)) (.call "_law_due" (.cons (.var 2) .nil)))) (.cons (.ret (.con (.bl false)))
 .nil) .nil)
 .nil)))
 (.cons (.ite (.nt (.call "_law_kept_right" (.cons (.var 1) (.cons (.var 0) .nil)))) (.cons (.ret (.con (.bl false)))
 .nil) .nil)
 .nil)))
 (.cons (.ret (.call "_law_raised_right" (.cons (.var 0) .nil)))
 .nil))⟩
def jD2 : DefI := dfF jHj 40 ("", "_law_right") "_law_right" "_law_right" ["_law_thing", "_law_found", "_law_k", "_law_due_here", "_law_at"] ["_law_thing"] [] jBp
def jH0 : FDef := ⟨1, 5, (.cons (.set 1 (.lst (.one (.con (.int 6)) (.one (.con (.int 4)) (.one (.con (.int 5)) .nil)))))
 (.cons (.ite (.cmp .NotEq (.var 1) (.lst (.one (.con (.int 6)) (.one (.con (.int 4)) (.one (.con (.int 5)) .nil))))) (.cons (.ret (.con (.bl false)))
 .nil) .nil)
 (.cons (.set 2 (.bin .Add (.lst (.one (.con .non) (.one (.con (.str "a")) (.one (.tup (.one (.con (.int 1)) (.one (.con (.str "x")) .nil))) (.one (.con (.bl true)) (.one (.neg (.con (.int 3))) .nil)))))) (.lc [3] (.nm 3) (.of (.slc false true (.var 0) (.con .non) (.con (.int 3)))) (.con (.bl true)) (.bin .Mod (.bi .int (.cons (.var 3) .nil)) (.bin .Pow (.con (.int 10)) (.con (.int 12)))))))
 (.cons (.ret (.cmp .Eq (.lc [4] (.nm 4) (.of (.var 2)) (.nt (.call "_law_right" (.cons (.var 4) .nil))) (.var 4)) (.lst .nil)))
 .nil))))⟩
def jNp : DefI := dfF jHj 41 ("", "law") "law" "law" ["_law_cells", "_law_limits_here", "_law_things", "_law_cell", "_law_thing"] ["_law_cells"] [] jH0
def k01_D : List DefI := ([jD5, jD4, jE5, jD3, jB9, jB0, jD2, jNp] : List DefI)
def k01_G : Gs := ⟨["ArithmeticError", "IndexError", "KeyError", "LookupError", "ValueError", "ZeroDivisionError", "int", "isinstance", "len", "range", "repr"], [("MOST_CHANGES", (.int 5)), ("MOST_PLACES", (.int 6)), ("MOST_TOLD", (.int 4))],
 ([("_law_sorts", ["_law_e"], []), ("_law_bases", ["_law_e"], []), ("_law_due", ["_law_k"], []), ("_law_given", ["_law_thing"], []), ("_law_kept_right", ["_law_found", "_law_thing"], []), ("_law_raised_right", ["_law_thing"], []), ("_law_right", ["_law_thing"], []), ("law", ["_law_cells"], [])] : List (Str × List Str × List T)),
 [], [], [], [], [], [], [],
 [("Broken", ["index", "shown"]), ("Impossible", []), ("InUse", ["index"]), ("InvalidChanges", ["index"]), ("InvalidClaim", ["given"]), ("InvalidHints", ["index"]), ("InvalidLot", ["index"]), ("InvalidMove", ["given"]), ("InvalidName", ["given"]), ("InvalidPlace", ["given"]), ("InvalidPlaces", ["index"]), ("InvalidRow", ["index"]), ("InvalidStep", ["given"]), ("InvalidSteps", ["index"]), ("InvalidText", ["given"]), ("InvalidWish", ["given"]), ("InvalidWishes", ["index"]), ("InvalidWord", ["given"]), ("Moving", ["found"]), ("NotAnOrder", ["given"]), ("NotHints", ["given"]), ("NothingToUndo", []), ("Shared", ["given"]), ("TooMany", ["most"]), ("UnknownName", ["given"]), ("UnknownPlace", ["given"])], ["Broken", "CannotBe", "Impossible", "InUse", "InvalidChanges", "InvalidClaim", "InvalidHints", "InvalidLot", "InvalidMove", "InvalidName", "InvalidPlace", "InvalidPlaces", "InvalidRow", "InvalidStep", "InvalidSteps", "InvalidText", "InvalidWish", "InvalidWishes", "InvalidWord", "Moving", "NotAnOrder", "NotHints", "NotRight", "NotThere", "NothingToUndo", "Shared", "TooMany", "UnknownName", "UnknownPlace"], "/claim/cut.py", [], [], [], ([([], [⟨["Broken"], .con (.str "Broken")⟩]), ([], [⟨["NothingToUndo"], .con (.str "NothingToUndo")⟩]), ([], [⟨["TooMany"], .con (.str "TooMany")⟩]), ([], [⟨["Shared"], .con (.str "Shared")⟩]), ([], [⟨["Impossible"], .con (.str "Impossible")⟩]), ([], [⟨["Moving"], .con (.str "Moving")⟩]), ([], [⟨["InUse"], .con (.str "InUse")⟩]), ([], [⟨["UnknownName"], .con (.str "UnknownName")⟩]), ([], [⟨["UnknownPlace"], .con (.str "UnknownPlace")⟩]), ([], [⟨["InvalidChanges"], .con (.str "InvalidChanges")⟩]), ([], [⟨["InvalidWishes"], .con (.str "InvalidWishes")⟩]), ([], [⟨["InvalidHints"], .con (.str "InvalidHints")⟩]), ([], [⟨["InvalidRow"], .con (.str "InvalidRow")⟩]), ([], [⟨["InvalidLot"], .con (.str "InvalidLot")⟩]), ([], [⟨["InvalidSteps"], .con (.str "InvalidSteps")⟩]), ([], [⟨["InvalidPlaces"], .con (.str "InvalidPlaces")⟩]), ([], [⟨["NotHints"], .con (.str "NotHints")⟩]), ([], [⟨["NotAnOrder"], .con (.str "NotAnOrder")⟩]), ([], [⟨["InvalidWord"], .con (.str "InvalidWord")⟩]), ([], [⟨["InvalidPlace"], .con (.str "InvalidPlace")⟩]), ([], [⟨["InvalidClaim"], .con (.str "InvalidClaim")⟩]), ([], [⟨["InvalidWish"], .con (.str "InvalidWish")⟩]), ([], [⟨["InvalidName"], .con (.str "InvalidName")⟩]), ([], [⟨["InvalidMove"], .con (.str "InvalidMove")⟩]), ([], [⟨["InvalidStep"], .con (.str "InvalidStep")⟩]), ([], [⟨["InvalidText"], .con (.str "InvalidText")⟩]), ([["CannotBe"]], [⟨["CannotBe", "Broken", "Moving", "Shared", "NothingToUndo", "TooMany", "Impossible"], .lst [.fld "given", .fld "index", .fld "found", .fld "most", .fld "shown"]⟩]), ([["NotThere"]], [⟨["NotThere", "UnknownName", "UnknownPlace", "InUse"], .lst [.fld "given", .fld "index", .fld "found", .fld "most", .fld "shown"]⟩]), ([["NotRight"]], [⟨["NotRight", "InvalidName", "InvalidSteps", "InvalidLot", "InvalidWishes", "InvalidPlaces", "InvalidChanges", "InvalidMove", "InvalidText", "NotAnOrder", "InvalidStep", "InvalidClaim", "InvalidWish", "InvalidHints", "InvalidRow", "InvalidWord", "NotHints", "InvalidPlace"], .lst [.fld "given", .fld "index", .fld "found", .fld "most", .fld "shown"]⟩]), ([], [⟨[], .lst [.con (.str "ZeroDivisionError")]⟩])] : List (List (List Str) × List Hd)) ++ ([([], [⟨[], .lst [.con (.str "IndexError")]⟩]), ([], [⟨[], .lst [.con (.str "KeyError")]⟩]), ([], [⟨["CannotBe", "Broken", "Moving", "Shared", "NothingToUndo", "TooMany", "Impossible"], .lst [.con (.str "ArithmeticError")]⟩]), ([], [⟨["NotThere", "UnknownName", "UnknownPlace", "InUse"], .lst [.con (.str "LookupError")]⟩]), ([], [⟨["NotRight", "InvalidName", "InvalidSteps", "InvalidLot", "InvalidWishes", "InvalidPlaces", "InvalidChanges", "InvalidMove", "InvalidText", "NotAnOrder", "InvalidStep", "InvalidClaim", "InvalidWish", "InvalidHints", "InvalidRow", "InvalidWord", "NotHints", "InvalidPlace"], .lst [.con (.str "ValueError")]⟩]), ([], [⟨["CannotBe", "Broken", "Moving", "Shared", "NothingToUndo", "TooMany", "Impossible"], .con (.str "CannotBe")⟩]), ([], [⟨["NotThere", "UnknownName", "UnknownPlace", "InUse"], .con (.str "NotThere")⟩]), ([], [⟨["NotRight", "InvalidName", "InvalidSteps", "InvalidLot", "InvalidWishes", "InvalidPlaces", "InvalidChanges", "InvalidMove", "InvalidText", "NotAnOrder", "InvalidStep", "InvalidClaim", "InvalidWish", "InvalidHints", "InvalidRow", "InvalidWord", "NotHints", "InvalidPlace"], .con (.str "NotRight")⟩])] : List (List (List Str) × List Hd)), [], [], false, []⟩
def k01_nms : List Str := (["NotRight", "InvalidText", "InvalidStep", "InvalidMove", "InvalidName", "InvalidWish", "InvalidClaim", "InvalidPlace", "InvalidWord", "NotAnOrder", "NotHints", "InvalidPlaces", "InvalidSteps", "InvalidLot", "InvalidRow", "InvalidHints", "InvalidWishes", "InvalidChanges", "NotThere", "UnknownPlace", "UnknownName", "InUse", "CannotBe", "Moving", "Impossible", "Shared", "TooMany", "NothingToUndo", "Broken", "MOST_PLACES"] : List Str) ++ (["MOST_TOLD", "MOST_CHANGES", "_law_sorts", "_law_bases", "_law_due", "_law_given", "_law_kept_right", "_law_raised_right", "_law_right"] : List Str)
-- law at 41; top 42
theorem k01_txt : k01_G.txt k01_D = true := by decide +kernel
abbrev jKo : PySem.W.OpenRow := PySem.W.OpenLaw.row PySem.Challenge.rw_stillplaces_k01_limits_and_errors
def k01_as : List Addr := [2, 3, 23, 24, 31, 42, 43, 45, 46, 52, 63, 64, 66, 67, 73, 84] ++ [85, 87, 88, 94, 105, 106, 108, 109, 115, 126, 127, 129, 130, 136, 147, 148] ++ [150, 151, 157, 168, 169, 171, 172, 178, 189, 190, 192, 193, 199, 210, 211, 213] ++ [214, 220, 231, 232, 234, 235, 241, 252, 253, 255, 256, 262, 273, 274, 276, 277] ++ [283, 294, 295, 297, 298, 304, 315, 316, 318, 319, 325, 336, 337, 339, 340, 346] ++ [357, 358, 360, 361, 367, 378, 379, 381, 382, 393, 394, 401, 412, 413, 415, 416] ++ [422, 433, 434, 436, 437, 443, 454, 455, 457, 458, 469, 470, 477, 488, 489, 491] ++ [492, 503, 504, 510, 521, 522, 524, 525, 531, 542, 543, 545, 546, 557, 558, 564] ++ [575, 576, 578, 579, 587, 588, 594, 595, 601, 602, 608, 609, 613, 614, 620, 621] ++ [625, 626, 630, 631]
def k01_ob (s : PySem.W.SharedT) : AlI := jV6 k01_as k01_D k01_G (HandSHeadRun.getT s)
end SI
end
section
set_option maxHeartbeats 0
namespace SI
open PySem PySem.Spec PyProof.Rows L2
def j01 : PySem.W.Hook where
 α := Bool
 obs := fun _ => true
 val := fun _ => true
 says := fun _ _ => True
 of := fun _ _ _ => trivial
 keeps := fun _ _ _ _ _ => trivial
theorem jQc {α β γ σ : Type} {o : Option σ} {a : σ → α} {b : σ → β} {c : σ → γ} {A : α} {B : β} {C : γ} (h1 : o.map (fun s => (a s, b s, true)) = some (A, B, true)) (h2 : o.map c = some C) : o.map (fun s => (a s, b s, c s)) = some (A, B, C) := by
 cases o with
 | none => cases h1
 | some s =>
  simp only [Option.map_some, Option.some.injEq, Prod.mk.injEq] at h1 h2 ⊢
  exact ⟨h1.1, h1.2.1, h2⟩
theorem jPs (w : World) : HandSHeadRun.RunEq jKo (PySem.W.view jKo.prog [41]) j01 (fun _ => true) 30000 k01_nms w := by
 intro os
 kernel_rfl
theorem jQm (w : World) : ∀ os : OsState, (HandSHeadRun.endF (HandSHeadRun.stepQ (HandSHeadRun.denQ HandSHeadRun.tabQ) jKo.prog w) 30000 jKo.prog w os).map k01_ob = some ((hookA k01_as k01_D k01_G).val w) := by
 intro os
 kernel_rfl
theorem k01_run (w : World) : HandSHeadRun.RunEq jKo (PySem.W.view jKo.prog [41]) (hookA k01_as k01_D k01_G) k01_ob 30000 k01_nms w := by
 intro os
 exact jQc (jPs w os) (jQm w os)
end SI
end
namespace SI
open PySem PySem.Spec PyProof.Rows L2
section
open LamX
variable {H H' : Hp} {P a : Addr} {q : Str} {u w : HO}
theorem jIq (t : TabS H P q) (h : H a = some w) (m : Mut w) : TabS (upd H a u) P q := jI9 t fun b w' e n => by
 rw [upd_ne]
 ·exact e
 ·rintro rfl
  rw [h] at e
  cases e
  exact n m.tbl m.ext
end
section
variable {K : PySem.W.Frag} {F S : Hp} {as : List Addr} {σ : L2.St} {H : Hp} {E : Env} {C : jAa}
theorem Sim.sqN (s : Sim K F S as σ H E C) {a : Addr} {xs : List V} : SqN K S a xs → SqN K H a xs
 | .inl ⟨o, e, d⟩ => (s.sub' a _ e).elim (fun x => .inl ⟨o, x, d⟩) fun ⟨_, _, g⟩ => g.elim
 | .inr e => .inr e
theorem Sim.newS (s : Sim K F S as σ H E C) {p : Addr} (h : H p = none) : S p = none := by
 cases e : S p with
 | none => rfl
 | some u => exact absurd h (Rd.some (s.sub p u e))
theorem Sim.newF (s : Sim K F S as σ H E C) {p : Addr} (h : H p = none) : F p = none := by
 cases e : F p with
 | none => rfl
 | some u =>
  obtain ⟨w, hw⟩ := jJ5 e
  have := (s.frm p w hw).1
  rw [h] at this
  cases this
theorem Sim.newC (s : Sim K F S as σ H E C) {p : Addr} (h : H p = none) : p ∉ as := fun hm => by
 obtain ⟨n, hn, e⟩ := List.getElem_of_mem hm
 have hn' : n < C.length := by rw [← s.cl]; exact hn
 obtain ⟨a, u, ea, eu, _⟩ := s.ce n C[n] (wad hn')
 rw [wad hn, e] at ea
 cases ea
 rw [h] at eu; cases eu
theorem Sim.alloc (s : Sim K F S as σ H E C) {p : Addr} {u : HO} (h : H p = none) (nf : ∀ o w, u = .frz o w → ∃ vs, w = .tup vs) (nt : ∀ ps, u ≠ .tbl ps := by exact fun _ z => nomatch z) : Sim K F (upd S p u) as σ (upd H p u) E C := by
 have hS := s.newS h
 have l : Le S (upd S p u) := Le.upd hS
 have pr : as <+: as := was _
 have hH : ∀ {a : Addr} {v : HO}, H a = some v → upd H p u a = some v := fun {a v} e => by rw [upd_ne (ne_of_none e h)]; exact e
 have nS : ∀ {a : Addr} {v : HO}, H a = some v → S a = none → upd S p u a = none := fun {a v} e e' => by rw [upd_ne (ne_of_none e h)]; exact e'
 refine ⟨fun a v e => ?_, fun a o w e => ?_, fun a v e => ?_, fun i t e => ?_, fun i t e => ?_, s.owd, s.cl, fun n t e => ?_, s.nd, s.ln, s.pn, fun q hq => ⟨jO6 (s.tb q hq).1 h, (s.tb q hq).2.1.upd nt, (s.tb q hq).2.2⟩⟩
 ·by_cases q : a = p
  ·subst q; rw [way] at e; cases e; exact .inl way
  ·rw [upd_ne q] at e
   rcases s.sub' a v e with x | ⟨o, x, y⟩
   ·exact .inl (hH x)
   ·exact .inr ⟨o, hH x, y⟩
 ·by_cases q : a = p
  ·subst q; rw [way] at e; cases e; exact .inr (.inr (nf _ _ rfl))
  ·rw [upd_ne q] at e; exact s.nof a o w e
 ·obtain ⟨x, y, z⟩ := s.frm a v e
  exact ⟨hH x, nS x y, z⟩
 ·obtain ⟨v, x, r⟩ := s.sh i t e
  exact ⟨v, x, r.mono l pr⟩
 ·obtain ⟨a, v, x, y, z, z1, z2, r⟩ := s.ow i t e
  exact ⟨a, v, x, hH y, nS y z, z1, z2, r.mono l pr⟩
 ·obtain ⟨a, v, x, y, z, r⟩ := s.ce n t e
  exact ⟨a, v, x, hH y, nS y z, r.mono l pr⟩
end
def Den {α β : Type} (K : PySem.W.Frag) (rx : RX) (W : WX) (m : Env → M α) (R : Hp → List Addr → Hp → β → α → Prop) (σ : L2.St) (H : Hp) (Q : β → Hp → Prop) : Prop :=
 ∃ F S as E C, Sim K F S as σ H E C ∧ Out K rx W F σ E (m E C) R S as Q
abbrev jK0 (K : PySem.W.Frag) : Hp → List Addr → Hp → List V → List T → Prop := fun S as _ v t => Reps K S as v t
section
variable {X : Cx} {pins : List (Addr × Obj)} {σ : L2.St} {H : Hp} {s : Shared} {Q : VK} {vs : List V} {its : List Value}
def j9g (t : TA) : TE := fun σ H Q => t σ H fun xs H1 => xs.length ≤ sizeLine ∧ NewT Q H1 xs
theorem jK9 {es : List Expr} {t : TA} {x1 : Nat} {pos : Pos} (h : PA X es t) : PE X (.Tuple es x1 pos) (j9g t) :=
 ⟨fun pins s σ H Q I hq => wpAny_Tuple_spliced (thn (h.run pos pins s σ H _ I hq) fun us s1 ⟨xs, H1, I1, r, z, q⟩ => ⟨by have := r.length; omega, jO4 I1 r z q⟩)⟩
theorem jOf : CallR X (.type "tuple") (fun xs H Q => ∃ p ys, xs = [.ref p] ∧ ((SqL X.K H p ys ∧ NewT Q H ys) ∨ (SqT X.K H p ys ∧ Q (.ref p) H))) := by
 rintro pins s σ H xs us Q I r ⟨p, ys, rfl, h⟩
 obtain ⟨u, rfl, ru⟩ := vals1 r
 cases ru
 rcases h with ⟨hq, q⟩ | ⟨hq, q⟩
 ·obtain ⟨its, r1, pl, z⟩ := I.list hq
  have hl := r1.length
  exact call_tuple_list pl.isList (fun h' k => jO4 (I.kept (t' := s.toks) k) r1 z q) (by rw [waI]; omega)
 ·obtain ⟨its, r1, pl, z⟩ := I.tuple hq
  exact call_tuple_same pl ⟨V.ref p, H, I, rfl, q⟩
def j75 (K : PySem.W.Frag) : R2 := fun x y H Q => ∃ a b xs ys, x = .ref a ∧ y = .ref b ∧ SqT K H a xs ∧ SqT K H b ys ∧ xs.length + ys.length ≤ sizeLine ∧ (xs = [] → Q (.ref b) H) ∧ (xs ≠ [] → ys = [] → Q (.ref a) H) ∧ (xs ≠ [] → ys ≠ [] → NewT Q H (xs ++ ys))
theorem jT3 : OpR X (binaryOp .Add) (j75 X.K) := by
 rintro pins s σ H x y v u Q I rx ry ⟨a, b, xs, ys, rfl, rfl, ha, hb, z, q0, q1, q2⟩
 by_cases hx : xs = []
 ·exact op_catA pins s σ H _ _ v u Q I rx ry ⟨a, b, xs, ys, rfl, rfl, ha, hb, z, q0, q1, fun h => absurd hx h⟩
 by_cases hy : ys = []
 ·exact op_catA pins s σ H _ _ v u Q I rx ry ⟨a, b, xs, ys, rfl, rfl, ha, hb, z, q0, q1, fun _ h => absurd hy h⟩
 cases rx
 cases ry
 obtain ⟨i1, r1, p1, _⟩ := I.tuple ha
 obtain ⟨i2, r2, p2, _⟩ := I.tuple hb
 have l1 := r1.length
 have l2 := r2.length
 exact HT.cat_tup p1 p2 (fun e => hx (wa8.mp (by rw [l1, e]; rfl))) (fun e => absurd (wa8.mp (by rw [l2, e]; rfl)) hy) (fun _ => jO4 I (r1.append r2) (by rw [wav]; exact z) (q2 hx hy)) (by omega)
end
section
variable {K : PySem.W.Frag} {rx : RX} {W : WX} {F S S' : Hp} {as as' : List Addr} {σ : L2.St} {H : Hp} {E : Env} {C : jAa}
theorem Sim.repN (s : Sim K F S as σ H E C) {p : Addr} {u : HO} {t : T} (h : H p = none) (r : RepO K S as u t) : RepN K F σ E S as (upd H p u) (.ref p) t := by
 refine ⟨p, u, rfl, way, s.newS h, s.newC h, s.newF h, fun j t' e q => ?_, r⟩
 obtain ⟨a, v, x, y, _⟩ := s.ow j t' e
 rw [x] at q
 cases q
 rw [h] at y
 cases y
theorem Out.newL {Q : VK} {ts : List T} {vs : List V} {p : Addr} (h : Out K rx W F σ E (.ok (.lst ts) C) (RepF K F σ E) S as Q) (s : Sim K F S as σ H E C) (hp : H p = none) (z : vs.length ≤ sizeLine) (r : Reps K S as vs ts) : Q (.ref p) (upd H p (.lst vs)) :=
 h (.ref p) S as (upd H p (.lst vs)) (Le.refl S) (was _) (s.laid hp) (s.repN hp (.lst z r))
theorem Out.newT {Q : VK} {ts : List T} {vs : List V} (h : Out K rx W F σ E (.ok (.tup ts) C) (RepF K F σ E) S as Q) (s : Sim K F S as σ H E C) (z : vs.length ≤ sizeLine) (r : Reps K S as vs ts) : NewT Q H vs := fun p o hp hd => by
 have l : Le S (upd S p (.frz o (.tup vs))) := Le.upd (s.newS hp)
 refine h (.ref p) (upd S p (.frz o (.tup vs))) as (upd H p (.frz o (.tup vs))) l (was _) (s.alloc hp fun _ _ e => ⟨vs, by cases e; rfl⟩) ?_
 exact .tup (.inl ⟨o, way, hd⟩) z (r.mono l (was _))
theorem Out.old {Q : VK} {t : T} {v : V} (h : Out K rx W F σ E (.ok t C) (RepF K F σ E) S as Q) (s : Sim K F S as σ H E C) (r : Rep K S as v t) (n1 : ∀ xs, t ≠ .lst xs) (n2 : ∀ ks vs, t ≠ .dic ks vs) : Q v H := by
 refine h v S as H (Le.refl S) (was _) s ?_
 cases t with
 | lst xs => exact absurd rfl (n1 xs)
 | dic ks vs => exact absurd rfl (n2 ks vs)
 | _ => exact r
theorem DP.shaped {n : Nat} {v : V} {t : T} (h : DP K H n v t) (hn : n ≤ 64) : SeqAt.shaped (toD t) = true := by
 unfold SeqAt.shaped
 rw [h.lay, Bool.true_and]
 exact waU (wau h.dep hn)
end
section
variable {X : Cx}
theorem opOr {f : Value → Value → Sem Value} {r r' : R2} (h : OpR X f r) (h' : OpR X f r') : OpR X f (fun x y H Q => r x y H Q ∨ r' x y H Q) := by
 intro pins s σ H x y v u Q I rx ry q
 rcases q with q | q
 ·exact h pins s σ H x y v u Q I rx ry q
 ·exact h' pins s σ H x y v u Q I rx ry q
theorem jDa {f : Value → Value → Sem Value} {r r' : R2} (h : OpR X f r) (k : ∀ x y H Q, r' x y H Q → r x y H Q) : OpR X f r' := fun pins s σ H x y v u Q I rx ry q => h pins s σ H x y v u Q I rx ry (k _ _ _ _ q)
def j6c : R2 := fun x y H Q => ∃ l b xs zs, x = .ref l ∧ y = .ref b ∧ Rd H l (.lst xs) ∧ Rd H b (.lst zs) ∧ xs.length + zs.length ≤ sizeLine ∧ ∀ p, H p = none → Q (.ref p) (upd H p (.lst (xs ++ zs)))
theorem jTd : OpR X (binaryOp .Add) j6c := by
 intro pins s σ H x y v u Q I rx ry h
 obtain ⟨l, b, xs, zs, rfl, rfl, hH, hB, hz, q⟩ := h
 cases rx
 cases ry
 obtain ⟨z, its, n, r, e⟩ := hH.ok I.hok
 obtain ⟨z2, its2, n2, r2, e2⟩ := hB.ok I.hok
 have hl := r.length
 have hl2 := r2.length
 refine PySem.P.add_list e e2 ?_ (by rw [waI, waI]; omega)
 have ea : its.toArray ++ its2.toArray = (its ++ its2).toArray := by simp
 rw [ea]
 exact ⟨.ref _, _, I.lnew (t' := s.toks) (r.append r2) (by rw [wav]; omega), rfl, q _ I.fresh⟩
def j9l : R2 := fun x y H Q => ∃ l k xs, x = .ref l ∧ y = .int k ∧ Rd H l (.lst xs) ∧ -(2 ^ 63) ≤ k ∧ k < 2 ^ 63 ∧ xs.length * k.toNat ≤ sizeLine ∧
 ∀ p, H p = none → Q (.ref p) (upd H p (.lst (List.replicate k.toNat xs).flatten))
theorem jTi : OpR X (binaryOp .Mult) j9l := by
 intro pins s σ H x y v u Q I rx ry h
 obtain ⟨l, k, xs, rfl, rfl, hH, h1, h2, hz, q⟩ := h
 cases rx
 obtain ⟨t, rfl⟩ := ry
 obtain ⟨z, its, n, r, e⟩ := hH.ok I.hok
 have hl := r.length
 have hlen : its.toArray.size * k.toNat ≤ sizeLine := by rw [waI, ← hl]; exact hz
 have hcap : ¬ its.toArray.size * k.toNat > (2 ^ 63 - 1) / 8 := by
  have : (sizeLine : Nat) ≤ (2 ^ 63 - 1) / 8 := by decide
  omega
 have hfit : ¬ (!Builtin.List.listFitsIndex k) = true := by
  rw [fitsIndex_both h1 h2]
  exact waa
 have hlong : ¬ Builtin.List.listTooLong (its.toArray.size * k.toNat) = true := by
  rw [notLongL hlen]
  exact waa
 have hnew : List.foldl (fun x1 x2 => x1 ++ x2) #[] (List.replicate (if its.toArray.isEmpty = true then 0 else k.toNat) its.toArray) = (List.replicate k.toNat its).flatten.toArray := by
  have f0 : ∀ m : Nat, List.foldl (fun x1 x2 => x1 ++ x2) #[] (List.replicate m its.toArray) = (List.replicate m its).flatten.toArray := fun m => by
   have := foldl_rep its m []
   rw [List.nil_append] at this
   exact this
  rw [f0]
  cases its with
  | nil => simp
  | cons a r' => rw [if_neg (by simp)]
 refine wpAny_binaryOp_repeat_ref (T := "list") (U := "int") (by decide) ⟨_, e, rfl⟩ (fun s' => typeIs_int s' k t) noFill_list_mul F.fills_int_mul F.slot_int_rmul repeat_list F.slot_int_index.lookup
  (wbd F.slot_int_rmul (typeIs_int s k t) F.entry_int_rmul (F.args_int_rmul_2 _ _) (int___rmul___int_list k t l its.toArray n)
    ⟨e, rfl, ⟨_, e, rfl⟩, wbd F.slot_list_mul ⟨_, e, rfl⟩ F.entry_list_mul (F.args_list_mul_2 _ _) (AutoListH.list___mul___list_int_3 l its.toArray n k t hfit hcap hlong) ⟨e, ?_⟩⟩)
 rw [hnew]
 exact ⟨.ref _, _, I.lnew (t' := s.toks) (r.rep k.toNat) (by rw [PyProof.Rows.lm_len_rep_flat, Nat.mul_comm]; exact hz), rfl, q _ I.fresh⟩
end
def rT2 (K : PySem.W.Frag) (rx : RX) (W : WX) (f : T → T → Option T) : R2 := fun x y H Q => ∃ F S as σ E C tx ty t, Sim K F S as σ H E C ∧ Vw K S as H x tx ∧ Vw K S as H y ty ∧ f tx ty = some t ∧ Out K rx W F σ E (.ok t C) (RepF K F σ E) S as Q
section
variable {X : Cx} {rx : RX} {W : WX}
theorem jWq : OpR X (binaryOp .Add) (rT2 X.K rx W addT) := by
 refine jDa (opOr op_add (opOr op_add_str (opOr jTd jT3))) fun x y H Q h => ?_
 obtain ⟨F, S, as, σ, E, C, tx, ty, t, sim, r1, r2, ht, out⟩ := h
 cases r1 with
 | int i =>
  cases r2 with
  | int j => cases ht; exact .inl ⟨i, j, rfl, rfl, out.old sim (.int _) (fun _ e => nomatch e) fun _ _ e => nomatch e⟩
  | _ => simp [addT] at ht
 | @str a ga =>
  cases r2 with
  | @str b gb =>
   simp only [addT] at ht
   split at ht
   ·rename_i hz
    cases ht
    have z := jAp hz
    exact .inr (.inl ⟨a, b, rfl, rfl, z, out.old sim (.str (ga.append gb z)) (fun _ e => nomatch e) fun _ _ e => nomatch e⟩)
   ·cases ht
  | _ => simp [addT] at ht
 | @lst a vs ts q z rs =>
  cases r2 with
  | @lst b ws us q2 z2 rs2 =>
   simp only [addT] at ht
   split at ht
   ·rename_i hz
    cases ht
    have z3 := jAp hz
    rw [← rs.length, ← rs2.length] at z3
    exact .inr (.inr (.inl ⟨a, b, vs, ws, rfl, rfl, q, q2, z3, fun p hp => out.newL sim hp (by rw [wav]; exact z3) (rs.append rs2)⟩))
   ·cases ht
  | _ => simp [addT] at ht
 | @tup a vs ts q z rs =>
  cases r2 with
  | @tup b ws us q2 z2 rs2 =>
   simp only [addT] at ht
   split at ht
   ·rename_i hz
    cases ht
    have z3 := jAp hz
    rw [← rs.length, ← rs2.length] at z3
    refine .inr (.inr (.inr ⟨a, b, vs, ws, rfl, rfl, sim.sqT q, sim.sqT q2, z3, fun e => ?_, fun _ e => ?_, fun _ _ => out.newT sim (by rw [wav]; exact z3) (rs.append rs2)⟩))
    ·subst e
     cases rs
     exact out.old sim (.tup q2 z2 rs2) (fun _ e => nomatch e) fun _ _ e => nomatch e
    ·subst e
     cases rs2
     rw [waL] at out
     exact out.old sim (.tup q z rs) (fun _ e => nomatch e) fun _ _ e => nomatch e
   ·cases ht
  | _ => simp [addT] at ht
 | _ => simp [addT] at ht
theorem jJt {i : Int} (h : jE6 i = true) : -(2 ^ 64) < i ∧ i < 2 ^ 64 := by
 unfold jE6 at h
 rw [wab] at h
 exact ⟨waC h.1, waC h.2⟩
theorem jSq {i : Int} (h : med i = true) : -(2 ^ 62) ≤ i ∧ i < 2 ^ 62 := by
 unfold med at h
 rw [wab] at h
 exact ⟨waC h.1, waC h.2⟩
theorem jKh (l : Addr) (items : Array Value) (n : Nat) (dd : Option Addr) (sl : Array (Option Value)) (u : Tok) :
  Meets (Builtin.«tuple.__mul__» ⟨[.ref l, .int 1 u], []⟩) (fun _ R s => s.heap.get? l = some { cls := .type "tuple", dict := dd, data := .seq items n, slots := sl } ∧ R (.ok (.ret (Value.ref l))) s) :=
 .of_wp fun prog w A R s h => by
  obtain ⟨hp, g, d, tk, os⟩ := s
  obtain ⟨hl, h⟩ := h
  have f1 := AutoSeq1.idx_int
  have c0 : (decide ((1 : Int) < -(2 ^ 63)) || decide ((1 : Int) ≥ 2 ^ 63)) = false := by decide
  have c1 : (items.isEmpty || (1 : Int) == 1) = true := by simp
  wp_walk using wpAny_loadPart' hl
  repeat (first
   | (refine wpAny_ite_false (decide_eq_false (by rw [c0]; exact waa)) ?_; wp_walk using wpAny_loadPart' hl)
   | (refine wpAny_ite_true (waU (by rw [c1])) ?_; wp_walk using wpAny_loadPart' hl))
  exact ⟨_, rfl, h⟩
def j9p (K : PySem.W.Frag) : R2 := fun x y H Q => ∃ l k xs, x = .ref l ∧ y = .int k ∧ SqT K H l xs ∧ xs ≠ [] ∧ k ≤ 1000 ∧ xs.length ≤ 1000 ∧ ((k = 1 ∧ Q (.ref l) H) ∨ (2 ≤ k ∧ NewT Q H (List.replicate k.toNat xs).flatten))
theorem jUy : OpR X (binaryOp .Mult) (j9p X.K) := by
 intro pins s σ H x y v u Q I rx ry h
 obtain ⟨l, k, xs, rfl, rfl, hT, hne, h2, hz, q⟩ := h
 cases rx
 obtain ⟨t, rfl⟩ := ry
 obtain ⟨its, r, ⟨⟨cls, dd, data, sl⟩, ho, hc, n, hd⟩, hs⟩ := I.tuple hT
 simp only at hc hd
 subst hc hd
 have hle : its.length = xs.length := r.length.symm
 have hn : its ≠ [] := fun e => hne (by
  rw [e] at hle
  exact wat hle.symm)
 rcases q with ⟨rfl, q⟩ | ⟨h1, q⟩
 ·exact wpAny_binaryOp_repeat_ref (T := "tuple") (U := "int") (by decide) ⟨_, ho, rfl⟩ (fun s' => typeIs_int s' 1 t) noFill_tuple_mul F.fills_int_mul F.slot_int_rmul repeat_tuple F.slot_int_index.lookup
   (wbd F.slot_int_rmul (typeIs_int s 1 t) F.entry_int_rmul (F.args_int_rmul_2 _ _) (int_rmul_tuple 1 t l its.toArray n dd sl)
     ⟨ho, rfl, ⟨_, ho, rfl⟩, wbd F.slot_tuple_mul ⟨_, ho, rfl⟩ F.entry_tuple_mul (F.args_tuple_mul_2 _ _) (jKh l its.toArray n dd sl t) ⟨ho, V.ref l, H, I, rfl, q⟩⟩)
 have hi : its.toArray.isEmpty = false := by
  cases its with
  | nil => exact absurd rfl hn
  | cons a b => rfl
 have hsz0 : its.toArray.size = xs.length := by rw [waI, hle]
 have hm : ((its.toArray.size : Nat) : Int) * k ≤ 1000000 := by
  rw [hsz0]
  have a1 : ((xs.length : Nat) : Int) * k ≤ 1000 * k := Int.mul_le_mul_of_nonneg_right (by omega) (by omega)
  omega
 have flen : (List.replicate k.toNat its).flatten.length ≤ sizeLine := by
  rw [PyProof.Rows.lm_len_rep_flat, hle, waN]
  have a1 : k.toNat * xs.length ≤ 1000 * 1000 := Nat.mul_le_mul (by omega) hz
  omega
 have c0 : (decide (k < -(2 ^ 63)) || decide (k ≥ 2 ^ 63)) = false := by
  rw [decide_eq_false (by omega), decide_eq_false (by omega)] <;> rfl
 have c1 : (its.toArray.isEmpty || k == 1) = false := by
  rw [hi, Bool.false_or]
  exact beq_eq_false_iff_ne.mpr (by omega)
 have c2 : (decide (k ≤ 0) || its.toArray.isEmpty) = false := by
  rw [hi, Bool.or_false]
  exact decide_eq_false (by omega)
 have c4 : Builtin.Tuple.tupleTooMany (((its.toArray.size : Nat) : Int) * k) = false := by
  unfold Builtin.Tuple.tupleTooMany
  rw [waN]
  exact decide_eq_false (by omega)
 refine wpAny_binaryOp_repeat_ref (T := "tuple") (U := "int") (by decide) ⟨_, ho, rfl⟩ (fun s' => typeIs_int s' k t) noFill_tuple_mul F.fills_int_mul F.slot_int_rmul repeat_tuple F.slot_int_index.lookup
  (wbd F.slot_int_rmul (typeIs_int s k t) F.entry_int_rmul (F.args_int_rmul_2 _ _) (int_rmul_tuple k t l its.toArray n dd sl)
    ⟨ho, rfl, ⟨_, ho, rfl⟩, wbd F.slot_tuple_mul ⟨_, ho, rfl⟩ F.entry_tuple_mul (F.args_tuple_mul_2 _ _) (tuple_mulW l its.toArray n dd sl k t c0 c1 c2 (by omega) c4 (by rw [size_rep, waI]; exact flen)) ⟨ho, ?_⟩⟩)
 rw [size_rep]
 exact jO4 I (r.rep k.toNat) (by rw [PyProof.Rows.lm_len_rep_flat, waN]; have a1 : k.toNat * xs.length ≤ 1000 * 1000 := Nat.mul_le_mul (by omega) hz; omega) q
theorem jT5 : OpR X (binaryOp .Mult) (rT2 X.K rx W mulT) := by
 refine jDa (opOr (opOr op_mul jTi) jUy) fun x y H Q h => ?_
 obtain ⟨F, S, as, σ, E, C, tx, ty, t, sim, r1, r2, ht, out⟩ := h
 cases r1 with
 | int i =>
  cases r2 with
  | int j =>
   simp only [mulT] at ht
   split at ht
   ·rename_i hz
    cases ht
    refine .inl (.inl ⟨i, j, rfl, rfl, ?_, out.old sim (.int _) (fun _ e => nomatch e) fun _ _ e => nomatch e⟩)
    rw [waD] at hz
    exact hz.imp jJt jJt
   ·cases ht
  | _ => simp [mulT] at ht
 | @lst a vs ts q z rs =>
  cases r2 with
  | int k =>
   simp only [mulT] at ht
   split at ht
   ·rename_i hz
    cases ht
    rw [wab] at hz
    have z3 := jAp hz.2
    rw [← rs.length] at z3
    obtain ⟨m1, m2⟩ := jSq hz.1
    refine .inl (.inr ⟨a, k, vs, rfl, rfl, q, by omega, by omega, z3, fun p hp => out.newL sim hp ?_ (rs.replicate _)⟩)
    rw [lm_len_rep_flat, Nat.mul_comm]
    exact z3
   ·cases ht
  | _ => simp [mulT] at ht
 | @tup a vs ts q z rs =>
  cases r2 with
  | int k =>
   simp only [mulT] at ht
   split at ht
   ·rename_i hz
    cases ht
    simp only [wab, wac, wam, List.isEmpty_eq_false_iff] at hz
    obtain ⟨⟨⟨z1, z2⟩, z3⟩, z4⟩ := hz
    have hl : vs.length = ts.length := rs.length
    have hne : vs ≠ [] := fun e => z3 (by
     rw [e] at hl
     exact wat hl.symm)
    refine .inr ⟨a, k, vs, rfl, rfl, sim.sqT q, hne, by omega, by omega, ?_⟩
    by_cases e : k = 1
    ·subst e
     refine .inl ⟨rfl, out.old sim ?_ (fun _ e => nomatch e) fun _ _ e => nomatch e⟩
     have : (List.replicate (1 : Int).toNat ts).flatten = ts := by simp
     rw [this]
     exact .tup q z rs
    ·refine .inr ⟨by omega, out.newT sim ?_ (rs.replicate _)⟩
     rw [lm_len_rep_flat, waN]
     have a1 : k.toNat * vs.length ≤ 1000 * 1000 := Nat.mul_le_mul (by omega) (by omega)
     omega
   ·cases ht
  | _ => simp [mulT] at ht
 | _ => simp [mulT] at ht
theorem jWb (op : Operator) : OpR X (binaryOp op) (rT2 X.K rx W (binT op)) := by
 have none : (∀ a b, binT op a b = none) → OpR X (binaryOp op) (rT2 X.K rx W (binT op)) := fun h pins s σ H x y v u Q I _ _ q => by
  obtain ⟨F, S, as, σ, E, C, tx, ty, t, sim, r1, r2, ht, out⟩ := q
  rw [h] at ht; cases ht
 cases op with
 | Add => exact jWq
 | Mult => exact jT5
 | Sub =>
  refine jDa op_sub fun x y H Q h => ?_
  obtain ⟨F, S, as, σ, E, C, tx, ty, t, sim, r1, r2, ht, out⟩ := h
  cases r1 <;> cases r2 <;> simp only [binT] at ht <;> cases ht
  exact ⟨_, _, rfl, rfl, out.old sim (.int _) (fun _ e => nomatch e) fun _ _ e => nomatch e⟩
 | FloorDiv =>
  refine jDa op_fdivN fun x y H Q h => ?_
  obtain ⟨F, S, as, σ, E, C, tx, ty, t, sim, r1, r2, ht, out⟩ := h
  cases r1 <;> cases r2 <;> simp only [binT] at ht <;> first | (cases ht; done) | skip
  split at ht
  ·rename_i hz
   cases ht
   rw [wab] at hz
   exact ⟨_, _, rfl, rfl, ⟨waC hz.1, waC hz.2⟩, out.old sim (.int _) (fun _ e => nomatch e) fun _ _ e => nomatch e⟩
  ·cases ht
 | Mod =>
  refine jDa op_modN fun x y H Q h => ?_
  obtain ⟨F, S, as, σ, E, C, tx, ty, t, sim, r1, r2, ht, out⟩ := h
  cases r1 <;> cases r2 <;> simp only [binT] at ht <;> first | (cases ht; done) | skip
  split at ht
  ·rename_i hz
   cases ht
   exact ⟨_, _, rfl, rfl, waC hz, out.old sim (.int _) (fun _ e => nomatch e) fun _ _ e => nomatch e⟩
  ·cases ht
 | Pow =>
  refine jDa op_pow fun x y H Q h => ?_
  obtain ⟨F, S, as, σ, E, C, tx, ty, t, sim, r1, r2, ht, out⟩ := h
  cases r1 <;> cases r2 <;> simp only [binT] at ht <;> first | (cases ht; done) | skip
  split at ht
  ·rename_i hz
   cases ht
   rw [wab, wab] at hz
   exact ⟨_, _, rfl, rfl, ⟨waC hz.1.1, waC hz.1.2, waC hz.2⟩, out.old sim (.int _) (fun _ e => nomatch e) fun _ _ e => nomatch e⟩
  ·cases ht
 | _ => exact none fun a b => by cases a <;> cases b <;> rfl
end
open PySem.SeqAt PySem.MeetsSeq PySem.Builtin
theorem jIy (a b : Value) : argsOk "dict.__eq__" ⟨[a, b], []⟩ := by unfold argsOk; kernel_rfl
theorem jS6 (l : Addr) (o : Obj) (ho : o.cls = .type "dict") (b : Str) (u : Tok) : Meets (Builtin.«dict.__eq__» ⟨[.ref l, .str b u], []⟩) (fun _ R s => s.heap.get? l = some o ∧ R (.ok (.ret .notImplemented)) s) :=
 .of_wp fun prog w A R s h => by
  obtain ⟨hp, g, d, tk, os⟩ := s
  obtain ⟨hl, h⟩ := h
  have f1 := F.sub_str_dict
  wp_walk using AutoSeq1.wpAny_loadPart' hl, wpAny_load hl
  exact ⟨_, rfl, h⟩
theorem jRy (l : Addr) (o : Obj) (ho : o.cls = .type "dict") (hd : ∃ es n, o.data = .dict es n) (b : Str) (u : Tok) : Meets (Builtin.«str.__eq__» ⟨[.str b u, .ref l], []⟩) (fun _ R s => s.heap.get? l = some o ∧ R (.ok (.ret .notImplemented)) s) :=
 .of_wp fun prog w A R s h => by
  obtain ⟨hp, g, d, tk, os⟩ := s
  obtain ⟨hl, h⟩ := h
  obtain ⟨cls, dd, data, sl⟩ := o
  obtain ⟨es, n, hd⟩ := hd
  simp only at ho hd
  subst ho hd
  wp_walk using AutoSeq1.wpAny_loadPart' hl, wpAny_load hl
  exact ⟨_, rfl, h⟩
section
variable {A : Around} {s : Shared}
theorem jDi {l : Addr} {o : Obj} (ho : s.heap.get? l = some o) (hc : o.cls = .type "dict") (hd : ∃ es n, o.data = .dict es n) (b : Str) (u : Tok) (hu : A.units < cLine) : EqAt A s (.str b u) (.ref l) false := fun prog w E Q h => by
 unfold eqBool
 refine wpAny_holding ?_
 refine wpAny_ite_split (fun hab => absurd (eq_of_beq hab) nofun) (fun _ => ?_)
 refine wao (rc_eq_decline_or (k := false) (typeIs_str s b u) ⟨_, ho, hc⟩ (by decide) F.sub_dict_str F.slot_str_eq_refl F.slot_dict_eq
  (fun _ hq => wbd F.slot_str_eq_refl (typeIs_str s b u) F.entry_str_eq (F.args_str_eq_2 _ _) (jRy l o hc hd b u) ⟨ho, hq⟩)
  (fun _ hq => wbd F.slot_dict_eq ⟨_, ho, hc⟩ F.entry_dict_eq (jIy _ _) (jS6 l o hc b u) ⟨ho, hq⟩)
  (fun _ hq => wpAny_of_eq (rfl : isSame (.str b u) (.ref l) = pure false) hq) (.inr hu) (wpAny_truthy_bool h))
end
section
variable {X : Cx}
def rInE (K : PySem.W.Frag) (neg : Bool) : R2 := fun x y H Q => ∃ a b, ∃ ys : List Str, x = .ref a ∧ Rd H a (.dK []) ∧ y = .ref b ∧ SqL K H b (ys.map V.str) ∧ Q (.bl neg) H
theorem jF7 : ∀ {ys : List Str} {its : List Value}, Vals (ys.map V.str) its → ∀ z ∈ its, ∃ g tk, z = .str g tk
 | [], _, .nil, z, h => nomatch h
 | y :: ys, _, .cons r rs, z, h => by
  rcases waE.mp h with rfl | h
  ·obtain ⟨tk, e⟩ := r
   exact ⟨_, tk, e⟩
  ·exact jF7 rs z h
theorem j1t (hu : X.A.units + 2 < cLine) : OpR X (compareOp .In) (rInE X.K false) := by
 intro pins s σ H x y v u Q I rx ry h
 obtain ⟨a, b, ys, rfl, ha, rfl, hb, q⟩ := h
 obtain rfl : v = Value.ref a := rx
 obtain rfl : u = Value.ref b := ry
 obtain ⟨its, rv, hl, _⟩ := I.list hb
 obtain ⟨_, hsm, vs, kv, dd⟩ := dk_rd I.hok ha
 cases kv
 obtain ⟨o, es, ep, h1, h2, h3, _, hp, _⟩ := dd
 refine in_listAt (fun _ => false) hl.isList (fun z hz => ?_) ?_
 ·obtain ⟨g, tk, rfl⟩ := jF7 rv z (by simpa using hz)
  exact jDi h1 h2.1 ⟨_, _, h3⟩ g tk (by show X.A.units + 1 < _; omega)
 ·have e : its.toArray.any (fun _ => false) = false := by simp
  rw [e]
  exact ⟨.bl false, H, I, rfl, q⟩
theorem jLa (hu : X.A.units + 2 < cLine) : OpR X (compareOp .NotIn) (rInE X.K true) := by
 intro pins s σ H x y v u Q I rx ry h
 obtain ⟨a, b, ys, rfl, ha, rfl, hb, q⟩ := h
 obtain rfl : v = Value.ref a := rx
 obtain rfl : u = Value.ref b := ry
 obtain ⟨its, rv, hl, _⟩ := I.list hb
 obtain ⟨_, hsm, vs, kv, dd⟩ := dk_rd I.hok ha
 cases kv
 obtain ⟨o, es, ep, h1, h2, h3, _, hp, _⟩ := dd
 refine notIn_listAt (fun _ => false) hl.isList (fun z hz => ?_) ?_
 ·obtain ⟨g, tk, rfl⟩ := jF7 rv z (by simpa using hz)
  exact jDi h1 h2.1 ⟨_, _, h3⟩ g tk (by show X.A.units + 1 < _; omega)
 ·have e : its.toArray.any (fun _ => false) = false := by simp
  rw [e]
  exact ⟨.bl true, H, I, rfl, q⟩
end
end SI
namespace SI
open PySem PySem.Spec PyProof.Rows L2
theorem jCt : ∀ xs : List T, toDs xs = xs.map toD
 | [] => by simp [toDs]
 | x :: xs => by simp [toDs, jCt xs]
def rC2 (K : PySem.W.Frag) (rx : RX) (W : WX) (f : T → T → Option Bool) : R2 := fun x y H Q => ∃ F S as σ E C tx ty b, Sim K F S as σ H E C ∧ Vw K S as H x tx ∧ Vw K S as H y ty ∧ f tx ty = some b ∧ Q (.bl b) H
section
variable {X : Cx} {rx : RX} {W : WX}
def jO2 (K : PySem.W.Frag) (neg : Bool) : R2 := fun x y H Q => ∃ d ds, Dp K H x d ∧ Dp K H y (.tuple ds) ∧ SeqAt.shaped d = true ∧ SeqAt.shaped (.tuple ds) = true ∧ Q (.bl (if neg then !(ds.any fun z => PyData.eqv z d) else ds.any fun z => PyData.eqv z d)) H
theorem jPp (hu : X.A.units + 65 < cLine) : OpR X (compareOp .In) (jO2 X.K false) := by
 intro pins s σ H x y v u Q I rx ry h
 obtain ⟨d, ds, hd, he, sd, se, q⟩ := h
 obtain ⟨as, r1⟩ := Dp.reads I d x v hd rx
 obtain ⟨bs, r2⟩ := Dp.reads I (.tuple ds) y u he ry
 exact SeqAt.in_tuple_reads r2 r1 (waO se) (waO sd) (room_in_shaped sd hu) ⟨.bl _, H, I, rfl, q⟩
theorem jHz (hu : X.A.units + 65 < cLine) : OpR X (compareOp .NotIn) (jO2 X.K true) := by
 intro pins s σ H x y v u Q I rx ry h
 obtain ⟨d, ds, hd, he, sd, se, q⟩ := h
 obtain ⟨as, r1⟩ := Dp.reads I d x v hd rx
 obtain ⟨bs, r2⟩ := Dp.reads I (.tuple ds) y u he ry
 exact SeqAt.notIn_tuple_reads r2 r1 (waO se) (waO sd) (room_in_shaped sd hu) ⟨.bl _, H, I, rfl, q⟩
def jRt (neg : Bool) : R2 := fun y x H Q => ∃ a o, x = .ref a ∧ DGet H a y o ∧ Q (.bl (if neg then !o.isSome else o.isSome)) H
theorem jQn (hu : X.A.units + 1 < cLine) : OpR X (compareOp .In) (jRt false) := by
 intro pins s σ H y x u v Q I ry rx h
 obtain ⟨a, o, rfl, g, q⟩ := h
 obtain rfl : v = Value.ref a := rx
 exact d_in hu I g ry fun s' I' => ⟨.bl o.isSome, H, I', rfl, q⟩
theorem jIa (hu : X.A.units + 1 < cLine) : OpR X (compareOp .NotIn) (jRt true) := by
 intro pins s σ H y x u v Q I ry rx h
 obtain ⟨a, o, rfl, g, q⟩ := h
 obtain rfl : v = Value.ref a := rx
 exact d_notIn hu I g ry fun s' I' => ⟨.bl (!o.isSome), H, I', rfl, q⟩
theorem jN4 {kvs : List (Key × V)} {k : Key} : (valV kvs k).isSome = (kvs.map (·.1)).any fun a => decide (a = k) := by
 rw [← valV_any, List.any_map]
 rfl
theorem jH7 {K : PySem.W.Frag} {S H : Hp} {as : List Addr} {v : V} {t : T} {k : Key} (r : Vw K S as H v t) (h : keyT t = some k) : v = kV k ∧ KG k := by
 cases r with
 | int i => cases h; exact ⟨rfl, trivial⟩
 | str g => cases h; exact ⟨rfl, g⟩
 | _ => cases h
section
variable {K : PySem.W.Frag} {F S : Hp} {as : List Addr} {σ : L2.St} {H : Hp} {E : Env} {C : jAa}
theorem inL {a : Addr} {vs : List V} {xs : List T} {x : V} {t : T} (sim : Sim K F S as σ H E C) (q : Rd H a (.lst vs)) (rs : Reps K S as vs xs) (r : Vw K S as H x t) (h1 : dat 60 t = true) (h2 : xs.all (dat 59) = true) :
  ∃ d ds, Dp K H x d ∧ Dp K H (.ref a) (.list ds) ∧ SeqAt.shaped d = true ∧ SeqAt.shaped (.list ds) = true ∧ (ds.any fun z => PyData.eqv z d) = xs.any fun y => PyData.eqv (toD y) (toD t) := by
 have d1 := r.dp sim h1
 obtain ⟨x1, y1, w1⟩ := dps (fun v t r h => Rep.dp sim 59 v t r h) vs xs rs h2
 refine ⟨toD t, toDs xs, d1.dp, .lst (.inl q) x1, d1.shaped (by decide), ?_, ?_⟩
 ·have e := jAn xs w1
  refine wbj.mpr ⟨by simp only [PyData.canLay0]; exact jAm xs y1, waU ?_⟩
  simp only [PyData.depth]
  omega
 ·rw [jCt, List.any_map]
  rfl
theorem inTu {a : Addr} {vs : List V} {xs : List T} {x : V} {t : T} (sim : Sim K F S as σ H E C) (q : SqN K S a vs) (rs : Reps K S as vs xs) (r : Vw K S as H x t) (h1 : dat 60 t = true) (h2 : xs.all (dat 59) = true) :
  ∃ d ds, Dp K H x d ∧ Dp K H (.ref a) (.tuple ds) ∧ SeqAt.shaped d = true ∧ SeqAt.shaped (.tuple ds) = true ∧ (ds.any fun z => PyData.eqv z d) = xs.any fun y => PyData.eqv (toD y) (toD t) := by
 have d1 := r.dp sim h1
 obtain ⟨x1, y1, w1⟩ := dps (fun v t r h => Rep.dp sim 59 v t r h) vs xs rs h2
 refine ⟨toD t, toDs xs, d1.dp, .tup (sim.sqT q) x1, d1.shaped (by decide), ?_, ?_⟩
 ·have e := jAn xs w1
  refine wbj.mpr ⟨by simp only [PyData.canLay0]; exact jAm xs y1, waU ?_⟩
  simp only [PyData.depth]
  omega
 ·rw [jCt, List.any_map]
  rfl
end
theorem jI4 {K : PySem.W.Frag} {S : Hp} {as : List Addr} : ∀ {vs : List V} {xs : List T}, Reps K S as vs xs → xs.all jYk = true → ∃ ys : List Str, vs = ys.map V.str
 | _, _, .nil, _ => ⟨[], rfl⟩
 | _, _, .cons (t := t) r rs, h => by
  rw [waR, wab] at h
  obtain ⟨ys, e⟩ := jI4 rs h.2
  cases r with
  | @str g _ => exact ⟨g :: ys, by rw [e]; rfl⟩
  | _ => cases h.1
theorem jHd {K : PySem.W.Frag} {F S : Hp} {as : List Addr} {σ : L2.St} {H : Hp} {E : Env} {C : jAa} {x y : V} {tx ty : T} {b : Bool} (sim : Sim K F S as σ H E C) (r1 : Vw K S as H x tx) (r2 : Vw K S as H y ty) (h : inT tx ty = some b) :
  (∃ d ds, Dp K H x d ∧ Dp K H y (.list ds) ∧ SeqAt.shaped d = true ∧ SeqAt.shaped (.list ds) = true ∧ (ds.any fun z => PyData.eqv z d) = b) ∨
  (∃ d ds, Dp K H x d ∧ Dp K H y (.tuple ds) ∧ SeqAt.shaped d = true ∧ SeqAt.shaped (.tuple ds) = true ∧ (ds.any fun z => PyData.eqv z d) = b) ∨
  (∃ a o, y = .ref a ∧ DGet H a x o ∧ o.isSome = b) ∨ (∃ i j, x = .str i ∧ y = .str j ∧ (!(Builtin.Str.occurrences j i 0 j.length 1).isEmpty) = b) ∨
  (∃ a b', ∃ ys : List Str, x = .ref a ∧ Rd H a (.dK []) ∧ y = .ref b' ∧ SqL K H b' (ys.map V.str) ∧ b = false) := by
 cases r2 with
 | lst q z rs =>
  simp only [inT] at h
  split at h
  ·rename_i hz
   rw [wab] at hz
   cases h
   obtain ⟨d, ds, a1, a2, a3, a4, a5⟩ := inL sim q rs r1 hz.1 hz.2
   exact .inl ⟨d, ds, a1, a2, a3, a4, a5⟩
  ·split at h
   ·rename_i hz
    rw [wab] at hz
    cases h
    obtain ⟨ys, rfl⟩ := jI4 rs hz.2
    have hk := hz.1
    cases r1 with
    | @dic a kvs ts q0 z g rs0 =>
     cases kvs with
     | nil => exact .inr (.inr (.inr (.inr ⟨_, _, ys, rfl, q0, rfl, .inl q, rfl⟩)))
     | cons p r => simp [noKv] at hk
    | _ => simp [noKv] at hk
   ·cases h
 | tup q z rs =>
  simp only [inT] at h
  split at h
  ·rename_i hz
   rw [wab] at hz
   cases h
   obtain ⟨d, ds, a1, a2, a3, a4, a5⟩ := inTu sim q rs r1 hz.1 hz.2
   exact .inr (.inl ⟨d, ds, a1, a2, a3, a4, a5⟩)
  ·cases h
 | @dic a kvs ts q z g rs =>
  simp only [inT, wae] at h
  obtain ⟨k, hk, e⟩ := h
  obtain ⟨e1, _⟩ := jH7 r1 hk
  subst e1
  exact .inr (.inr (.inl ⟨a, valV kvs k, rfl, .inl ⟨kvs, k, q, rfl, rfl⟩, by rw [jN4]; exact e⟩))
 | str g =>
  cases r1 with
  | str g1 => simp only [inT] at h; cases h; exact .inr (.inr (.inr (.inl ⟨_, _, rfl, rfl, rfl⟩)))
  | _ => simp [inT] at h
 | _ => simp [inT] at h
theorem jG8 {K : PySem.W.Frag} {S : Hp} {as : List Addr} {k : Key} : ∀ {kvs : List (Key × V)} {ts : List T}, Reps K S as (kvs.map (·.2)) ts → (valV kvs k = none ∧ jCy k (kvs.map (·.1)) ts = none) ∨ ∃ v t, valV kvs k = some v ∧ jCy k (kvs.map (·.1)) ts = some t ∧ t ∈ ts ∧ Rep K S as v t
 | [], _, .nil => .inl ⟨rfl, rfl⟩
 | (k', v) :: kvs, t :: ts, .cons r rs => by
  by_cases e : k' = k
  ·refine .inr ⟨v, t, valV_pos (p := (k', v)) e, ?_, wah, r⟩
   simp [jCy, e]
  ·have e1 : valV ((k', v) :: kvs) k = valV kvs k := valV_neg (p := (k', v)) e
   have e2 : jCy k (((k', v) :: kvs).map (·.1)) (t :: ts) = jCy k (kvs.map (·.1)) ts := by simp [jCy, e]
   rw [e1, e2]
   rcases jG8 rs with h | ⟨v2, t2, h1, h2, h3, h4⟩
   ·exact .inl h
   ·exact .inr ⟨v2, t2, h1, h2, wak _ h3, h4⟩
theorem jI7 {pins : List (Addr × Obj)} {σ0 : L2.St} {F S : Hp} {as : List Addr} {σ : L2.St} {H : Hp} {E : Env} {C : jAa} {s : Shared} (hu : X.A.units + 65 < cLine) (I : Inv X pins σ0 H s) (sim : Sim X.K F S as σ H E C)
  {ls : List (Key × V)} {lb : List (Key × Value)} {ys : List T} (rb : KV ls lb) (rys : Reps X.K S as (ls.map (·.2)) ys) (d2 : ys.all (dat 50) = true) :
  ∀ (kvs : List (Key × V)) (va : List (Key × Value)) (xs : List T), KV kvs va → Reps X.K S as (kvs.map (·.2)) xs → xs.all (dat 50) = true →
   PySem.W.KeqHits X.A.in1 s lb va (((kvs.map (·.1)).zip xs).all fun p => match jCy p.1 (ls.map (·.1)) ys with | some u => PyData.eqv (toD p.2) (toD u) | none => false)
 | [], [], [], _, _, _ => .nil
 | (k, v) :: kvs, (k2, w2) :: va, x :: xs, .cons ⟨ek, rv⟩ r, .cons rx rxs, d => by
  obtain rfl : k = k2 := ek
  have d : (dat 50 x && xs.all (dat 50)) = true := d
  rw [wab] at d
  have ih := jI7 hu I sim rb rys d2 kvs va xs r rxs d.2
  have hv := rb.val k
  simp only [war, List.zip_cons_cons, waR]
  rcases jG8 (k := k) rys with ⟨h1, h2⟩ | ⟨v2, u, h1, h2, h3, h4⟩
  ·rw [h1] at hv
   rw [h2]
   cases e : valueAt lb k with
   | some z => rw [e] at hv; exact hv.elim
   | none => exact .miss e
  ·rw [h1] at hv
   rw [h2]
   cases e : valueAt lb k with
   | none => rw [e] at hv; exact hv.elim
   | some z =>
    rw [e] at hv
    have q1 := rx.dp sim 50 _ _ d.1
    have q2 := h4.dp sim 50 _ _ (wag.mp d2 u h3)
    obtain ⟨as1, r1⟩ := Dp.reads I _ _ _ q1.dp rv
    obtain ⟨as2, r2⟩ := Dp.reads I _ _ _ q2.dp hv
    refine .hit e (PySem.SeqAt.eqAt_reads _ _ _ _ _ _ _ _ r1 r2 q1.lay q2.lay ?_) ih
    have := q1.dep
    have h5 := Nat.min_le_left (toD x).depth (toD u).depth
    show X.A.units + 1 + _ < cLine
    omega
theorem jS2 (neg : Bool) (hu : X.A.units + 65 < cLine) : OpR X (compareOp (if neg then .NotEq else .Eq)) (rC2 X.K rx W (cmpT (if neg then .NotEq else .Eq))) := by
 have hu0 : X.A.units + 64 < cLine := by omega
 intro pins s σ H x y v u Q I rx ry h
 obtain ⟨F, S, as, σ', E, C, tx, ty, b, sim, r1, r2, ht, q⟩ := h
 have ht' : ∃ b', eqT tx ty = some b' ∧ b = if neg then !b' else b' := by
  cases neg with
  | false => exact ⟨b, show eqT tx ty = some b from ht, rfl⟩
  | true =>
   obtain ⟨b', e1, e2⟩ := wae.mp (show (eqT tx ty).map (!·) = some b from ht)
   exact ⟨b', e1, e2.symm⟩
 obtain ⟨b', ht2, rfl⟩ := ht'
 clear ht
 unfold eqT at ht2
 split at ht2
 ·rename_i hz
  rw [wab] at hz
  cases ht2
  have d1 := r1.dp sim hz.1
  have d2 := r2.dp sim hz.2
  cases neg with
  | false => exact op_eqD hu0 pins s σ H x y v u Q I rx ry ⟨_, _, d1.dp, d2.dp, d1.shaped (by decide), d2.shaped (by decide), q⟩
  | true => exact op_neD hu0 pins s σ H x y v u Q I rx ry ⟨_, _, d1.dp, d2.dp, d1.shaped (by decide), d2.shaped (by decide), q⟩
 ·cases r1 with
  | @dic a kvs xs e1 z1 g1 rs1 =>
   cases r2 with
   | @dic c ls ys e2 z2 g2 rs2 =>
    simp only [jQa] at ht2
    split at ht2
    ·rename_i hz
     rw [wab] at hz
     have ht2 := waA ht2
     obtain rfl : v = Value.ref a := rx
     obtain rfl : u = Value.ref c := ry
     obtain ⟨_, ya, va, ra, da⟩ := dk_rd I.hok e1
     obtain ⟨_, yb, vb, rb, db⟩ := dk_rd I.hok e2
     have hits := jI7 hu I sim rb rs2 hz.2 kvs va xs ra rs1 hz.1
     have hl : (va.length == vb.length) = decide (kvs.length = ls.length) := by
      rw [← Paired.length ra, ← Paired.length rb]
      by_cases e : kvs.length = ls.length <;> simp [e]
     rw [waw, waw] at ht2
     cases neg with
     | false => exact PySem.W.keq_eq (knd := mixKind X.prog X.w) ya yb da db (by omega) (fun _ => hits) (by rw [hl]; subst ht2; exact ⟨.bl _, H, I, rfl, q⟩)
     | true => exact PySem.W.keq_ne (knd := mixKind X.prog X.w) ya yb da db (by omega) (fun _ => hits) (by rw [hl]; subst ht2; exact ⟨.bl _, H, I, rfl, q⟩)
    ·cases ht2
   | _ => cases ht2
  | @lst a vs xs e1 z1 rs1 =>
   cases r2 with
   | @lst c ws ys e2 z2 rs2 =>
    simp only [jQa] at ht2
    split at ht2
    ·cases ht2
    ·rename_i hz
     cases ht2
     obtain rfl : v = Value.ref a := rx
     obtain rfl : u = Value.ref c := ry
     obtain ⟨i1, v1, ⟨o1, n1, h1, c1, _, d1⟩, _⟩ := I.list (.inl e1)
     obtain ⟨i2, v2, ⟨o2, n2, h2, c2, _, d2⟩, _⟩ := I.list (.inl e2)
     have l1 : i1.length = xs.length := by rw [← Paired.length v1, rs1.length]
     have l2 : i2.length = ys.length := by rw [← Paired.length v2, rs2.length]
     have hne : (i1.toArray.size != i2.toArray.size) = true := by
      simp only [waI, bne_iff_ne, ne_eq]
      omega
     cases neg with
     | false => exact EqBoolInt.of_rc (SeqAt.RcAt.lists_lengths (A := X.A) ⟨_, h1, c1, _, d1⟩ ⟨_, h2, c2, _, d2⟩ hne (by omega)) ⟨.bl _, H, I, rfl, q⟩
     | true => exact EqBoolInt.of_rcne (SeqAt.RcNeAt.lists_lengths (A := X.A) ⟨_, h1, c1, _, d1⟩ ⟨_, h2, c2, _, d2⟩ hne (by omega)) ⟨.bl _, H, I, rfl, q⟩
   | _ => cases ht2
  | @tup a vs xs e1 z1 rs1 =>
   cases r2 with
   | @tup c ws ys e2 z2 rs2 =>
    simp only [jQa] at ht2
    split at ht2
    ·rename_i hz
     cases ht2
     simp only [wab, wam, waQ, List.isEmpty_eq_false_iff] at hz
     obtain ⟨hz1, hz2⟩ := hz
     subst hz1
     cases xs with
     | nil => exact absurd rfl hz2
     | cons x0 xs =>
      obtain rfl : v = Value.ref a := rx
      obtain rfl : u = Value.ref c := ry
      obtain ⟨i1, v1, ⟨o1, h1, c1, n1, d1⟩, _⟩ := I.tuple (sim.sqT e1)
      obtain ⟨i2, v2, ⟨o2, h2, c2, n2, d2⟩, _⟩ := I.tuple (sim.sqT e2)
      have l1 : i1.length = (x0 :: xs).length := by rw [← Paired.length v1, rs1.length]
      have l2 : i2.length = ([] : List T).length := by rw [← Paired.length v2, rs2.length]
      rw [waq] at l1
      rw [List.length_nil] at l2
      have z2 : i2.toArray.size = 0 := by rw [waI, l2]
      have ev : ((List.range (min i1.toArray.size i2.toArray.size)).all (fun _ => true) && i1.toArray.size == i2.toArray.size) = false := by
       rw [z2, waI, l1]
       simp
      cases neg with
      | false => exact EqBoolInt.of_rc (SeqAt.RcAt.tuples (A := X.A) (e := fun _ => true) ⟨_, h1, c1, _, d1⟩ ⟨_, h2, c2, _, d2⟩ (by omega) (fun j _ hj => absurd hj (by rw [z2]; omega))) (by rw [ev]; exact ⟨.bl _, H, I, rfl, q⟩)
      | true => exact EqBoolInt.of_rcne (SeqAt.RcNeAt.tuples (A := X.A) (e := fun _ => true) ⟨_, h1, c1, _, d1⟩ ⟨_, h2, c2, _, d2⟩ (by omega) (fun j _ hj => absurd hj (by rw [z2]; omega))) (by rw [ev]; exact ⟨.bl _, H, I, rfl, q⟩)
    ·cases ht2
   | _ => cases ht2
  | _ => cases ht2
theorem jDs (hu : X.A.units + 65 < cLine) (op : CmpOp) : OpR X (compareOp op) (rC2 X.K rx W (cmpT op)) := by
 have hu0 : X.A.units + 64 < cLine := by omega
 have hu1 : X.A.units + 1 < cLine := by omega
 cases op with
 | Eq => exact jS2 false hu
 | NotEq => exact jS2 true hu
 | Lt =>
  refine jDa op_lt fun x y H Q h => ?_
  obtain ⟨F, S, as, σ, E, C, tx, ty, b, sim, r1, r2, ht, q⟩ := h
  cases r1 <;> cases r2 <;> simp only [cmpT] at ht <;> cases ht
  exact ⟨_, _, rfl, rfl, q⟩
 | LtE =>
  refine jDa op_le fun x y H Q h => ?_
  obtain ⟨F, S, as, σ, E, C, tx, ty, b, sim, r1, r2, ht, q⟩ := h
  cases r1 <;> cases r2 <;> simp only [cmpT] at ht <;> cases ht
  exact ⟨_, _, rfl, rfl, q⟩
 | Gt =>
  refine jDa op_gt fun x y H Q h => ?_
  obtain ⟨F, S, as, σ, E, C, tx, ty, b, sim, r1, r2, ht, q⟩ := h
  cases r1 <;> cases r2 <;> simp only [cmpT] at ht <;> cases ht
  exact ⟨_, _, rfl, rfl, q⟩
 | GtE =>
  refine jDa op_ge fun x y H Q h => ?_
  obtain ⟨F, S, as, σ, E, C, tx, ty, b, sim, r1, r2, ht, q⟩ := h
  cases r1 <;> cases r2 <;> simp only [cmpT] at ht <;> cases ht
  exact ⟨_, _, rfl, rfl, q⟩
 | Is =>
  refine jDa (opOr op_isN op_isBl) fun x y H Q h => ?_
  obtain ⟨F, S, as, σ, E, C, tx, ty, b, sim, r1, r2, ht, q⟩ := h
  simp only [cmpT] at ht
  cases r2 with
  | non =>
   refine .inl ⟨rfl, ?_⟩
   cases r1 <;> simp only [isT] at ht <;> cases ht <;> simpa using q
  | bl b2 =>
   cases r1 <;> simp only [isT] at ht <;> first | (cases ht; done) | skip
   cases ht
   exact .inr ⟨_, _, rfl, rfl, by rw [← Bool.beq_eq_decide_eq]; exact q⟩
  | _ => cases r1 <;> simp only [isT] at ht <;> cases ht
 | IsNot =>
  refine jDa (opOr op_notN op_notBl) fun x y H Q h => ?_
  obtain ⟨F, S, as, σ, E, C, tx, ty, b, sim, r1, r2, ht, q⟩ := h
  simp only [cmpT] at ht
  cases r2 with
  | non =>
   refine .inl ⟨rfl, ?_⟩
   cases r1 <;> simp only [isT, Option.map] at ht <;> cases ht <;> simpa using q
  | bl b2 =>
   cases r1 <;> simp only [isT, Option.map] at ht <;> first | (cases ht; done) | skip
   cases ht
   exact .inr ⟨_, _, rfl, rfl, by rw [← Bool.beq_eq_decide_eq]; exact q⟩
  | _ => cases r1 <;> simp only [isT, Option.map] at ht <;> cases ht
 | In =>
  refine jDa (opOr (op_inD hu) (opOr (jPp hu) (opOr (jQn hu1) (opOr op_in_str (j1t (by omega)))))) fun x y H Q h => ?_
  obtain ⟨F, S, as, σ, E, C, tx, ty, b, sim, r1, r2, ht, q⟩ := h
  simp only [cmpT] at ht
  rcases jHd sim r1 r2 ht with ⟨d, ds, a1, a2, a3, a4, a5⟩ | ⟨d, ds, a1, a2, a3, a4, a5⟩ | ⟨a, o, e, g, a5⟩ | ⟨i, j, e1, e2, a5⟩ | ⟨a, b', ys, e1, e2, e3, e4, a5⟩
  ·exact .inl ⟨d, ds, a1, a2, a3, a4, by rw [a5]; exact q⟩
  ·exact .inr (.inl ⟨d, ds, a1, a2, a3, a4, by simp only [wa2, if_false]; rw [a5]; exact q⟩)
  ·exact .inr (.inr (.inl ⟨a, o, e, g, by simp only [wa2, if_false]; rw [a5]; exact q⟩))
  ·exact .inr (.inr (.inr (.inl ⟨i, j, e1, e2, by rw [a5]; exact q⟩)))
  ·exact .inr (.inr (.inr (.inr ⟨a, b', ys, e1, e2, e3, e4, by rw [a5] at q; exact q⟩)))
 | NotIn =>
  refine jDa (opOr (op_notInD hu) (opOr (jHz hu) (opOr (jIa hu1) (opOr op_notin_str (jLa (by omega)))))) fun x y H Q h => ?_
  obtain ⟨F, S, as, σ, E, C, tx, ty, b, sim, r1, r2, ht, q⟩ := h
  simp only [cmpT, wae] at ht
  obtain ⟨b', hb, rfl⟩ := ht
  rcases jHd sim r1 r2 hb with ⟨d, ds, a1, a2, a3, a4, a5⟩ | ⟨d, ds, a1, a2, a3, a4, a5⟩ | ⟨a, o, e, g, a5⟩ | ⟨i, j, e1, e2, a5⟩ | ⟨a, b', ys, e1, e2, e3, e4, a5⟩
  ·exact .inl ⟨d, ds, a1, a2, a3, a4, by rw [a5]; exact q⟩
  ·exact .inr (.inl ⟨d, ds, a1, a2, a3, a4, by simp only [if_true]; rw [a5]; exact q⟩)
  ·exact .inr (.inr (.inl ⟨a, o, e, g, by simp only [if_true]; rw [a5]; exact q⟩))
  ·exact .inr (.inr (.inr (.inl ⟨i, j, e1, e2, by rw [a5]; exact q⟩)))
  ·exact .inr (.inr (.inr (.inr ⟨a, b', ys, e1, e2, e3, e4, by rw [a5] at q; exact q⟩)))
end
section
variable (Φ : Calls) (E : Env)
theorem jRi (i : Nat) : ev Φ (.var i) E = lift "var" (getE E i) := rfl
theorem jSy (op : Operator) (a b : Ex) : ev Φ (.bin op a b) E = M.bind (ev Φ a E) fun x => M.bind (ev Φ b E) fun y => lift "bin" (binT op x y) := rfl
theorem jRu (a : Ex) : ev Φ (.neg a) E = M.bind (ev Φ a E) fun x => lift "neg" ((intT x).map fun i => .int (-i)) := rfl
theorem jQr (a : Ex) : ev Φ (.nt a) E = M.bind (ev Φ a E) fun x => M.bind (truM Φ x) fun b => M.pure (.bl (!b)) := rfl
theorem jFh (op : CmpOp) (a b : Ex) : ev Φ (.cmp op a b) E = M.bind (ev Φ a E) fun x => M.bind (ev Φ b E) fun y => M.bind (cmpM Φ op x y) fun k => M.pure (.bl k) := rfl
theorem jJq (op op' : CmpOp) (a b c : Ex) : ev Φ (.chain op op' a b c) E = M.bind (ev Φ a E) fun x => M.bind (ev Φ b E) fun y => M.bind (cmpM Φ op x y) fun k => if k = true then (M.bind (ev Φ c E) fun z => M.bind (cmpM Φ op' y z) fun k => M.pure (.bl k)) else M.pure (.bl false) := rfl
theorem jHr (a b : Ex) : ev Φ (.and a b) E = M.bind (ev Φ a E) fun x => M.bind (truM Φ x) fun k => if k = true then ev Φ b E else M.pure x := rfl
theorem jUl (a b : Ex) : ev Φ (.or a b) E = M.bind (ev Φ a E) fun x => M.bind (truM Φ x) fun k => if k = true then M.pure x else ev Φ b E := rfl
theorem jI3 (c a b : Ex) : ev Φ (.ite c a b) E = M.bind (ev Φ c E) fun x => M.bind (truM Φ x) fun k => if k = true then ev Φ a E else ev Φ b E := rfl
theorem jRs (a b : Ex) : ev Φ (.idx a b) E = M.bind (ev Φ a E) fun x => M.bind (ev Φ b E) fun y => M.bind (deref x) fun z => lift "idx" (idxT z y) := rfl
theorem jS0 (l h : Bool) (a b c : Ex) : ev Φ (.slc l h a b c) E = M.bind (ev Φ a E) fun x => M.bind (jCg l (ev Φ b E)) fun l => M.bind (jCg h (ev Φ c E)) fun h => lift "slc" (slcT x l h) := rfl
theorem zCw (a : Ex) : ev Φ (.rev a) E = M.bind (ev Φ a E) fun x => lift "rev" (revT x) := rfl
theorem jSs (es : Els) : ev Φ (.tup es) E = M.bind (evL Φ es E) fun ts => if szOk ts.length = true then M.pure (.tup ts) else stuck "size" := rfl
theorem jL0 (es : Els) : ev Φ (.lst es) E = M.bind (evL Φ es E) fun ts => if szOk ts.length = true then M.pure (.lst ts) else stuck "size" := rfl
end
def rS (K : PySem.W.Frag) : RR (List V) (List T) := fun _ _ _ S as _ v t => Reps K S as v t
section
variable {K : PySem.W.Frag} {rx : RX} {W : WX} {F S : Hp} {as : List Addr} {σ : L2.St} {H : Hp} {E : Env} {C : jAa} {α β α' β' : Type}
theorem Out.ifB {b : Bool} {x y : M α'} {R : Hp → List Addr → Hp → β' → α' → Prop} {Q : β' → Hp → Prop} (h : Out K rx W F σ E ((if b = true then x else y) C) R S as Q) : (b = true ∧ Out K rx W F σ E (x C) R S as Q) ∨ (b = false ∧ Out K rx W F σ E (y C) R S as Q) := by
 cases b with
 | true => exact .inl ⟨rfl, h⟩
 | false => exact .inr ⟨rfl, h⟩
theorem jWe (n : Nat) : (n != 0) = ((n : Int) != 0) := by
 cases n with
 | zero => rfl
 | succ n => simp; omega
theorem jGl {v : V} {t : T} {k : Bool} (sim : Sim K F S as σ H E C) (r : Vw K S as H v t) (h : truT t = some k) : TruV K v H k := by
 cases r with
 | non => cases h; exact rfl
 | bl b => cases h; exact rfl
 | int i => cases h; exact rfl
 | @str x g =>
  refine ⟨g.len, ?_⟩
  cases h
  exact jWe _
 | tup q z rs => cases h; exact .inr (.inl ⟨_, sim.sqT q, by cases rs <;> rfl⟩)
 | lst q z rs => cases h; exact .inl ⟨_, .inl q, by cases rs <;> rfl⟩
 | _ => cases h
structure OkR (K : PySem.W.Frag) (R : RR V T) : Prop where
 vw : ∀ {F S H0 : Hp} {as : List Addr} {σ : L2.St} {H : Hp} {E : Env} {C : jAa} {v : V} {t : T}, R F σ E S as H0 v t → Sim K F S as σ H E C → Vw K S as H v t
 mono : ∀ {F S S' H0 H1 : Hp} {as as' : List Addr} {σ : L2.St} {E : Env} {v : V} {t : T}, R F σ E S as H0 v t → Le S S' → as <+: as' → R F σ E S' as' H1 v t
theorem okE : OkR K (rE K) := ⟨fun r s => Rep.vw r s, fun r l p => Rep.mono l p r⟩
theorem okW : OkR K (rW K) := ⟨fun r s => RepW.vw r s, fun r l p => RepW.mono r l p⟩
end
section
variable {X : Cx} {rx : RX} {W : WX} {Φ : Calls} {a b c : Expr} {xa xb xc : Ex} {pos : Pos}
theorem jAq {e : Expr} {t t' : TE} (h : PE X e t) (k : ∀ σ H Q, t' σ H Q → t σ H Q) : PE X e t' := ⟨fun pins s σ H Q I q => h.run pins s σ H Q I (k _ _ _ q)⟩
theorem jRc {e : Expr} {t t' : TT} (h : PT X e t) (k : ∀ σ H Q, t' σ H Q → t σ H Q) : PT X e t' := ⟨fun pins s σ H Q I q => h.run pins s σ H Q I (k _ _ _ q)⟩
theorem peDE {e : Expr} {x : Ex} (h : PE X e (DF X.K rx W Φ x)) : PE X e (DE X.K rx W Φ x) := jAq h fun _ _ _ ⟨F, S, as, E, C, sim, no, out⟩ => ⟨F, S, as, E, C, sim, no, out.settle⟩
theorem peDW {e : Expr} {x : Ex} (h : PE X e (DE X.K rx W Φ x)) (q : trE x = escE x) : PE X e (DW X.K rx W Φ x) := jAq h fun _ _ _ ⟨F, S, as, E, C, sim, no, out⟩ =>
 ⟨F, S, as, E, C, sim, by rw [← q]; exact no, out.imp fun _ _ _ _ _ r => .inl r⟩
theorem jFq {E : Env} {i : Nat} {t : T} (h : getE E i = some t) : E[i]? = some (.sh t) ∨ E[i]? = some (.ow t) := by
 unfold getE at h
 split at h
 ·rename_i u e; cases h; exact .inl e
 ·rename_i u e; cases h; exact .inr e
 ·cases h
theorem jE1 {i : Nat} {x : Str} (hN : X.N[i]? = some x) (hv : Vis X.env.scope x) (hd : (x == ("__debug__" : Str)) = false) (hcd : (x == ("__classdict__" : Str)) = false) : PE X (.Name x pos) (DE X.K rx W Φ (.var i)) := by
 refine jAq (pe_var hN hv hd hcd) fun σ H Q ⟨F, S, as, E, C, sim, no, out⟩ => ?_
 obtain ⟨t, ht, out⟩ := out.lift
 rcases jFq ht with e | e
 ·obtain ⟨v, ev, r⟩ := sim.sh i t e
  exact ⟨v, ev, out.here sim r⟩
 ·exact absurd e (no i (by simp [escE]) t)
theorem jC1 {i : Nat} {x : Str} (hN : X.N[i]? = some x) (hv : Vis X.env.scope x) (hd : (x == ("__debug__" : Str)) = false) (hcd : (x == ("__classdict__" : Str)) = false) : PE X (.Name x pos) (DW X.K rx W Φ (.var i)) := by
 refine jAq (pe_var hN hv hd hcd) fun σ H Q ⟨F, S, as, E, C, sim, no, out⟩ => ?_
 obtain ⟨t, ht, out⟩ := out.lift
 rcases jFq ht with e | e
 ·obtain ⟨v, ev, r⟩ := sim.sh i t e
  exact ⟨v, ev, out.here sim (.inl r)⟩
 ·obtain ⟨a, u, ev, _⟩ := sim.ow i t e
  exact ⟨_, ev, out.here sim (.inr ⟨i, e, ev⟩)⟩
theorem jBn {e : Expr} {t : T} {v : V} (h : PE X e (tC v)) (r : ∀ S as, Rep X.K S as v t) : PE X e (DE X.K rx W Φ (.con t)) :=
 jAq h fun σ H Q ⟨F, S, as, E, C, sim, no, out⟩ => out.here sim (r S as)
theorem jV1 {op : Operator} (ha : PE X a (DW X.K rx W Φ xa)) (hb : PE X b (DW X.K rx W Φ xb)) : PE X (.BinOp a op b pos) (DF X.K rx W Φ (.bin op xa xb)) := by
 refine jAq (pe_op (jWb (rx := rx) (W := W) op) ha hb) fun σ H Q ⟨F, S, as, E, C, sim, no, out⟩ => ?_
 rw [jSy] at out
 refine ⟨F, S, as, E, C, sim, no.left, out.bind fun v t S1 as1 H1 C1 l1 p1 sim1 r1 out1 => ⟨F, S1, as1, E, C1, sim1, no.right, out1.bind fun u t2 S2 as2 H2 C2 l2 p2 sim2 r2 out2 => ?_⟩⟩
 obtain ⟨t3, ht, out3⟩ := out2.lift
 exact ⟨F, S2, as2, σ, E, C2, t, t2, t3, sim2, (r1.mono l2 p2 (H1 := H2)).vw sim2, r2.vw sim2, ht, out3⟩
theorem jUj (ha : PE X a (DW X.K rx W Φ xa)) : PE X (.UnaryOp .USub a pos) (DE X.K rx W Φ (.neg xa)) := by
 refine jAq (pe_un un_neg ha) fun σ H Q ⟨F, S, as, E, C, sim, no, out⟩ => ?_
 rw [jRu] at out
 refine ⟨F, S, as, E, C, sim, no, out.bind fun v t S1 as1 H1 C1 l1 p1 sim1 r1 out1 => ?_⟩
 obtain ⟨t3, ht, out3⟩ := out1.lift
 have r := r1.vw sim1
 cases r <;> simp only [intT, Option.map] at ht <;> first | (cases ht; done) | skip
 cases ht
 exact ⟨_, rfl, out3.here sim1 (.int _)⟩
theorem jMe (ha : PE X a (DW X.K rx W Φ xa)) : PE X (.UnaryOp .Not a pos) (DE X.K rx W Φ (.nt xa)) := by
 refine jAq (pe_notT ha) fun σ H Q ⟨F, S, as, E, C, sim, no, out⟩ => ?_
 rw [jQr] at out
 refine ⟨F, S, as, E, C, sim, no, out.bind fun v t S1 as1 H1 C1 l1 p1 sim1 r1 out1 => ?_⟩
 obtain ⟨k, hk, out2⟩ := out1.liftB
 exact ⟨k, jGl sim1 (r1.vw sim1) hk, out2.here sim1 (.bl _)⟩
theorem jDo {op : CmpOp} (hu : X.A.units + 65 < cLine) (hm : behindInMarks op b = false) (ha : PE X a (DW X.K rx W Φ xa)) (hb : PE X b (DW X.K rx W Φ xb)) : PE X (.Compare a [op] [b] pos) (DE X.K rx W Φ (.cmp op xa xb)) := by
 refine jAq (pe_cmpR (jDs (rx := rx) (W := W) hu op) ha hb hm) fun σ H Q ⟨F, S, as, E, C, sim, no, out⟩ => ?_
 rw [jFh] at out
 refine ⟨F, S, as, E, C, sim, no.left, out.bind fun v t S1 as1 H1 C1 l1 p1 sim1 r1 out1 => ⟨F, S1, as1, E, C1, sim1, no.right, out1.bind fun u t2 S2 as2 H2 C2 l2 p2 sim2 r2 out2 => ?_⟩⟩
 obtain ⟨k, ht, out3⟩ := out2.liftB
 exact ⟨F, S2, as2, σ, E, C2, t, t2, k, sim2, (r1.mono l2 p2 (H1 := H2)).vw sim2, r2.vw sim2, ht, out3.here sim2 (.bl k)⟩
theorem jC8 {op op' : CmpOp} (hu : X.A.units + 65 < cLine) (hm : lastMarks [op, op'] [b, c] = false) (ha : PE X a (DW X.K rx W Φ xa)) (hb : PE X b (DW X.K rx W Φ xb)) (hc : PE X c (DW X.K rx W Φ xc)) :
  PE X (.Compare a [op, op'] [b, c] pos) (DE X.K rx W Φ (.chain op op' xa xb xc)) := by
 refine jAq (pe_chain (jDs (rx := rx) (W := W) hu op) (jDs (rx := rx) (W := W) hu op') ha hb hc hm) fun σ H Q ⟨F, S, as, E, C, sim, no, out⟩ => ?_
 rw [jJq] at out
 refine ⟨F, S, as, E, C, sim, no.left.left, out.bind fun v t S1 as1 H1 C1 l1 p1 sim1 r1 out1 => ⟨F, S1, as1, E, C1, sim1, no.left.right, out1.bind fun u t2 S2 as2 H2 C2 l2 p2 sim2 r2 out2 => ?_⟩⟩
 obtain ⟨k, ht, out3⟩ := out2.liftB
 refine ⟨F, S2, as2, σ, E, C2, t, t2, k, sim2, (r1.mono l2 p2 (H1 := H2)).vw sim2, r2.vw sim2, ht, k, rfl, ?_⟩
 rcases out3.ifB with ⟨e, out4⟩ | ⟨e, out4⟩
 ·rw [if_pos e]
  refine ⟨F, S2, as2, E, C2, sim2, no.right, out4.bind fun z t3 S3 as3 H3 C3 l3 p3 sim3 r3 out5 => ?_⟩
  obtain ⟨k2, ht2, out6⟩ := out5.liftB
  exact ⟨F, S3, as3, σ, E, C3, t2, t3, k2, sim3, (r2.mono l3 p3 (H1 := H3)).vw sim3, r3.vw sim3, ht2, out6.here sim3 (.bl k2)⟩
 ·rw [if_neg (by rw [e]; exact waa)]
  exact out4.here sim2 (.bl false)
theorem jFz {rest : List Expr} {R : RR V T} (ok : OkR X.K R) {is js : List Nat} (ha : PE X a (Dn X.K rx W is (ev Φ xa) R)) (hb : PE X (.BoolOp .And (b :: rest) pos) (Dn X.K rx W js (ev Φ xb) R)) :
  PE X (.BoolOp .And (a :: b :: rest) pos) (Dn X.K rx W (is ++ js) (ev Φ (.and xa xb)) R) := by
 refine jAq (pe_andT ha hb) fun σ H Q ⟨F, S, as, E, C, sim, no, out⟩ => ?_
 rw [jHr] at out
 refine ⟨F, S, as, E, C, sim, no.left, out.bind fun v t S1 as1 H1 C1 l1 p1 sim1 r1 out1 => ?_⟩
 obtain ⟨k, hk, out2⟩ := out1.liftB
 refine ⟨k, jGl sim1 (ok.vw r1 sim1) hk, ?_⟩
 rcases out2.ifB with ⟨e, out4⟩ | ⟨e, out4⟩
 ·rw [if_pos e]
  exact ⟨F, S1, as1, E, C1, sim1, no.right, out4⟩
 ·rw [if_neg (by rw [e]; exact waa)]
  exact out4.here sim1 r1
theorem jJl {rest : List Expr} {R : RR V T} (ok : OkR X.K R) {is js : List Nat} (ha : PE X a (Dn X.K rx W is (ev Φ xa) R)) (hb : PE X (.BoolOp .Or (b :: rest) pos) (Dn X.K rx W js (ev Φ xb) R)) :
  PE X (.BoolOp .Or (a :: b :: rest) pos) (Dn X.K rx W (is ++ js) (ev Φ (.or xa xb)) R) := by
 refine jAq (pe_orT ha hb) fun σ H Q ⟨F, S, as, E, C, sim, no, out⟩ => ?_
 rw [jUl] at out
 refine ⟨F, S, as, E, C, sim, no.left, out.bind fun v t S1 as1 H1 C1 l1 p1 sim1 r1 out1 => ?_⟩
 obtain ⟨k, hk, out2⟩ := out1.liftB
 refine ⟨k, jGl sim1 (ok.vw r1 sim1) hk, ?_⟩
 rcases out2.ifB with ⟨e, out4⟩ | ⟨e, out4⟩
 ·rw [if_pos e]
  exact out4.here sim1 r1
 ·rw [if_neg (by rw [e]; exact waa)]
  exact ⟨F, S1, as1, E, C1, sim1, no.right, out4⟩
theorem jIn {R : RR V T} {js ks : List Nat} (hc : PT X c (DT X.K rx W Φ xc)) (ha : PE X a (Dn X.K rx W js (ev Φ xa) R)) (hb : PE X b (Dn X.K rx W ks (ev Φ xb) R)) :
  PE X (.IfExp c a b pos) (Dn X.K rx W (trE xc ++ js ++ ks) (ev Φ (.ite xc xa xb)) R) := by
 refine jAq (pe_ifExp hc ha hb) fun σ H Q ⟨F, S, as, E, C, sim, no, out⟩ => ?_
 have e0 : ev Φ (.ite xc xa xb) E = M.bind (tst Φ xc E) fun k => if k = true then ev Φ xa E else ev Φ xb E := by
  rw [jI3]
  unfold tst
  funext C
  simp only [M.bind]
  cases ev Φ xc E C <;> rfl
 rw [e0] at out
 refine ⟨F, S, as, E, C, sim, no.left.left, out.bind fun v t S1 as1 H1 C1 l1 p1 sim1 r1 out1 => ?_⟩
 obtain rfl : v = t := r1
 rcases out1.ifB with ⟨e, out4⟩ | ⟨e, out4⟩
 ·rw [if_pos e]
  exact ⟨F, S1, as1, E, C1, sim1, no.left.right, out4⟩
 ·rw [if_neg (by rw [e]; exact waa)]
  exact ⟨F, S1, as1, E, C1, sim1, no.right, out4⟩
theorem jC4 (ha : PE X a (DW X.K rx W Φ xa)) (he : ∀ whole, isTrue a X.env whole = (do let v ← whole; standAt a.pos; holding [v] (truthy v))) : PT X a (DT X.K rx W Φ xa) := by
 refine jRc (pt_truth ha he) fun σ H Q ⟨F, S, as, E, C, sim, no, out⟩ => ?_
 refine ⟨F, S, as, E, C, sim, no, out.bind fun v t S1 as1 H1 C1 l1 p1 sim1 r1 out1 => ?_⟩
 obtain ⟨k, hk, out2⟩ := out1.lift
 exact ⟨k, jGl sim1 (r1.vw sim1) hk, out2.here sim1 rfl⟩
end
theorem jAf {a b : Str} (h1 : PyData.strOk a = true) (h2 : PyData.strOk b = true) : PyData.strOk (a ++ b) = true := by
 unfold PyData.strOk at h1 h2 ⊢
 show (a.cps ++ b.cps).all _ = true
 rw [Array.all_append, h1, h2]
 rfl
theorem jAb (s : String) : PyData.strOk (Str.ofString s) = true := by
 rw [Str.ofString_eq_toList]
 unfold PyData.strOk
 simp only [List.all_toArray, List.all_map, wag]
 intro c _
 have hc := c.valid
 show decide (c.toNat < 0x110000) = true
 refine waU ?_
 have ht : c.toNat = c.val.toNat := rfl
 simp only [UInt32.isValidChar, Nat.isValidChar] at hc
 omega
theorem jVz (c : Char) : c.toNat < 0x110000 := by
 have hc := c.valid
 have ht : c.toNat = c.val.toNat := rfl
 simp only [UInt32.isValidChar, Nat.isValidChar] at hc
 omega
theorem jIh {q c : Nat} (hq : q < 0x110000) (hc : c < 0x110000) : ∀ d ∈ Builtin.Str.reprChar q c, d < 0x110000 := by
 have hex : ∀ w, ∀ d ∈ List.replicate w 48 ++ (Nat.toDigits 16 c).map Char.toNat, d < 0x110000 := fun w d hd => by
  rcases wa1.mp hd with h | h
  ·rw [List.eq_of_mem_replicate h]; decide
  ·obtain ⟨x, _, rfl⟩ := wbg.mp h
   exact jVz x
 intro d hd
 unfold Builtin.Str.reprChar at hd
 simp only at hd
 repeat' split at hd
 all_goals
  first
  | (simp only [waE, List.not_mem_nil, or_false] at hd; omega)
  | (rcases wa1.mp hd with h | h
     ·simp only [waE, List.not_mem_nil, or_false] at h; omega
     ·exact hex _ d h)
theorem jDk {f : Nat → List Nat} : ∀ (l : List Nat) (acc : Array Nat) (d : Nat), d ∈ (l.foldl (fun out c => out ++ (f c).toArray) acc).toList → d ∈ acc.toList ∨ ∃ c ∈ l, d ∈ f c
 | [], _, _, h => .inl h
 | c :: l, acc, d, h => by
  rw [List.foldl_cons] at h
  rcases jDk l _ d h with h | ⟨c', h1, h2⟩
  ·rw [Array.toList_append] at h
   rcases wa1.mp h with h | h
   ·exact .inl h
   ·exact .inr ⟨c, wah, by simpa using h⟩
  ·exact .inr ⟨c', wak _ h1, h2⟩
theorem jBs {x : Str} (h : PyData.strOk x = true) : PyData.strOk (reprText x) = true := by
 have hq : reprQuote x < 0x110000 := by unfold reprQuote; split <;> decide
 refine jGf fun d hd => ?_
 unfold reprText at hd
 simp only [Array.toList_push] at hd
 rcases wa1.mp hd with hd | hd
 ·rw [← Array.foldl_toList] at hd
  rcases jDk _ _ d hd with h1 | ⟨c, h1, h2⟩
  ·simp only [waE, List.not_mem_nil, or_false] at h1; omega
  ·exact jIh hq (jEq h c h1) d h2
 ·simp only [waE, List.not_mem_nil, or_false] at hd; omega
theorem jBa : ∀ (ts : List Str) (k : Nat) (acc : Str), PyData.strOk acc = true → (∀ t ∈ ts, PyData.strOk t = true) → PyData.strOk (textFrom k acc ts) = true
 | [], _, _, h, _ => h
 | t :: ts, k, acc, h, ht => by
  unfold textFrom
  exact jBa ts _ _ (jAf (jAf h (jAb _)) (ht t wah)) fun u hu => ht u (wak _ hu)
theorem jCl {sep : Str} (hs : PyData.strOk sep = true) : ∀ ts : List Str, (∀ t ∈ ts, PyData.strOk t = true) → PyData.strOk (Str.join sep ts) = true
 | [], _ => jAb ""
 | [t], h => h t wah
 | t :: u :: ts, h => by
  have ih := jCl hs (u :: ts) fun v hv => h v (wak _ hv)
  have e : Str.join sep (t :: u :: ts) = t ++ sep ++ Str.join sep (u :: ts) := by first | rfl | simp [Str.join]
  rw [e]
  exact jAf (jAf (h t wah) hs) ih
mutual
theorem jEn : ∀ d : PyData, d.canLay0 = true → PyData.strOk d.shown = true
 | .none, _ => jAb "None"
 | .bool b, _ => by cases b <;> (simp only [PyData.shown]; exact jAb _)
 | .int i, _ => by simp only [PyData.shown]; exact jAb _
 | .str x, h => by simp only [PyData.shown]; exact jBs (by simpa [PyData.canLay0] using h)
 | .list xs, h => by
  simp only [PyData.shown, listText]
  exact jAf (jBa _ _ _ (jAb _) (jBq xs (by simpa [PyData.canLay0] using h))) (jAb _)
 | .tuple xs, h => by
  simp only [PyData.shown, tupleText]
  exact jAf (jAf (jAb _) (jCl (jAb _) _ (jBq xs (by simpa [PyData.canLay0] using h)))) (jAb _)
 | .dict _, h => by simp [PyData.canLay0] at h
theorem jBq : ∀ ds : List PyData, PyData.canLayAll0 ds = true → ∀ t ∈ PyData.shownAll ds, PyData.strOk t = true
 | [], _ => by simp [PyData.shownAll]
 | d :: ds, h => by
  simp only [PyData.canLayAll0, wab] at h
  intro t ht
  simp only [PyData.shownAll] at ht
  rcases waE.mp ht with rfl | ht
  ·exact jEn d h.1
  ·exact jBq ds h.2 t ht
end
theorem AllR.reps {K : PySem.W.Frag} {S : Hp} {as : List Addr} : ∀ {vs : List V} {ts : List T}, AllR (Rep K S as) vs ts → Reps K S as vs ts
 | _, _, .nil => .nil
 | _, _, .cons r rs => .cons r rs.reps
def rL (R : RR V T) : RR (List V) (List T) := fun F σ E S as H vs ts => AllR (R F σ E S as H) vs ts
section
variable (Φ : Calls) (E : Env)
theorem jOi : evS Φ .nil E = M.pure [] := rfl
theorem jA5 (e : Ex) (es : Exs) : evS Φ (.cons e es) E = M.bind (ev Φ e E) fun x => M.bind (evS Φ es E) fun r => M.pure (x :: r) := rfl
theorem jEd (e : Ex) (es : Els) : evL Φ (.one e es) E = M.bind (ev Φ e E) fun x => M.bind (evL Φ es E) fun r => M.pure (x :: r) := rfl
theorem jGi (e : Ex) (es : Els) : evL Φ (.star e es) E = M.bind (ev Φ e E) fun x => M.bind (lift "star" (items x)) fun xs => M.bind (evL Φ es E) fun r => M.pure (xs ++ r) := rfl
end
section
variable {X : Cx} {rx : RX} {W : WX} {Φ : Calls} {a b : Expr} {xa : Ex} {xs : Exs} {ls : Els} {es : List Expr} {pos : Pos} {is js : List Nat}
theorem jGt {t t' : TA} (h : PA X es t) (k : ∀ σ H Q, t' σ H Q → t σ H Q) : PA X es t' := ⟨fun pos pins s σ H Q I q => h.run pos pins s σ H Q I (k _ _ _ q)⟩
theorem jGe {R : RR V T} : PA X [] (Dn X.K rx W [] (evS Φ .nil) (rL R)) := jGt pa_nil fun σ H Q ⟨F, S, as, E, C, sim, no, out⟩ => out.here sim .nil
theorem jF1 {R : RR V T} (ok : OkR X.K R) (ha : PE X a (Dn X.K rx W is (ev Φ xa) R)) (hr : PA X es (Dn X.K rx W js (evS Φ xs) (rL R))) (hs : starEach (a :: es) X.env = (false, eval a X.env) :: starEach es X.env) :
  PA X (a :: es) (Dn X.K rx W (is ++ js) (evS Φ (.cons xa xs)) (rL R)) := by
 refine jGt (pa_cons ha hr hs) fun σ H Q ⟨F, S, as, E, C, sim, no, out⟩ => ?_
 rw [jA5] at out
 refine ⟨F, S, as, E, C, sim, no.left, out.bind fun v t S1 as1 H1 C1 l1 p1 sim1 r1 out1 => ⟨F, S1, as1, E, C1, sim1, no.right, out1.bind fun vs ts S2 as2 H2 C2 l2 p2 sim2 r2 out2 => ?_⟩⟩
 exact out2.here sim2 (.cons (ok.mono r1 l2 p2) r2)
theorem jZo : PA X [] (Dn X.K rx W [] (evL Φ .nil) (rS X.K)) := jGt pa_nil fun σ H Q ⟨F, S, as, E, C, sim, no, out⟩ => out.here sim .nil
theorem jZ6 (ha : PE X a (DE X.K rx W Φ xa)) (hr : PA X es (Dn X.K rx W js (evL Φ ls) (rS X.K))) (hs : starEach (a :: es) X.env = (false, eval a X.env) :: starEach es X.env) :
  PA X (a :: es) (Dn X.K rx W (escE xa ++ js) (evL Φ (.one xa ls)) (rS X.K)) := by
 refine jGt (pa_cons ha hr hs) fun σ H Q ⟨F, S, as, E, C, sim, no, out⟩ => ?_
 rw [jEd] at out
 refine ⟨F, S, as, E, C, sim, no.left, out.bind fun v t S1 as1 H1 C1 l1 p1 sim1 r1 out1 => ⟨F, S1, as1, E, C1, sim1, no.right, out1.bind fun vs ts S2 as2 H2 C2 l2 p2 sim2 r2 out2 => ?_⟩⟩
 exact out2.here sim2 (.cons (Rep.mono l2 p2 r1) r2)
theorem jP5 {K : PySem.W.Frag} {F S : Hp} {as : List Addr} {σ : L2.St} {H : Hp} {E : Env} {C : jAa} {v : V} {t : T} {ts : List T} (sim : Sim K F S as σ H E C) (r : Vw K S as H v t) (h : items t = some ts) :
  ∃ p vs, v = .ref p ∧ (SqT K H p vs ∨ SqL K H p vs) ∧ vs.length ≤ sizeLine ∧ Reps K S as vs ts := by
 cases r with
 | tup q z rs => cases h; exact ⟨_, _, rfl, .inl (sim.sqT q), z, rs⟩
 | lst q z rs => cases h; exact ⟨_, _, rfl, .inr (.inl q), z, rs⟩
 | _ => cases h
theorem jW9 {p : Pos} (ha : PE X a (DW X.K rx W Φ xa)) (hr : PA X es (Dn X.K rx W js (evL Φ ls) (rS X.K))) (hs : starEach (.Starred a p :: es) X.env = (true, eval a X.env) :: starEach es X.env) :
  PA X (.Starred a p :: es) (Dn X.K rx W (trE xa ++ js) (evL Φ (.star xa ls)) (rS X.K)) := by
 refine jGt (StX.pa_star ha hr hs) fun σ H Q ⟨F, S, as, E, C, sim, no, out⟩ => ?_
 rw [jGi] at out
 refine ⟨F, S, as, E, C, sim, no.left, out.bind fun v t S1 as1 H1 C1 l1 p1 sim1 r1 out1 => ?_⟩
 obtain ⟨ts, hts, out2⟩ := out1.liftB
 obtain ⟨q, vs, rfl, hq, _, rs⟩ := jP5 sim1 (r1.vw sim1) hts
 refine ⟨q, vs, rfl, hq, F, S1, as1, E, C1, sim1, no.right, out2.bind fun ws us S2 as2 H2 C2 l2 p2 sim2 r2 out3 => ?_⟩
 exact out3.here sim2 ((rs.mono l2 p2).append r2)
theorem jU6 {k : Nat} (h : PA X es (Dn X.K rx W is (evL Φ ls) (rS X.K))) : PE X (.Tuple es k pos) (Dn X.K rx W is (ev Φ (.tup ls)) (rE X.K)) := by
 refine jAq (jK9 h) fun σ H Q ⟨F, S, as, E, C, sim, no, out⟩ => ?_
 rw [jSs] at out
 refine ⟨F, S, as, E, C, sim, no, out.bind fun vs ts S1 as1 H1 C1 l1 p1 sim1 r1 out1 => ?_⟩
 rcases out1.ifB with ⟨e, out2⟩ | ⟨e, out2⟩
 ·have r1' : Reps X.K S1 as1 vs ts := r1
  have z : vs.length ≤ sizeLine := by rw [r1'.length]; exact jAp e
  exact ⟨z, (Out.settle (σ := σ) out2).newT sim1 z r1'⟩
 ·exact False.elim out2
theorem jWc (h : PA X es (Dn X.K rx W is (evL Φ ls) (rS X.K))) : PE X (.List es pos) (Dn X.K rx W is (ev Φ (.lst ls)) (rF X.K)) := by
 refine jAq (pe_lst h) fun σ H Q ⟨F, S, as, E, C, sim, no, out⟩ => ?_
 rw [jL0] at out
 refine ⟨F, S, as, E, C, sim, no, out.bind fun vs ts S1 as1 H1 C1 l1 p1 sim1 r1 out1 => ?_⟩
 rcases out1.ifB with ⟨e, out2⟩ | ⟨e, out2⟩
 ·have r1' : Reps X.K S1 as1 vs ts := r1
  have z : vs.length ≤ sizeLine := by rw [r1'.length]; exact jAp e
  exact ⟨z, fun p hp => out2.newL sim1 hp z r1'⟩
 ·exact False.elim out2
end
section
variable {X : Cx} {rx : RX} {W : WX} {Φ : Calls} {a b c : Expr} {xa xb xc : Ex} {pos : Pos}
def rIxD : R2 := fun x y H Q => ∃ a v, x = .ref a ∧ DGet H a y (some v) ∧ Q v H
theorem jU4 (hu : X.A.units + 1 < cLine) : IxR X rIxD := by
 intro value slice pins s σ H x y v u Q I rx ry h hs
 obtain ⟨a, w, rfl, g, q⟩ := h
 obtain rfl : v = Value.ref a := rx
 exact tail_any (ops := [.ref a, u]) (dict_typeIs I g) PySem.F.slot_dict_getitem.lookup (d_getItem hu I g ry fun w' s3 I3 rw' => ⟨w, H, I3, rw', q⟩) hs
theorem jHo {K : PySem.W.Frag} {S : Hp} {as : List Addr} {k : Key} : ∀ {kvs : List (Key × V)} {ts : List T} {t : T}, Reps K S as (kvs.map (·.2)) ts → jCy k (kvs.map (·.1)) ts = some t → ∃ v, valV kvs k = some v ∧ Rep K S as v t
 | [], _, _, .nil, h => by cases h
 | p :: kvs, u :: ts, t, .cons r rs, h => by
  simp only [war, jCy] at h
  split at h
  ·rename_i e
   cases h
   exact ⟨p.2, valV_pos e, r⟩
  ·rename_i e
   obtain ⟨v, h1, h2⟩ := jHo rs h
   exact ⟨v, by rw [valV_neg e]; exact h1, h2⟩
theorem jS3 {vs : List V} {ts : List T} {K : PySem.W.Frag} {S : Hp} {as : List Addr} {i : Int} {t : T} (rs : Reps K S as vs ts) (h : ((L2.ixN ts.length i).bind fun k => ts[k]?) = some t) : ∃ v, atI vs i = some v ∧ Rep K S as v t := by
 obtain ⟨k, hk, ht⟩ := wal.mp h
 obtain ⟨v, hv, r⟩ := rs.get ht
 refine ⟨v, ?_, r⟩
 unfold atI
 rw [rs.length, hk]
 exact hv
theorem jOl (hu : X.A.units + 1 < cLine) (hs : PlainIx b) (ha : PE X a (DW X.K rx W Φ xa)) (hb : PE X b (DW X.K rx W Φ xb)) : PE X (.Subscript a b pos) (DE X.K rx W Φ (.idx xa xb)) := by
 refine jAq (pe_ix (ix_seq.or (jU4 hu)) ha hb hs) fun σ H Q ⟨F, S, as, E, C, sim, no, out⟩ => ?_
 rw [jRs] at out
 refine ⟨F, S, as, E, C, sim, no.left, out.bind fun v t S1 as1 H1 C1 l1 p1 sim1 r1 out1 => ⟨F, S1, as1, E, C1, sim1, no.right, out1.bind fun u t2 S2 as2 H2 C2 l2 p2 sim2 r2 out2 => ?_⟩⟩
 have r1' := ((r1.mono l2 p2 (H1 := H2)).vw sim2).deref sim2
 have out3 : Out X.K rx W F σ E (lift "idx" (idxT (jAu C2 t) t2) C2) (rE X.K F σ E) S2 as2 Q := out2
 obtain ⟨t3, ht, out4⟩ := out3.lift
 generalize jAu C2 t = td at r1' ht
 have r2' := r2.vw sim2
 cases r1' with
 | lst q z rs =>
  cases r2' <;> simp only [idxT] at ht <;> first | (cases ht; done) | skip
  obtain ⟨w, hw, rw'⟩ := jS3 rs ht
  exact .inl (.inl ⟨_, _, _, w, rfl, rfl, .inl q, hw, out4.here sim2 rw'⟩)
 | tup q z rs =>
  cases r2' <;> simp only [idxT] at ht <;> first | (cases ht; done) | skip
  obtain ⟨w, hw, rw'⟩ := jS3 rs ht
  exact .inl (.inr (.inl ⟨_, _, _, w, rfl, rfl, sim2.sqT q, hw, out4.here sim2 rw'⟩))
 | @str x g =>
  cases r2' with
  | int i =>
   simp only [idxT] at ht
   obtain ⟨k, hk, ht⟩ := wal.mp ht
   obtain ⟨d, hd, e⟩ := wae.mp ht
   subst e
   refine .inl (.inr (.inr ⟨_, i, d, rfl, rfl, g.len, ?_, out4.here sim2 (.str (g.sign hd))⟩))
   unfold atI
   have hl : x.cps.toList.length = x.length := by simp [Str.length]
   rw [hl, hk]
   simpa using hd
  | _ => simp [idxT] at ht
 | @dic p kvs ts q z g rs =>
  simp only [idxT] at ht
  obtain ⟨k, hk, ht⟩ := wal.mp ht
  obtain ⟨e1, _⟩ := jH7 r2' hk
  subst e1
  obtain ⟨w, hw, rw'⟩ := jHo rs ht
  exact .inr ⟨p, w, rfl, .inl ⟨kvs, k, q, rfl, hw.symm⟩, out4.here sim2 rw'⟩
 | _ => simp [idxT] at ht
theorem jEh {K : PySem.W.Frag} {S : Hp} {as : List Addr} {vs : List V} {ts : List T} (rs : Reps K S as vs ts) (lo hi : Option Int) : Reps K S as (cutV vs lo hi) (cutT ts lo hi) := by
 unfold cutV cutT
 rw [rs.length]
 exact (rs.drop _).take _
theorem jKc {vs : List V} {lo hi : Option Int} (h : HT.sIx vs.length 0 lo = 0 ∧ HT.sIx vs.length vs.length hi = vs.length) : cutV vs lo hi = vs := by
 unfold cutV
 rw [h.1, h.2]
 simp
def DP' (K : PySem.W.Frag) (rx : RX) (W : WX) (Φ : Calls) (l : Bool) (x : Ex) : TO := Dn K rx W (trE x) (fun E => jCg l (ev Φ x E)) (fun _ _ _ _ _ _ a b => a = b)
theorem jX6 {e : Option Expr} {t t' : TO} (h : PO X e t) (k : ∀ σ H Q, t' σ H Q → t σ H Q) : PO X e t' := ⟨fun pins s σ H Q I q => h.run pins s σ H Q I (k _ _ _ q)⟩
theorem jQo : PO X none (DP' X.K rx W Φ false xa) := jX6 po_none fun σ H Q ⟨F, S, as, E, C, sim, no, out⟩ => out.here sim rfl
theorem jPt (ha : PE X a (DW X.K rx W Φ xa)) : PO X (some a) (DP' X.K rx W Φ true xa) := by
 refine jX6 (po_some ha) fun σ H Q ⟨F, S, as, E, C, sim, no, out⟩ => ?_
 have out' : Out X.K rx W F σ E (M.bind (ev Φ xa E) (fun t => M.bind (lift "part" (intT t)) fun i => M.pure (some i)) C) (fun _ _ _ a b => a = b) S as Q := out
 refine ⟨F, S, as, E, C, sim, no, out'.bind fun v t S1 as1 H1 C1 l1 p1 sim1 r1 out1 => ?_⟩
 obtain ⟨i, hi, out2⟩ := out1.liftB
 have r := r1.vw sim1
 cases r <;> simp only [intT] at hi <;> cases hi
 exact ⟨_, rfl, out2.here sim1 rfl⟩
theorem jVo {lo hi : Option Expr} {l h : Bool} {p2 : Pos} (ha : PE X a (DW X.K rx W Φ xa)) (hl : PO X lo (DP' X.K rx W Φ l xb)) (hh : PO X hi (DP' X.K rx W Φ h xc)) :
  PE X (.Subscript a (.Slice lo hi none p2) pos) (DF X.K rx W Φ (.slc l h xa xb xc)) := by
 refine jAq (pe_slice (sl_list.or (jTp.or sl_str)) ha hl hh) fun σ H Q ⟨F, S, as, E, C, sim, no, out⟩ => ?_
 rw [jS0] at out
 refine ⟨F, S, as, E, C, sim, no.left.left, out.bind fun v t S1 as1 H1 C1 l1 p1 sim1 r1 out1 => ⟨F, S1, as1, E, C1, sim1, no.left.right, out1.bind fun o1 o1' S2 as2 H2 C2 l2 p2 sim2 r2 out2 =>
  ⟨F, S2, as2, E, C2, sim2, no.right, out2.bind fun o2 o2' S3 as3 H3 C3 l3 p3 sim3 r3 out3 => ?_⟩⟩⟩
 obtain rfl : o1 = o1' := r2
 obtain rfl : o2 = o2' := r3
 obtain ⟨t3, ht, out4⟩ := out3.lift
 have r1' := (r1.mono (l2.trans l3) (p2.trans p3) (H1 := H3)).vw sim3
 cases r1' with
 | @lst p vs ts q z rs =>
  cases ht
  refine .inl ⟨p, vs, rfl, .inl q, fun p hp => out4.newL sim3 hp (wau (cutV_length vs o1 o2) z) (jEh rs o1 o2)⟩
 | @tup p vs ts q z rs =>
  cases ht
  refine .inr (.inl ⟨p, vs, rfl, sim3.sqT q, fun w => ?_, fun _ => out4.newT sim3 (wau (cutV_length vs o1 o2) z) (jEh rs o1 o2)⟩)
  have r := jEh rs o1 o2
  rw [jKc w] at r
  exact out4.old sim3 (.tup q z r) (fun _ e => nomatch e) fun _ _ e => nomatch e
 | @str x g =>
  cases ht
  exact .inr (.inr ⟨x, rfl, g.len, out4.old sim3 (.str (g.cut o1 o2)) (fun _ e => nomatch e) fun _ _ e => nomatch e⟩)
 | _ => cases ht
end
def rBi (K : PySem.W.Frag) (rx : RX) (W : WX) (b : Bi) : List V → Hp → VK → Prop := fun vs H Q => ∃ F S as σ E C ts t, Sim K F S as σ H E C ∧ AllR (Vw K S as H) vs ts ∧ biT b ts = some t ∧ Out K rx W F σ E (.ok t C) (RepF K F σ E) S as Q
theorem crOr {X : Cx} {f : Value} {r r' : List V → Hp → VK → Prop} (h : CallR X f r) (h' : CallR X f r') : CallR X f (fun xs H Q => r xs H Q ∨ r' xs H Q) := by
 intro pins s σ H xs us Q I rr q
 rcases q with q | q
 ·exact h pins s σ H xs us Q I rr q
 ·exact h' pins s σ H xs us Q I rr q
theorem jIm {X : Cx} {f : Value} {r r' : List V → Hp → VK → Prop} (h : CallR X f r) (k : ∀ xs H Q, r' xs H Q → r xs H Q) : CallR X f r' := fun pins s σ H xs us Q I rr q => h pins s σ H xs us Q I rr (k _ _ _ q)
section
variable {K : PySem.W.Frag} {S : Hp} {as : List Addr}
theorem jEj : ∀ {vs : List V} {xs : List T} {is : List Int}, Reps K S as vs xs → mapO intT xs = some is → vs = is.map V.int
 | [], _, _, .nil, h => by simp only [mapO] at h; cases h; rfl
 | v :: vs, x :: xs, is, .cons r rs, h => by
  simp only [mapO] at h
  obtain ⟨i, hi, h⟩ := wal.mp h
  obtain ⟨js, hj, e⟩ := wae.mp h
  subst e
  rw [jEj rs hj]
  cases r <;> simp only [intT] at hi <;> cases hi
  rfl
theorem jI6 : ∀ {vs : List V} {xs : List T} {is : List Bool}, Reps K S as vs xs → mapO blT xs = some is → vs = is.map V.bl
 | [], _, _, .nil, h => by simp only [mapO] at h; cases h; rfl
 | v :: vs, x :: xs, is, .cons r rs, h => by
  simp only [mapO] at h
  obtain ⟨i, hi, h⟩ := wal.mp h
  obtain ⟨js, hj, e⟩ := wae.mp h
  subst e
  rw [jI6 rs hj]
  cases r <;> simp only [blT] at hi <;> cases hi
  rfl
end
section
variable {X : Cx} {rx : RX} {W : WX}
theorem noL {i : Int} : ∀ xs, T.int i ≠ .lst xs := fun _ e => nomatch e
theorem noD {i : Int} : ∀ ks vs, T.int i ≠ .dic ks vs := fun _ _ e => nomatch e
theorem jMx : CallR X (.builtin "len") (fun xs H Q => ∃ a kvs, xs = [V.ref a] ∧ Rd H a (.dK kvs) ∧ Q (.int kvs.length) H) := by
 intro pins s σ H xs us Q I r h
 obtain ⟨a, kvs, rfl, ha, q⟩ := h
 obtain ⟨u, rfl, ru⟩ := vals1 r
 cases ru
 exact d_len I ha fun t s' I' => ⟨.int kvs.length, H, I', ⟨t, rfl⟩, q⟩
theorem j0c : CallR X (.builtin "len") (rBi X.K rx W .len) := by
 refine jIm (crOr call_len jMx) fun vs H Q h => ?_
 obtain ⟨F, S, as, σ, E, C, ts, t, sim, r, ht, out⟩ := h
 cases r with
 | nil => cases ht
 | cons r1 rs =>
  cases rs with
  | cons => cases r1 <;> cases ht
  | nil =>
   cases r1 with
   | lst q z rs => cases ht; exact .inl ⟨_, _, rfl, .inl ⟨_, .inl q, rs.length.symm⟩, out.old sim (.int _) noL noD⟩
   | tup q z rs => cases ht; exact .inl ⟨_, _, rfl, .inr ⟨_, sim.sqT q, rs.length.symm⟩, out.old sim (.int _) noL noD⟩
   | str g => cases ht; exact .inl ⟨_, _, rfl, ⟨g.len, rfl⟩, out.old sim (.int _) noL noD⟩
   | dic q z g rs =>
    cases ht
    refine .inr ⟨_, _, rfl, q, ?_⟩
    have e := out.old sim (v := .int _) (.int _) noL noD
    rw [waw] at e
    exact e
   | _ => cases ht
theorem jXw : CallR X (.type "int") (rBi X.K rx W .int) := by
 refine jIm (call_int1.or call_int_str) fun vs H Q h => ?_
 obtain ⟨F, S, as, σ, E, C, ts, t, sim, r, ht, out⟩ := h
 cases r with
 | nil => cases ht
 | cons r1 rs =>
  cases rs with
  | cons => cases r1 <;> cases ht
  | nil =>
   cases r1 <;> first | (cases ht; done) | skip
   ·cases ht; exact .inl (.inr ⟨_, rfl, out.old sim (.int _) noL noD⟩)
   ·cases ht; exact .inl (.inl ⟨_, rfl, out.old sim (.int _) noL noD⟩)
   ·rename_i x g
    simp only [biT] at ht
    split at ht
    ·rename_i hz
     obtain ⟨n, hn, e⟩ := wae.mp ht
     subst e
     exact .inr ⟨_, n, rfl, hn, waC hz, out.old sim (.int _) noL noD⟩
    ·cases ht
theorem jUv (hc : X.calm = true) : CallR X (.builtin "all") (rBi X.K rx W .all) := by
 refine jIm (cr_all hc) fun vs H Q h => ?_
 obtain ⟨F, S, as, σ, E, C, ts, t, sim, r, ht, out⟩ := h
 cases r with
 | nil => cases ht
 | cons r1 rs =>
  cases rs with
  | cons => cases r1 <;> cases ht
  | nil =>
   cases r1 with
   | lst q z rs =>
    simp only [biT] at ht
    obtain ⟨bs, hb, e⟩ := wae.mp ht
    subst e
    have e := jI6 rs hb
    subst e
    exact ⟨_, bs, rfl, .inl q, out.old sim (.bl _) (fun _ e => nomatch e) fun _ _ e => nomatch e⟩
   | _ => cases ht
theorem jN0 : CallR X (.type "tuple") (rBi X.K rx W .tuple) := by
 refine jIm jOf fun vs H Q h => ?_
 obtain ⟨F, S, as, σ, E, C, ts, t, sim, r, ht, out⟩ := h
 cases r with
 | nil => cases ht
 | cons r1 rs =>
  cases rs with
  | cons => cases r1 <;> cases ht
  | nil =>
   cases r1 with
   | lst q z rs => cases ht; exact ⟨_, _, rfl, .inl ⟨.inl q, out.newT sim z rs⟩⟩
   | tup q z rs => cases ht; exact ⟨_, _, rfl, .inr ⟨sim.sqT q, out.old sim (.tup q z rs) (fun _ e => nomatch e) fun _ _ e => nomatch e⟩⟩
   | _ => cases ht
theorem jFa (hc : X.calm = true) : CallR X (.type "list") (fun xs H Q => ∃ z : Str, xs = [V.str z] ∧ z.cps.size ≤ sizeLine ∧ ∀ p, H p = none → Q (.ref p) (upd H p (.lst (z.cps.toList.map fun c => V.str ⟨#[c]⟩)))) := by
 intro pins s σ H xs us Q I r h
 obtain ⟨z, rfl, hz, q⟩ := h
 obtain ⟨u, rfl, ru⟩ := vals1 r
 obtain ⟨t, rfl⟩ := ru
 refine call_list_str (I.ok.hd hc) z t (fun h' tk acc c' hk e hi => ?_) hz
 refine ⟨.ref s.heap.objs.size, upd H s.heap.objs.size (.lst (z.cps.toList.map fun c => V.str ⟨#[c]⟩)), I.laid hk (waK _) ⟨by simpa using hz, acc.toList, c', ?_, by rw [Array.toArray_toList]; exact e⟩, rfl, q _ (I.hok.fresh (waK _))⟩
 refine vals_of_idx _ _ (by rw [waw, Array.length_toList, Array.length_toList]; exact hi.1) fun j u hj => ?_
 obtain ⟨c, t', hc, rfl⟩ := hi.2 j u (by rw [← Array.getElem?_toList]; exact hj)
 exact ⟨.str ⟨#[c]⟩, by simp [hc], ⟨_, rfl⟩⟩
theorem jKw {K : PySem.W.Frag} {S : Hp} {as : List Addr} {x : Str} (g : SG x) : Reps K S as (x.cps.toList.map fun c => V.str ⟨#[c]⟩) (x.cps.toList.map fun c => T.str ⟨#[c]⟩) := by
 have : ∀ l : List Nat, (∀ c ∈ l, ∃ i : Nat, x.cps[i]? = some c) → Reps K S as (l.map fun c => V.str ⟨#[c]⟩) (l.map fun c => T.str ⟨#[c]⟩) := by
  intro l
  induction l with
  | nil => intro _; exact .nil
  | cons c l ih =>
   intro h
   obtain ⟨i, hi⟩ := h c wah
   exact .cons (.str (g.sign hi)) (ih fun c hc => h c (wak _ hc))
 refine this _ fun c hc => ?_
 obtain ⟨i, hi⟩ := List.mem_iff_getElem?.mp hc
 exact ⟨i, by simpa using hi⟩
theorem jG3 {K : PySem.W.Frag} {S : Hp} {as : List Addr} : ∀ {kvs : List (Key × V)}, (∀ p ∈ kvs, KG p.1) → Reps K S as (kvs.map fun kv => kV kv.1) ((kvs.map (·.1)).map keyU)
 | [], _ => .nil
 | (k, x) :: l, h => .cons (by
   have gk := h (k, x) wah
   cases k with
   | inl i => exact .int i
   | inr y => exact .str gk) (jG3 fun p hp => h p (wak _ hp))
theorem jPf (hc : X.calm = true) : CallR X (.type "list") (rBi X.K rx W .list) := by
 refine jIm (crOr (crOr call_list_of (jFa hc)) (call_listD hc)) fun vs H Q h => ?_
 obtain ⟨F, S, as, σ, E, C, ts, t, sim, r, ht, out⟩ := h
 cases r with
 | nil => cases ht
 | cons r1 rs =>
  cases rs with
  | cons => cases r1 <;> cases ht
  | nil =>
   cases r1 with
   | lst q z rs => cases ht; exact .inl (.inl ⟨_, _, rfl, .inl (.inl q), fun p hp => out.newL sim hp z rs⟩)
   | tup q z rs => cases ht; exact .inl (.inl ⟨_, _, rfl, .inr (sim.sqT q), fun p hp => out.newL sim hp z rs⟩)
   | @str x g =>
    cases ht
    exact .inl (.inr ⟨x, rfl, g.len, fun p hp => out.newL sim hp (by rw [waw, Array.length_toList]; exact g.len) (jKw g)⟩)
   | @dic d kvs ts q z g rs =>
    cases ht
    exact .inr ⟨d, kvs, rfl, q, fun p hp => out.newL sim hp (by rw [waw]; exact z) (jG3 g)⟩
   | _ => cases ht
end
theorem jEf {α β : Type} {M : Model} {Γ : PySem.Ctx} {e : Value} {Q : α → Pos → Shared → Prop} {Q' : β → Pos → Shared → Prop} {E : Value → Pos → Shared → Prop} {p : Pos} {s : Shared} :
  Sem.wp M Γ (raiseNew e : Sem α) Q E p s → Sem.wp M Γ (raiseNew e : Sem β) Q' E p s := by
 intro h
 unfold raiseNew at h ⊢
 simp only [wbo] at h ⊢
 refine wbp M Γ _ (fun o p2 s2 h3 => ?_) (fun _ _ _ x => x) p s h
 cases e <;> cases o <;> first | exact h3 | skip
 all_goals (simp only at h3 ⊢; repeat' split at h3)
 all_goals first | exact h3 | (rename_i c; rw [if_pos c]; simp only [wbo] at h3 ⊢; exact h3) | (rename_i c; rw [if_neg c]; exact h3) | skip
theorem jD6 {α β : Type} {M : Model} {Γ : PySem.Ctx} {n m : String} {Q : α → Pos → Shared → Prop} {Q' : β → Pos → Shared → Prop} {E : Value → Pos → Shared → Prop} {p : Pos} {s : Shared}
  (h : Sem.wp M Γ (raiseErrorMade n m : Sem α) Q E p s) : Sem.wp M Γ (raiseErrorMade n m : Sem β) Q' E p s := by
 unfold raiseErrorMade at h ⊢
 simp only [wbo] at h ⊢
 exact wbp M Γ _ (fun o p2 s2 h3 => wbp M Γ _ (fun o p2 s2 h3 => jEf h3) (fun _ _ _ x => x) p2 s2 h3) (fun _ _ _ x => x) p s h
theorem jEz {M : Model} {A : Around} {E : Value → Shared → Prop} {s : Shared} {v : Value} {Q : Value → Shared → Prop} {Q' : PySem.Fin → Shared → Prop} (h : wpAny M A (pyReprObj v) Q E s) (k : ∀ r s', Q r s' → Q' (.done (.ret r)) s') : wpAny M A (Builtin.«repr» ⟨[v], []⟩) Q' E s := by
 intro Γ p hΓ
 have h1 := h Γ p hΓ
 unfold pyReprObj at h1
 unfold Builtin.«repr»
 simp only [wbo] at h1 ⊢
 have e1 : PySem.oneArg "repr" ⟨[v], []⟩ = pure v := rfl
 rw [e1]
 show Sem.wp M Γ (cRoomFor "repr" [v]) _ _ p s
 refine wbp M Γ _ (fun _ p1 s1 h2 => ?_) (fun _ _ _ x => x) p s h1
 refine wbp M Γ _ (fun o p2 s2 h3 => ?_) (fun _ _ _ x => x) p1 s1 h2
 cases ho : o.isNone with
 | true => rw [ho, if_pos rfl] at h3; exact h3
 | false =>
  rw [ho, if_neg waa] at h3
  rw [if_neg waa]
  simp only [wbo] at h3 ⊢
  refine wbp M Γ _ (fun o p3 s3 h4 => ?_) (fun _ _ _ x => x) p2 s2 h3
  cases o with
  | none => exact h4
  | some r =>
   simp only [wbo] at h4 ⊢
   refine wbp M Γ _ (fun b p4 s4 h5 => ?_) (fun _ _ _ x => x) p3 s3 h4
   cases b with
   | true => exact k _ _ h5
   | false =>
    rw [if_neg waa] at h5 ⊢
    show Sem.wp M Γ _ _ _ p4 s4
    simp only [wbo] at h5 ⊢
    exact wbp M Γ _ (fun b p4 s4 h5 => jD6 h5) (fun _ _ _ x => x) p4 s4 h5
theorem jA6 {prog : Program} {w : World} {h₀ : Heap} : ∀ {v : Value} {d : PyData} {as : List Addr}, Reads h₀ v d as → d.showable = true → d.hasDict = false → d.shown.length ≤ sizeLine →
  ∀ (A : Around) (E : Value → Shared → Prop) (s : Shared) (Q : Value → Shared → Prop), A.guards = some [] → A.units + d.depth < cLine → (∀ b o, h₀.get? b = some o → s.heap.get? b = some o) →
  (∀ h' u tk, (∀ b o, s.heap.get? b = some o → h'.get? b = some o) → Q (.str d.shown u) { s with heap := h', toks := tk }) → wpAny (model prog w) A (pyReprObj v) Q E s
 | _, _, _, .none, _, _, _, A, E, s, Q, _, _, _, hQ => by
  simp only [PyData.shown] at hQ
  exact pyReprObj_none (hQ s.heap _ _ fun _ _ e => e)
 | _, _, _, .bool b, _, _, _, A, E, s, Q, _, _, _, hQ => by
  simp only [PyData.shown] at hQ
  exact pyReprObj_bool (hQ s.heap _ _ fun _ _ e => e)
 | _, _, _, .int i t, hs, _, _, A, E, s, Q, _, _, _, hQ => by
  simp only [PyData.shown] at hQ
  exact pyReprObj_int (by simpa [PyData.showable] using hs) (hQ s.heap _ _ fun _ _ e => e)
 | _, _, _, .str x t, _, _, hz, A, E, s, Q, _, _, _, hQ => by
  simp only [PyData.shown] at hQ
  exact pyReprObj_str (hQ s.heap _ _ fun _ _ e => e) (by simpa only [PyData.shown] using hz)
 | _, _, _, .list (a := a) (vs := vs) (xs := xs) h1 h2 h3 h4, hs, hsm, hz, A, E, s, Q, hg, hu, hk0, hQ => by
  have hz' : (listText (PyData.shownAll xs)).length ≤ sizeLine := by simpa only [PyData.shown] using hz
  have hd : PyData.hasDictAll xs = false := by simpa [PyData.hasDict] using hsm
  obtain ⟨bs, hb, hk⟩ := ReprAllK.of_readsAll (prog := prog) (w := w) h4 (by simpa [PyData.showable] using hs) (fun hx hm => by rw [hd] at hx; cases hx) (fun t ht => wau (listText_mem_le ht) hz')
  have r : Reads h₀ (.ref a) (.list xs) _ := .list h1 h2 h3 h4
  have hna : a ∉ bs := wbm r (by simp only [PyData.depth]; omega) hb
  simp only [PyData.depth] at hu
  simp only [PyData.shown] at hQ
  obtain ⟨l⟩ := vs
  cases l with
  | nil =>
   have h4' : ReadsAll h₀ [] xs _ := h4
   cases h4'
   simp only [PyData.shownAll, listText_nil] at hQ
   exact wpAny_pyReprObj_list_empty ⟨_, hk0 _ _ h1, h2⟩ (by omega) (hk0 _ _ h1) h3 (hQ s.heap _ _ fun _ _ e => e)
  | cons x l =>
   exact wpAny_pyReprObj_listK h1 h2 h3 hna (by simpa using hk.length_eq) (fun i y e => hk.item i y (by simpa using e)) hg (fun b _ => Clear.nil b) (by omega) hk0 (fun h' u tk hk' => hQ h' _ tk hk') hz'
 | _, _, _, .tuple (a := a) (xs := xs) h1 h2 h3 h4, hs, hsm, hz, A, E, s, Q, hg, hu, hk0, hQ => by
  have hz' : (tupleText (PyData.shownAll xs)).length ≤ sizeLine := by simpa only [PyData.shown] using hz
  have hd : PyData.hasDictAll xs = false := by simpa [PyData.hasDict] using hsm
  obtain ⟨bs, hb, hk⟩ := ReprAllK.of_readsAll (prog := prog) (w := w) h4 (by simpa [PyData.showable] using hs) (fun hx => by rw [hd] at hx; cases hx) (fun t ht => wau (tupleText_mem_le ht) hz')
  have r : Reads h₀ (.ref a) (.tuple xs) _ := .tuple h1 h2 h3 h4
  have hna : a ∉ bs := wbm r (by simp only [PyData.depth]; omega) hb
  simp only [PyData.depth] at hu
  simp only [PyData.shown] at hQ
  exact wpAny_pyReprObj_tupleK h1 h2 h3 hna hk hg (fun b _ => Clear.nil b) (by omega) hk0 (fun h' u tk hk' => hQ h' _ tk hk') hz'
 | _, _, _, .dict .., _, hsm, _, _, _, _, _, _, _, _, _ => by simp [PyData.hasDict] at hsm
theorem jKt {X : Cx} (hg : X.A.guards = some []) (hu : X.A.units + 66 < cLine) : CallR X (.builtin "repr") (fun xs H Q => ∃ x d, xs = [x] ∧ Dp X.K H x d ∧ SeqAt.shaped d = true ∧ d.showable = true ∧ d.shown.length ≤ sizeLine ∧ Q (.str d.shown) H) := by
 intro pins s σ H xs us Q I r h
 obtain ⟨x, d, rfl, dp, sh, hs, hz, q⟩ := h
 obtain ⟨u, rfl, ru⟩ := vals1 r
 obtain ⟨as, rd⟩ := Dp.reads I d x u dp ru
 refine Calls.call_function_entry PySem.F.kind_repr PySem.F.plain_repr PySem.F.entry_repr (PySem.F.args_repr1 _) ?_
 have hd := SeqAt.depth_of_shaped sh
 refine jEz (Q := fun r s' => EP X pins σ Q r s') (jA6 rd hs (PyData.hasDict_of_canLay d (waO sh)) hz _ _ s _ ?_ ?_ (fun _ _ e => e) fun h' tk t hk => ?_) fun r s' q => ?_
 ·exact hg
 ·show X.A.units + 1 + d.depth < cLine
  omega
 ·exact ⟨.str d.shown, H, I.kept (t' := t) hk, ⟨tk, rfl⟩, q⟩
 ·exact ⟨r, rfl, q⟩
section
variable {prog : Program} {w : World} {h₀ : Heap}
theorem jE9 {v : Value} {d : PyData} (rx : RdX h₀ v d) (hnd : ∀ kvs, d ≠ .dict kvs) (hs : d.showable = true) (hz : d.shown.length ≤ sizeLine) (A : Around) (E : Value → Shared → Prop) (s : Shared) (Q : Value → Shared → Prop) (hg : A.guards = some []) (hu : A.units + d.depth < cLine) (hk0 : ∀ b o, h₀.get? b = some o → s.heap.get? b = some o)
  (hQ : ∀ h' u tk, (∀ b o, s.heap.get? b = some o → h'.get? b = some o) → Q (.str d.shown u) { s with heap := h', toks := tk }) : wpAny (model prog w) A (pyReprObj v) Q E s := by
 cases rx with
 | none => exact jA6 .none hs (by simp only [PyData.hasDict]) hz A E s Q hg hu hk0 hQ
 | bool b => exact jA6 (.bool b) hs (by simp only [PyData.hasDict]) hz A E s Q hg hu hk0 hQ
 | int i t => exact jA6 (.int i t) hs (by simp only [PyData.hasDict]) hz A E s Q hg hu hk0 hQ
 | str x t => exact jA6 (.str x t) hs (by simp only [PyData.hasDict]) hz A E s Q hg hu hk0 hQ
 | @list a o vs n xs h1 h2 h3 h4 =>
  have hz' : (listText (PyData.shownAll xs)).length ≤ sizeLine := by simpa only [PyData.shown] using hz
  obtain ⟨bs, hb, hk⟩ := h4.rk (prog := prog) (w := w) (by simpa [PyData.showable] using hs) (fun t ht => wau (listText_mem_le ht) hz')
  obtain ⟨as, r⟩ := (RdX.list h1 h2 h3 h4).reads
  have hna : a ∉ bs := wbm r (by simp only [PyData.depth]; omega) hb
  simp only [PyData.depth] at hu
  simp only [PyData.shown] at hQ
  obtain ⟨l⟩ := vs
  cases l with
  | nil =>
   have h4' : RdXs h₀ [] xs := h4
   cases h4'
   simp only [PyData.shownAll, listText_nil] at hQ
   exact wpAny_pyReprObj_list_empty ⟨_, hk0 _ _ h1, h2⟩ (by omega) (hk0 _ _ h1) h3 (hQ s.heap _ _ fun _ _ e => e)
  | cons x l =>
   exact wpAny_pyReprObj_listK h1 h2 h3 hna (by simpa using hk.length_eq) (fun i y e => hk.item i y (by simpa using e)) hg (fun b _ => Clear.nil b) (by omega) hk0 (fun h' u tk hk' => hQ h' _ tk hk') hz'
 | @tuple a o vs n xs h1 h2 h3 h4 =>
  have hz' : (tupleText (PyData.shownAll xs)).length ≤ sizeLine := by simpa only [PyData.shown] using hz
  obtain ⟨bs, hb, hk⟩ := h4.rk (prog := prog) (w := w) (by simpa [PyData.showable] using hs) (fun t ht => wau (tupleText_mem_le ht) hz')
  obtain ⟨as, r⟩ := (RdX.tuple h1 h2 h3 h4).reads
  have hna : a ∉ bs := wbm r (by simp only [PyData.depth]; omega) hb
  simp only [PyData.depth] at hu
  simp only [PyData.shown] at hQ
  exact wpAny_pyReprObj_tupleK h1 h2 h3 hna hk hg (fun b _ => Clear.nil b) (by omega) hk0 (fun h' u tk hk' => hQ h' _ tk hk') hz'
 | dict => exact absurd rfl (hnd _)
end
structure DX (h : Heap) (n : Nat) (u : Value) (t : T) : Prop where
 rx : RdX h u (toD t)
 ok : PyData.strOk (toD t).shown = true
 dep : (toD t).depth ≤ n + 1
section
variable {X : Cx} {pins : List (Addr × Obj)} {σ σ0 : L2.St} {H : Hp} {s : Shared} {F S : Hp} {as : List Addr} {E : Env} {C : jAa}
theorem dxs (I : Inv X pins σ0 H s) {n : Nat} (ih : ∀ v t u, Rep X.K S as v t → datX n t = true → RelV v u → DX s.heap n u t) : ∀ vs ts us, Reps X.K S as vs ts → ts.all (datX n) = true → Vals vs us → RdXs s.heap us (toDs ts) ∧ (∀ t ∈ PyData.shownAll (toDs ts), PyData.strOk t = true) ∧ PyData.depthAll (toDs ts) ≤ n + 1
 | _, _, _, .nil, _, .nil => ⟨by simp only [toDs]; exact .nil, by simp [toDs, PyData.shownAll], by simp [toDs, PyData.depthAll]⟩
 | v :: vs, t :: ts, u :: us, .cons r rs, h, .cons q qs => by
  rw [waR, wab] at h
  obtain ⟨a, b, c⟩ := dxs I ih vs ts us rs h.2 qs
  have d := ih v t u r h.1 q
  refine ⟨by simp only [toDs]; exact .cons d.rx a, fun x hx => ?_, ?_⟩
  ·simp only [toDs, PyData.shownAll] at hx
   rcases waE.mp hx with rfl | hx
   ·exact d.ok
   ·exact b x hx
  ·have := d.dep
   simp only [toDs, PyData.depthAll]
   omega
theorem jSz (I : Inv X pins σ0 H s) {n : Nat} (ih : ∀ v t u, Rep X.K S as v t → datX n t = true → RelV v u → DX s.heap n u t) {a : Addr} {vs : List V} {ts : List T} (q : SqL X.K H a vs) (rs : Reps X.K S as vs ts) (h : ts.all (datX n) = true) : DX s.heap (n + 1) (.ref a) (.lst ts) := by
 obtain ⟨its, rv, ⟨o, n', ho, hc, _, hd⟩, _⟩ := I.list q
 obtain ⟨x, y, w⟩ := dxs I ih vs ts its rs h rv
 refine ⟨by simp only [toD]; exact .list ho hc hd x, ?_, ?_⟩
 ·simp only [toD, PyData.shown, listText]
  exact jAf (jBa _ _ _ (jAb _) y) (jAb _)
 ·simp only [toD, PyData.depth]
  omega
theorem jR1 (I : Inv X pins σ0 H s) {n : Nat} (ih : ∀ v t u, Rep X.K S as v t → datX n t = true → RelV v u → DX s.heap n u t) {a : Addr} {vs : List V} {ts : List T} (q : SqT X.K H a vs) (rs : Reps X.K S as vs ts) (h : ts.all (datX n) = true) : DX s.heap (n + 1) (.ref a) (.tup ts) := by
 obtain ⟨its, rv, ⟨o, ho, hc, n', hd⟩, _⟩ := I.tuple q
 obtain ⟨x, y, w⟩ := dxs I ih vs ts its rs h rv
 refine ⟨by simp only [toD]; exact .tuple ho hc hd x, ?_, ?_⟩
 ·simp only [toD, PyData.shown, tupleText]
  exact jAf (jAf (jAb _) (jCl (jAb _) _ y)) (jAb _)
 ·simp only [toD, PyData.depth]
  omega
theorem jJr (I : Inv X pins σ0 H s) {n : Nat} {a : Addr} (q : Rd H a (.dK [])) : DX s.heap n (.ref a) (.dic [] []) := by
 obtain ⟨_, hsm, vs, kv, dd⟩ := dk_rd I.hok q
 cases kv
 obtain ⟨o, es, ep, h1, h2, h3, _, hp, _⟩ := dd
 have hes : es = #[] := by
  cases hp' : es.toList with
  | nil => exact Array.toList_eq_nil_iff.mp hp'
  | cons e r => rw [hp'] at hp; cases hp
 subst hes
 have e : toD (.dic [] []) = .dict [] := by simp only [toD]
 refine ⟨by rw [e]; exact .dict h1 h2.1 h3 hsm, ?_, ?_⟩
 ·rw [e]
  simp only [PyData.shown, PyData.shownKv]
  decide +kernel
 ·rw [e]
  simp [PyData.depth, PyData.depthKv]
theorem jCh {n : Nat} {v : V} {t : T} {u : Value} {h : Heap} (r : Rep X.K S as v t) (hd : datX 0 t = true) (hn : ∀ ks vs, t ≠ .dic ks vs) (q : RelV v u) : DX h n u t := by
 cases r with
 | non =>
  cases q
  exact ⟨by simp only [toD]; exact .none, by simp only [toD, PyData.shown]; exact jAb _, by simp [toD, PyData.depth]⟩
 | bl b =>
  cases q
  exact ⟨by simp only [toD]; exact .bool b, by cases b <;> (simp only [toD, PyData.shown]; exact jAb _), by simp [toD, PyData.depth]⟩
 | int i =>
  obtain ⟨t, rfl⟩ := q
  exact ⟨by simp only [toD]; exact .int i t, by simp only [toD, PyData.shown]; exact jAb _, by simp [toD, PyData.depth]⟩
 | str g =>
  obtain ⟨t, rfl⟩ := q
  exact ⟨by simp only [toD]; exact .str _ t, by simp only [toD, PyData.shown]; exact jBs g.ok, by simp [toD, PyData.depth]⟩
 | tup => simp [datX] at hd
 | lst => simp [datX] at hd
 | dic => exact absurd rfl (hn _ _)
 | obj => simp [datX] at hd
 | ref => simp [datX] at hd
 | exn => simp [datX] at hd
 | cls => simp [datX] at hd
 | exi => simp [datX] at hd
theorem jS8 (I : Inv X pins σ0 H s) (sim : Sim X.K F S as σ H E C) : ∀ n v t u, Rep X.K S as v t → datX n t = true → RelV v u → DX s.heap n u t := by
 intro n
 induction n with
 | zero =>
  intro v t u r h q
  cases r with
  | dic q1 z g rs =>
   rename_i a kvs ts
   cases kvs with
   | nil =>
    cases rs
    cases q
    exact jJr I (sim.rd q1)
   | cons p kvs => simp [datX] at h
  | non => exact jCh (X := X) (S := S) (as := as) .non rfl (fun _ _ e => nomatch e) q
  | bl b => exact jCh (X := X) (S := S) (as := as) (.bl b) rfl (fun _ _ e => nomatch e) q
  | int i => exact jCh (X := X) (S := S) (as := as) (.int i) rfl (fun _ _ e => nomatch e) q
  | str g => exact jCh (X := X) (S := S) (as := as) (.str g) rfl (fun _ _ e => nomatch e) q
  | tup => simp [datX] at h
  | lst => simp [datX] at h
  | obj => simp [datX] at h
  | ref => simp [datX] at h
  | exn => simp [datX] at h
  | cls => simp [datX] at h
  | exi => simp [datX] at h
 | succ n ih =>
  intro v t u r h q
  cases r with
  | tup q1 z rs => cases q; exact jR1 I ih (sim.sqT q1) rs (by simpa [datX] using h)
  | lst q1 z rs => cases q; exact jSz I ih (.inl (sim.rd q1)) rs (by simpa [datX] using h)
  | dic q1 z g rs =>
   rename_i a kvs ts
   cases kvs with
   | nil =>
    cases rs
    cases q
    exact jJr I (sim.rd q1)
   | cons p kvs => simp [datX] at h
  | non => exact jCh (X := X) (S := S) (as := as) .non rfl (fun _ _ e => nomatch e) q
  | bl b => exact jCh (X := X) (S := S) (as := as) (.bl b) rfl (fun _ _ e => nomatch e) q
  | int i => exact jCh (X := X) (S := S) (as := as) (.int i) rfl (fun _ _ e => nomatch e) q
  | str g => exact jCh (X := X) (S := S) (as := as) (.str g) rfl (fun _ _ e => nomatch e) q
  | obj => simp [datX] at h
  | ref => simp [datX] at h
  | exn => simp [datX] at h
  | cls => simp [datX] at h
  | exi => simp [datX] at h
theorem j60 (I : Inv X pins σ0 H s) (sim : Sim X.K F S as σ H E C) {v : V} {t : T} {u : Value} (r : Vw X.K S as H v t) (hs : seqT t = true) (h : datX 60 t = true) (q : RelV v u) : DX s.heap 60 u t := by
 cases r with
 | tup q1 z rs => cases q; exact jR1 I (jS8 I sim 59) (sim.sqT q1) rs (by simpa [datX] using h)
 | lst q1 z rs => cases q; exact jSz I (jS8 I sim 59) (.inl q1) rs (by simpa [datX] using h)
 | _ => cases hs
end
theorem jKv {X : Cx} (hg : X.A.guards = some []) (hu : X.A.units + 66 < cLine) : CallR X (.builtin "repr") (fun xs H Q => ∃ x t, xs = [x] ∧ (∃ F S as σ E C, Sim X.K F S as σ H E C ∧ Vw X.K S as H x t) ∧ seqT t = true ∧ datX 60 t = true ∧ (toD t).showable = true ∧ (toD t).shown.length ≤ sizeLine ∧ (PyData.strOk (toD t).shown = true → Q (.str (toD t).shown) H)) := by
 intro pins s σ H xs us Q I r h
 obtain ⟨x, t, rfl, ⟨F, S, as, σ1, E, C, sim, vw⟩, hs, hd, hsh, hz, q⟩ := h
 obtain ⟨u, rfl, ru⟩ := vals1 r
 have d := j60 I sim vw hs hd ru
 refine Calls.call_function_entry PySem.F.kind_repr PySem.F.plain_repr PySem.F.entry_repr (PySem.F.args_repr1 _) ?_
 have hdep := d.dep
 refine jEz (Q := fun r s' => EP X pins σ Q r s') (jE9 d.rx (fun kvs e => ?_) hsh hz _ _ s _ ?_ ?_ (fun _ _ e => e) fun h' tk t hk => ?_) fun r s' q => ?_
 ·cases t with
  | tup => simp [toD] at e
  | lst => simp [toD] at e
  | _ => cases hs
 ·exact hg
 ·show X.A.units + 1 + (toD _).depth < cLine
  omega
 ·exact ⟨.str _, H, I.kept (t' := t) hk, ⟨tk, rfl⟩, q d.ok⟩
 ·exact ⟨r, rfl, q⟩
theorem jJg {X : Cx} {rx : RX} {W : WX} (hg : X.A.guards = some []) (hu : X.A.units + 66 < cLine) : CallR X (.builtin "repr") (rBi X.K rx W .repr) := by
 refine jIm (crOr (jKt hg hu) (jKv hg hu)) fun vs H Q h => ?_
 obtain ⟨F, S, as, σ, E, C, ts, t, sim, r, ht, out⟩ := h
 cases r with
 | nil => cases ht
 | cons r1 rs =>
  cases rs with
  | cons => cases ht
  | nil =>
   rename_i v1 t1
   have ht : (jBt t1).map .str = some t := ht
   obtain ⟨x, hx, rfl⟩ := wae.mp ht
   unfold jBt at hx
   split at hx
   ·rename_i hz
    cases hx
    rw [wab, wab] at hz
    have d := r1.dp sim hz.1.1
    have z := jAp hz.2
    exact .inl ⟨_, _, rfl, d.dp, d.shaped (by decide), hz.1.2, z, out.old sim (.str ⟨z, jEn _ d.lay⟩) (fun _ e => nomatch e) fun _ _ e => nomatch e⟩
   ·split at hx
    ·rename_i hz
     cases hx
     simp only [wab] at hz
     have z := jAp hz.2
     exact .inr ⟨_, _, rfl, ⟨F, S, as, σ, E, C, sim, r1⟩, hz.1.1.1, hz.1.1.2, hz.1.2, z, fun hok => out.old sim (.str ⟨z, hok⟩) (fun _ e => nomatch e) fun _ _ e => nomatch e⟩
    ·cases hx
section
variable (Φ : Calls) (E : Env)
theorem jOg (b : Bi) (es : Exs) : ev Φ (.bi b es) E = M.bind (evS Φ es E) fun ts => lift "bi" (biT b ts) := rfl
theorem jMo (a : Ex) (ty : Ty) (ks : List Str) : ev Φ (.isi a ty ks) E = M.bind (ev Φ a E) fun x => M.bind (lift "isi" (isiT ks x ty)) fun b => M.pure (.bl b) := rfl
end
section
variable {X : Cx} {rx : RX} {W : WX} {Φ : Calls} {a b e : Expr} {xa : Ex} {xs : Exs} {es : List Expr} {pos p : Pos} {x : Str} {id Tn : String}
theorem jRx {b : Bi} (hc : CallR X (.builtin id) (rBi X.K rx W b)) (hg : Gl X x) (hm : X.mg x = none) (hv : bootBuiltins x = some (.builtin id)) (ha : PA X (e :: es) (Dn X.K rx W (trS xs) (evS Φ xs) (rL (rW X.K)))) (hn : x ≠ "__name__") (hdb : (x == ("__debug__" : Str)) = false)
  (he : starEach (e :: es) X.env = (false, eval e X.env) :: starEach es X.env) (hpl : (backTo pos (starEach es X.env)).any (·.1) = false) : PE X (.Call (.Name x p) (e :: es) [] pos) (DF X.K rx W Φ (.bi b xs)) := by
 refine jAq (pe_callB hc hg hm hv ha hn hdb he hpl) fun σ H Q ⟨F, S, as, E, C, sim, no, out⟩ => ?_
 rw [jOg] at out
 refine ⟨F, S, as, E, C, sim, no, out.bind fun v t S1 as1 H1 C1 l1 p1 sim1 r1 out1 => ?_⟩
 obtain ⟨t3, ht, out2⟩ := out1.lift
 exact ⟨F, S1, as1, σ, E, C1, t, t3, sim1, AllR.imp (fun v t r => okW.vw r sim1) r1, ht, out2⟩
theorem j0e {b : Bi} (hc : CallR X (.type Tn) (rBi X.K rx W b)) (hg : Gl X x) (hm : X.mg x = none) (hv : bootBuiltins x = some (.type Tn)) (ha : PA X (e :: es) (Dn X.K rx W (trS xs) (evS Φ xs) (rL (rW X.K)))) (hn : x ≠ "__name__") (hdb : (x == ("__debug__" : Str)) = false)
  (he : starEach (e :: es) X.env = (false, eval e X.env) :: starEach es X.env) (hpl : (backTo pos (starEach es X.env)).any (·.1) = false) : PE X (.Call (.Name x p) (e :: es) [] pos) (DF X.K rx W Φ (.bi b xs)) := by
 refine jAq (pe_callTy hc hg hm hv ha hn hdb he hpl) fun σ H Q ⟨F, S, as, E, C, sim, no, out⟩ => ?_
 rw [jOg] at out
 refine ⟨F, S, as, E, C, sim, no, out.bind fun v t S1 as1 H1 C1 l1 p1 sim1 r1 out1 => ?_⟩
 obtain ⟨t3, ht, out2⟩ := out1.lift
 exact ⟨F, S1, as1, σ, E, C1, t, t3, sim1, AllR.imp (fun v t r => okW.vw r sim1) r1, ht, out2⟩
def tyV (K : PySem.W.Frag) : Ty → V
 | .str => .ty "str" | .int => .ty "int" | .bool => .ty "bool" | .tuple => .ty "tuple" | .list => .ty "list"
 | .cls c => .ref (ca K c)
theorem jSg (K : PySem.W.Frag) (ty : Ty) : ClsV (tyV K ty) (tyU K ty) := by cases ty <;> first | exact .ty _ | exact .own _
theorem jSl {K : PySem.W.Frag} {F S : Hp} {as : List Addr} {σ : L2.St} {H : Hp} {E : Env} {C : jAa} {v : V} {t : T} {ty : Ty} {ks : List Str} {k : Bool} (sim : Sim K F S as σ H E C) (r : Vw K S as H v t) (ok : jOs K ty ks) (h : isiT ks t ty = some k) :
  ∃ tv, TyX K H v tv ∧ PySem.W.kitOne K tv (tyU K ty) = some k := by
 have bt : ∀ n ∈ jH9, (∀ c', ty ≠ .cls c') → ∀ b, kitB n (match ty with | .str => "str" | .int => "int" | .bool => "bool" | .tuple => "tuple" | .list => "list" | .cls _ => "") = some b → PySem.W.kitOne K (.type n) (tyU K ty) = some b := fun n hn hc b hb => by
  cases ty <;> first | exact kit_ty hb | exact absurd rfl (hc _)
 cases r with
 | non =>
  refine ⟨_, .base .non, ?_⟩
  cases ty <;> simp only [isiT] at h <;> cases h <;> first | exact kit_ty (by decide +kernel) | exact ok.own _ rfl _ (by decide)
 | bl b =>
  refine ⟨_, .base (.bl b), ?_⟩
  cases ty <;> simp only [isiT] at h <;> cases h <;> first | exact kit_ty (by decide +kernel) | exact ok.own _ rfl _ (by decide)
 | int b =>
  refine ⟨_, .base (.int b), ?_⟩
  cases ty <;> simp only [isiT] at h <;> cases h <;> first | exact kit_ty (by decide +kernel) | exact ok.own _ rfl _ (by decide)
 | str g =>
  refine ⟨_, .base (.str _), ?_⟩
  cases ty <;> simp only [isiT] at h <;> cases h <;> first | exact kit_ty (by decide +kernel) | exact ok.own _ rfl _ (by decide)
 | @tup a vs ts q z rs =>
  refine ⟨.type "tuple", ?_, ?_⟩
  ·rcases sim.sqT q with (e | ⟨o, e⟩) | ⟨o, its, n, e, c, _⟩
   ·exact .base (.tup e)
   ·exact .fTuple e
   ·exact .kTuple e c
  ·cases ty <;> simp only [isiT] at h <;> cases h <;> first | exact kit_ty (by decide +kernel) | exact ok.own _ rfl _ (by decide)
 | @lst a vs ts q z rs =>
  refine ⟨.type "list", ?_, ?_⟩
  ·rcases q with e | ⟨o, e⟩
   ·exact .base (.lst e)
   ·exact .base (.frz e)
  ·cases ty <;> simp only [isiT] at h <;> cases h <;> first | exact kit_ty (by decide +kernel) | exact ok.own _ rfl _ (by decide)
 | @dic a kvs ts q z g rs =>
  refine ⟨.type "dict", ?_, ?_⟩
  ·rcases q with e | ⟨o, e⟩
   ·exact .base (.dK e)
   ·exact .fDict e
  ·cases ty <;> simp only [isiT] at h <;> cases h <;> first | exact kit_ty (by decide +kernel) | exact ok.own _ rfl _ (by decide)
 | @obj a dx fs c ts q rs =>
  simp only [isiT] at h
  split at h
  ·rename_i hc
   obtain ⟨co, hk⟩ := ok.ob c (by simpa using hc)
   refine ⟨_, .base (.ins q co.cls co.cc ok.t.sp ok.t.tk co.mro), ?_⟩
   rw [hk]
   exact h
  ·cases h
 | ref e => cases ty <;> cases h
 | exn e r => cases ty <;> cases h
 | cls => cases ty <;> cases h
 | exi => cases ty <;> cases h
theorem j51 {ty : Ty} {ks : List Str} (ok : jOs X.K ty ks) (hg : Gl X "isinstance") (hm : X.mg "isinstance" = none) (ha : PE X a (DW X.K rx W Φ xa)) (hb : PE X b (tC (tyV X.K ty)))
  (h1 : starEach [a, b] X.env = (false, eval a X.env) :: starEach [b] X.env) (h2 : starEach [b] X.env = (false, eval b X.env) :: starEach [] X.env) (hpl : (backTo pos (starEach [b] X.env)).any (·.1) = false) : PE X (.Call (.Name "isinstance" p) [a, b] [] pos) (DE X.K rx W Φ (.isi xa ty ks)) := by
 refine jAq (pe_callB call_isi hg hm (by kernel_rfl) (pa_cons ha (pa_cons hb pa_nil h2) h1) (by decide) (by decide) h1 hpl) fun σ H Q ⟨F, S, as, E, C, sim, no, out⟩ => ?_
 rw [jMo] at out
 refine ⟨F, S, as, E, C, sim, no, out.bind fun v t S1 as1 H1 C1 l1 p1 sim1 r1 out1 => ?_⟩
 obtain ⟨k, hk, out2⟩ := out1.liftB
 obtain ⟨tv, h1, h2⟩ := jSl sim1 (r1.vw sim1) ok hk
 exact ⟨v, _, tv, _, k, rfl, jSg _ _, h1, h2, out2.here sim1 (.bl k)⟩
theorem jYy (Φ : Calls) (E : Env) (a : Ex) (ty : Ty) (ks : List Str) : ev Φ (.isd a ty ks) E = M.bind (ev Φ a E) fun x => M.bind (deref x) fun y => M.bind (lift "isi" (isiT ks y ty)) fun b => M.pure (.bl b) := rfl
theorem j9x {ty : Ty} {ks : List Str} (ok : jOs X.K ty ks) (hg : Gl X "isinstance") (hm : X.mg "isinstance" = none) (ha : PE X a (DW X.K rx W Φ xa)) (hb : PE X b (tC (tyV X.K ty)))
  (h1 : starEach [a, b] X.env = (false, eval a X.env) :: starEach [b] X.env) (h2 : starEach [b] X.env = (false, eval b X.env) :: starEach [] X.env) (hpl : (backTo pos (starEach [b] X.env)).any (·.1) = false) : PE X (.Call (.Name "isinstance" p) [a, b] [] pos) (DE X.K rx W Φ (.isd xa ty ks)) := by
 refine jAq (pe_callB call_isi hg hm (by kernel_rfl) (pa_cons ha (pa_cons hb pa_nil h2) h1) (by decide) (by decide) h1 hpl) fun σ H Q ⟨F, S, as, E, C, sim, no, out⟩ => ?_
 rw [jYy] at out
 refine ⟨F, S, as, E, C, sim, no, out.bind fun v t S1 as1 H1 C1 l1 p1 sim1 r1 out1 => ?_⟩
 have out1 : Out X.K rx W F σ E (M.bind (SI.lift "isi" (isiT ks (jAu C1 t) ty)) (fun b => M.pure (T.bl b)) C1) (rE X.K F σ E) S1 as1 Q := out1
 obtain ⟨k, hk, out2⟩ := out1.liftB
 obtain ⟨tv, h1, h2⟩ := jSl sim1 ((r1.vw sim1).deref sim1) ok hk
 exact ⟨v, _, tv, _, k, rfl, jSg _ _, h1, h2, out2.here sim1 (.bl k)⟩
theorem jCu {K : PySem.W.Frag} {S : Hp} {as : List Addr} {f : Str} {t : T} : ∀ {fs : List (Str × V)} {ts : List T}, Reps K S as (fs.map (·.2)) ts → jKm f (fs.map (·.1)) ts = some t → ∃ v, fs.lookup f = some v ∧ Rep K S as v t
 | [], _, _, h => by cases h
 | (n, v) :: fs, u :: ts, .cons r rs, h => by
  simp only [war, jKm] at h
  by_cases e : n = f
  ·rw [if_pos e] at h
   cases h
   refine ⟨v, ?_, r⟩
   rw [waV, e]
   simp
  ·rw [if_neg e] at h
   obtain ⟨w, h1, h2⟩ := jCu rs h
   refine ⟨w, ?_, h2⟩
   rw [waV]
   have : (f == n) = false := by simpa using fun e' => e e'.symm
   rw [this]
   exact h1
theorem jU3 (Φ : Calls) (E : Env) (o : Ex) (c f : Str) : ev Φ (.attr o c f) E = M.bind (ev Φ o E) fun x => M.bind (deref x) fun y => M.bind (need "attr" (isC c y)) fun _ => lift "attr" (jT1 f y) := rfl
theorem jQx {c f : Str} (cl : Cls X.K (ca X.K c)) (na : NoAttr X.K (ca X.K c) f) (ha : PE X a (DW X.K rx W Φ xa)) (hb : attributeBase a f X.env (eval a X.env) = eval a X.env) : PE X (.Attribute a f pos) (DE X.K rx W Φ (.attr xa c f)) := by
 refine jAq (pe_fld ha hb) fun σ H Q ⟨F, S, as, E, C, sim, no, out⟩ => ?_
 rw [jU3] at out
 refine ⟨F, S, as, E, C, sim, no, out.bind fun v t S1 as1 H1 C1 l1 p1 sim1 r1 out1 => ?_⟩
 have r := (r1.vw sim1).deref sim1
 have out2 : Out X.K rx W F σ E (M.bind (need "attr" (isC c (jAu C1 t))) (fun _ => lift "attr" (jT1 f (jAu C1 t))) C1) (rE X.K F σ E) S1 as1 Q := out1
 obtain ⟨hc, out3⟩ := out2.needB
 obtain ⟨t3, ht, out4⟩ := out3.lift
 generalize jAu C1 t = td at r hc ht
 cases r with
 | @obj a dx fs c' ts q rs =>
  obtain rfl : c' = c := by simpa [isC] using hc
  obtain ⟨w, h1, h2⟩ := jCu rs ht
  exact ⟨a, _, dx, fs, w, rfl, q, cl, na, h1, out4.here sim1 h2⟩
 | _ => cases ht
end
section
variable {P : Program} {w : World} {K : PySem.W.Frag} {mg : Str → Option Value} {base : Heap} {CX : CXT} {k j : Nat} {f C : Addr} {fd : FuncData} {ps : List Str} {sp sp' : Sp}
theorem jLi {X : Cx} {pins : List (Addr × Obj)} {σ : L2.St} {H : Hp} {s : Shared} {Q : VK} {E : XK} (I : Inv X pins σ H s) (hx : PassesAt CX X σ E) {r : Result} {s' : Shared} (h : CR CX X.stack X.prog X.w H s Q E r s') :
  (∃ u, r = .ok (.ret u) ∧ EP X pins σ Q u s') ∨ ∃ e, r = .error e ∧ X.xe e s' := by
 rcases r with e | fl
 ·exact .inr ⟨e, rfl, hx pins H s e s' I h⟩
 ·cases fl with
  | ret u => exact .inl ⟨u, rfl, I.after h⟩
  | next => exact False.elim h
  | brk => exact False.elim h
  | cont => exact False.elim h
theorem jYp {X : Cx} {pins : List (Addr × Obj)} {σ : L2.St} {H : Hp} {s : Shared} {Q : VK} {E : XK} {f : Value} {us : List Value} {kw : List (Str × Value)} (I : Inv X pins σ H s) (hx : PassesAt CX X σ E)
  (h : codeAny (model X.prog X.w) X.A (.call f ⟨us, kw⟩) (CR CX X.stack X.prog X.w H s Q E) s) : wpAny (model X.prog X.w) X.A (PySem.call f us kw) (EP X pins σ Q) X.xe s := by
 refine wbs (wa9 h fun r s' hq => ?_)
 rcases jLi I hx hq with ⟨u, e, q⟩ | ⟨e, e1, q⟩
 ·subst e; exact q
 ·subst e1; exact q
theorem jNq {X : Cx} {pins : List (Addr × Obj)} {σ : L2.St} {H : Hp} {s : Shared} {Q : VK} {E : XK} {us zs : List Value} {kw : List (Str × Value)} {vs : List V} (Fn : FnG X.prog X.w X.K X.mg X.base CX k f fd ps sp) (hr : Room k X.A) (hgd : X.A.guards = some []) (hx : PassesAt CX X σ E)
  (I : Inv X pins σ H s) (hb : BindsTo s fd ⟨us, kw⟩ (ps.zip zs)) (r : Vals vs zs) (h : sp vs H Q E) : wpAny (model X.prog X.w) X.A (PySem.call (.ref f) us kw) (EP X pins σ Q) X.xe s :=
 jYp I hx (Fn.run X.A X.stack s H ⟨us, kw⟩ zs vs Q E hr hgd I.env0 hb r h)
theorem jO5 {name qual : Str} {params : Arguments} {body : List Stmt} {scope : Scope} {dV kV doc pm cdv ct oc : Value} {an od : Option Addr} {osl : Array (Option Value)} {N : List Str} (lk : K.lookup f = some ⟨oc, od, .func (PySem.W.fnOf name qual params body scope dV kV doc pm an cdv ct), osl⟩)
  (hcd : PySem.W.codeIn K cdv qual = true) (S : FnScope N ps scope) (len : ∀ vs H Q E, sp vs H Q E → vs.length = ps.length)
  (hbody : ∀ (A : Around) (fr : List PySem.Env) (s : Shared) (H : Hp) (vs : List V) (Q : VK) (E : XK), Room k (A.deeper (envOfC qual scope s.heap.objs.size f cdv)) → A.guards = some [] → sp vs H Q E →
    ∃ t, PSs (cxOf CX P w K mg base N qual scope f cdv A fr s H E) body t ∧ t { nx := fun _ H' => Q .non H', rt := Q } (start N vs) H) :
  FnG P w K mg base CX (k + 1) f (PySem.W.fnOf name qual params body scope dV kV doc pm an cdv ct) ps sp := by
 refine ⟨len, fun A fr s H args us vs Q E hr hgd e0 hb r hsp => ?_⟩
 have hK : K.In s.heap := e0.mod.kin.keeps fun b o e => (e0.bs b o e).1
 have hL : s.heap.NoLimit := e0.mod.nolimit.keeps fun b o e => (e0.bs b o e).1
 refine codeAny_call_function hr.depth (hK _ _ lk) rfl S.co S.gen rfl (PySem.W.codeRec_of hK hcd) (hb _ _ _ _ (wpAny_newFunctionEnv_cells S.kind (fun y hy => ?_) fun env he s1 x => ?_))
 ·exact (S.par y.1 (List.of_mem_zip (show (y.1, y.2) ∈ ps.zip us from hy)).1).imp id fun q => ⟨q, PySem.W.cellsFrom_some _ _ _ (.inl q)⟩
 subst he
 refine ⟨hL.keeps x.toInCall.keep, codeAny_func ?_⟩
 obtain ⟨t, ht, hq⟩ := hbody A fr s H vs Q E (hr.deeper _) hgd hsp
 refine wpAny_mono (ht.run [] s1 (start N vs) H _ (inv_start S hr.hd e0 (len _ _ _ _ hsp) r x) hq) (fun fl s' hs => ?_) fun e s' hs => hs
 have fin : ∀ {σ' : L2.St} {H' : Hp} {v : V} {u : Value}, Inv (cxOf CX P w K mg base N qual scope f cdv A fr s H E) [] σ' H' s' → RelV v u → Q v H' → CE fr P w H s Q u s' :=
  fun {σ' H' v u} J rv q => ⟨v, H', J.os, J.bare, J.base, J.hok, rv, q⟩
 cases fl with
 | brk => exact hs.elim fun _ q => q.elim fun _ q => q.2.elim
 | cont => exact hs.elim fun _ q => q.elim fun _ q => q.2.elim
 | next => exact hs.elim fun _ q => q.elim fun _ q => fin (v := V.non) (u := Value.none) q.1 rfl q.2
 | ret u => exact hs.elim fun _ q => q.elim fun _ q => q.elim fun _ q => fin q.1 q.2.1 q.2.2
end
theorem jOp {ps : List Str} {f : Str × Value → List (Str × Value) × List (Str × Value) → Sem (ForInStep (List (Str × Value) × List (Str × Value)))} {ex : List (Str × Value)}
  (hf : ∀ p slots, ps.contains p.1 = true → (slots.lookup p.1).isNone = true → f p (slots, ex) = pure (.yield (slots ++ [p], ex))) :
  ∀ (kws slots : List (Str × Value)), jE3 ps slots kws = true → forIn kws (slots, ex) f = pure (slots ++ kws, ex)
 | [], slots, _ => by rw [List.forIn_nil, waL]
 | p :: r, slots, h => by
  simp only [jE3, wab] at h
  rw [List.forIn_cons, hf p slots h.1.1 h.1.2, wbu]
  show forIn r (slots ++ [p], ex) f = _
  rw [jOp hf r _ h.2, List.append_assoc]
  rfl
theorem jSa {f : Str × Value → List (Str × Value) → Sem (ForInStep (List (Str × Value)))} (hf : ∀ p slots, f p slots = pure (.yield (if (slots.lookup p.1).isNone = true then slots ++ [p] else slots))) :
  ∀ (ds slots : List (Str × Value)), forIn ds slots f = pure (addD slots ds)
 | [], slots => by rw [List.forIn_nil]; rfl
 | p :: r, slots => by
  rw [List.forIn_cons, hf p slots, wbu]
  exact jSa hf r _
theorem jKj {M : Model} {h : Heap} {fd : FuncData} {ps : List Str} {us : List Value} {kws : List (Str × Value)} {dv : Option (Array Value)} {dl : List Value}
  (h1 : fd.params.posonlyargs = []) (h2 : fd.params.args.map (·.arg) = ps) (h3 : fd.params.kwonlyargs = []) (h4 : fd.params.vararg = none) (h5 : fd.params.kwarg = none)
  (hn : us.length ≤ ps.length) (hk : jE3 ps (ps.zip us) kws = true) (hd : ∀ {α : Type} (k : Option (Array Value) → Sem α) (r : α), PySem.W.Looks M h (k dv) r → PySem.W.Looks M h (seqItems? fd.defaults >>= k) r)
  (hdl : (dv.getD #[]).toList = dl) (hl : dl.length ≤ ps.length) (hm : (ps.take (ps.length - dl.length)).all (fun n => ((ps.zip us ++ kws).lookup n).isSome) = true) :
  PySem.W.Looks M h (bindArgs fd ⟨us, kws⟩) (ps.filterMap fun n => ((addD (ps.zip us ++ kws) ((ps.drop (ps.length - dl.length)).zip dl)).lookup n).map fun v => (n, v)) := by
 unfold bindArgs
 simp only [h1, h2, h3, h4, h5, List.map_nil, List.nil_append]
 rw [jOp (ps := ps) (ex := []) (fun p slots hp hs => ?_) kws (ps.zip us) hk, wbu]
 ·refine hd _ _ ?_
  rw [hdl]
  have e1 : ¬ ((decide (us.length > ps.length) && (none : Option Arg).isNone) = true) := by simp; omega
  have e2 : dl.length - ps.length = 0 := by omega
  have e3 : List.filter (fun n => (List.lookup n (ps.zip us ++ kws)).isNone) (List.take (ps.length - dl.length) ps) = [] := by
   rw [List.filter_eq_nil_iff]
   intro n hn
   have := wag.mp hm n hn
   cases e : List.lookup n (ps.zip us ++ kws) with
   | none => rw [e] at this; cases this
   | some v => simp
  simp only [if_neg e1, e2, List.drop_zero, e3]
  refine .of_pure ?_
  rw [if_neg (by simp), jSa (fun p slots => by
   split <;> simp_all), wbu, List.forIn_nil, wbu, if_neg (by simp)]
  simp
 ·dsimp only
  have e1 : (ps.contains p.1 || ([] : List Str).contains p.1) = true := by rw [hp]; rfl
  have e2 : ¬ ((List.lookup p.1 slots).isSome = true) := by
   cases e : List.lookup p.1 slots with
   | none => simp
   | some v => rw [e] at hs; cases hs
  rw [if_pos e1, if_neg e2]
def ixAt {α : Type} (xs dl : List α) (d : α) : Ix → α
 | .inl i => xs.getD i d
 | .inr j => dl.getD j d
section
variable {α β : Type} (g : α → β)
theorem jCk (x : Str) : ∀ l : List (Str × α), (l.map fun p => (p.1, g p.2)).lookup x = (l.lookup x).map g
 | [] => rfl
 | p :: r => by
  rw [war, waV, waV, jCk x r]
  cases x == p.1 <;> rfl
theorem jJ6 (ps : List Str) : ∀ (l sl : List (Str × α)), jE3 ps (sl.map fun p => (p.1, g p.2)) (l.map fun p => (p.1, g p.2)) = jE3 ps sl l
 | [], _ => rfl
 | p :: r, sl => by
  have ih := jJ6 ps r (sl ++ [p])
  rw [List.map_append] at ih
  simp only [war, jE3, jCk, Option.isNone_map]
  rw [← ih]
  rfl
theorem jMp : ∀ (l sl : List (Str × α)), addD (sl.map fun p => (p.1, g p.2)) (l.map fun p => (p.1, g p.2)) = (addD sl l).map fun p => (p.1, g p.2)
 | [], _ => rfl
 | p :: r, sl => by
  have ih := jMp r (if (sl.lookup p.1).isNone = true then sl ++ [p] else sl)
  simp only [war, addD, jCk, Option.isNone_map]
  rw [← ih]
  congr 1
  split
  ·rw [List.map_append]; rfl
  ·rfl
theorem jIz : ∀ (ps : List Str) (xs : List α), (ps.zip xs).map (fun p => (p.1, g p.2)) = ps.zip (xs.map g)
 | [], _ => rfl
 | _ :: _, [] => rfl
 | p :: ps, x :: xs => by
  rw [List.zip_cons_cons, war, war, List.zip_cons_cons, jIz ps xs]
end
theorem jGm {α : Type} {xs dl : List α} (d : α) : ∀ {pl : List PArg} {zs : List α}, jAt xs dl pl = some zs → zs = pl.map fun p => ixAt xs dl d p.ix
 | [], _, h => by simp only [jAt] at h; cases h; rfl
 | .arg i :: r, zs, h => by
  simp only [jAt] at h
  obtain ⟨x, h1, h⟩ := wal.mp h
  obtain ⟨ys, h2, e⟩ := wae.mp h
  subst e
  rw [war, ← jGm d h2]
  congr 1
  show x = xs.getD i d
  rw [List.getD, h1]; rfl
 | .dflt j _ :: r, zs, h => by
  simp only [jAt] at h
  obtain ⟨x, h1, h⟩ := wal.mp h
  obtain ⟨ys, h2, e⟩ := wae.mp h
  subst e
  rw [war, ← jGm d h2]
  congr 1
  show x = dl.getD j d
  rw [List.getD, h1]; rfl
theorem jHv {α : Type} (xs ys : List α) (d : α) : (List.range ys.length).map (fun i => (xs ++ ys).getD (xs.length + i) d) = ys := by
 refine List.ext_getElem (by simp) fun i h1 h2 => ?_
 simp only [List.getElem_map, List.getElem_range]
 rw [List.getD, wa3 (by omega), Nat.add_sub_cancel_left, wad h2]
 rfl
theorem jJ7 {α : Type} {f : Str → Option α} : ∀ {ps : List Str} {zs : List α}, ps.map f = zs.map some → (ps.filterMap fun n => (f n).map fun v => (n, v)) = ps.zip zs
 | [], [], _ => rfl
 | [], _ :: _, h => by cases h
 | _ :: _, [], h => by cases h
 | p :: ps, z :: zs, h => by
  rw [war, war] at h
  injection h with h1 h2
  rw [List.filterMap_cons, h1, List.zip_cons_cons, ← jJ7 h2]
  rfl
theorem jBu {M : Model} {h : Heap} {fd : FuncData} {ps ks : List Str} {us ws zs : List Value} {dv : Option (Array Value)} {dl : List Value} {n nd : Nat} {pl : List PArg}
  (h1 : fd.params.posonlyargs = []) (h2 : fd.params.args.map (·.arg) = ps) (h3 : fd.params.kwonlyargs = []) (h4 : fd.params.vararg = none) (h5 : fd.params.kwarg = none)
  (hu : us.length = n) (hw : ws.length = ks.length) (hnd : dl.length = nd) (hd : ∀ {α : Type} (k : Option (Array Value) → Sem α) (r : α), PySem.W.Looks M h (k dv) r → PySem.W.Looks M h (seqItems? fd.defaults >>= k) r)
  (hdl : (dv.getD #[]).toList = dl) (ok : plOk ps n ks nd pl = true) (hp : jAt (us ++ ws) dl pl = some zs) : PySem.W.Looks M h (bindArgs fd ⟨us, ks.zip ws⟩) (ps.zip zs) := by
 subst hu
 subst hnd
 simp only [plOk, wab, wac] at ok
 obtain ⟨⟨⟨⟨o1, o2⟩, o3⟩, o4⟩, o5⟩ := ok
 generalize hg : ixAt (us ++ ws) dl Value.none = g at *
 have e1 : ps.zip us = (ps.zip (ixN 0 us.length)).map fun p => (p.1, g p.2) := by
  rw [jIz]
  congr 1
  unfold ixN
  rw [List.map_map, ← hg]
  refine List.ext_getElem (by simp) fun i h1 h2 => ?_
  simp only [List.getElem_map, List.getElem_range, Function.comp, ixAt, Nat.zero_add]
  rw [List.getD, waM h1, wad h1]
  rfl
 have e2 : ks.zip ws = (ks.zip (ixN us.length ks.length)).map fun p => (p.1, g p.2) := by
  rw [jIz]
  congr 1
  unfold ixN
  rw [List.map_map, ← hg, ← hw]
  exact (jHv us ws Value.none).symm
 have e3 : ∀ l : List Str, l.zip dl = (l.zip (ixD dl.length)).map fun p => (p.1, g p.2) := fun l => by
  rw [jIz]
  congr 1
  unfold ixD
  rw [List.map_map, ← hg]
  have := jHv [] dl Value.none
  simp only [List.nil_append, List.length_nil, Nat.zero_add] at this
  exact this.symm
 have key := jKj (M := M) (h := h) (us := us) (kws := ks.zip ws) h1 h2 h3 h4 h5 o1 (by rw [e1, e2, jJ6]; exact o3) hd hdl o2 (by
  rw [e1, e2, ← List.map_append]
  simp only [jCk, Option.isSome_map]
  exact o4)
 rw [e1, e2, e3, ← List.map_append, jMp] at key
 simp only [jCk] at key
 have hz := jGm Value.none hp
 rw [hg] at hz
 rw [jJ7 (zs := zs)] at key
 ·rw [← e2] at key; exact key
 ·have o6 := wbe (List.map (Option.map g)) o5
  rw [List.map_map, List.map_map] at o6
  rw [hz, List.map_map]
  exact o6
theorem jCn {vs dvs : List V} {us dl : List Value} (r : Vals vs us) (rd : Vals dvs dl) : ∀ {pl : List PArg} {zs : List V}, jAt vs dvs pl = some zs → ∃ ys, jAt us dl pl = some ys ∧ Vals zs ys
 | [], _, h => by simp only [jAt] at h; cases h; exact ⟨[], rfl, .nil⟩
 | .arg i :: pl, _, h => by
  simp only [jAt] at h
  obtain ⟨x, h1, h⟩ := wal.mp h
  obtain ⟨ys, h2, e⟩ := wae.mp h
  subst e
  obtain ⟨ws, h3, h4⟩ := jCn r rd h2
  obtain ⟨u, h5, h6⟩ := r.get h1
  exact ⟨u :: ws, by simp only [jAt, h5, h3, Option.bind_some, Option.map_some], .cons h6 h4⟩
 | .dflt i _ :: pl, _, h => by
  simp only [jAt] at h
  obtain ⟨x, h1, h⟩ := wal.mp h
  obtain ⟨ys, h2, e⟩ := wae.mp h
  subst e
  obtain ⟨ws, h3, h4⟩ := jCn r rd h2
  obtain ⟨u, h5, h6⟩ := rd.get h1
  exact ⟨u :: ws, by simp only [jAt, h5, h3, Option.bind_some, Option.map_some], .cons h6 h4⟩
theorem jDm {K : PySem.W.Frag} {S : Hp} {as : List Addr} {vs dvs : List V} {ts dT : List T} (r : Reps K S as vs ts) (rd : Reps K S as dvs dT) : ∀ {pl : List PArg} {us : List T}, (∀ j t, PArg.dflt j t ∈ pl → dT[j]? = some t) → pick ts pl = some us → ∃ zs, jAt vs dvs pl = some zs ∧ Reps K S as zs us
 | [], _, _, h => by simp only [pick] at h; cases h; exact ⟨[], rfl, .nil⟩
 | .arg i :: pl, _, hd, h => by
  simp only [pick] at h
  obtain ⟨x, h1, h⟩ := wal.mp h
  obtain ⟨ys, h2, e⟩ := wae.mp h
  subst e
  obtain ⟨ws, h3, h4⟩ := jDm r rd (fun j t m => hd j t (wak _ m)) h2
  obtain ⟨u, h5, h6⟩ := r.get h1
  exact ⟨u :: ws, by simp only [jAt, h5, h3, Option.bind_some, Option.map_some], .cons h6 h4⟩
 | .dflt j t :: pl, _, hd, h => by
  simp only [pick] at h
  obtain ⟨ys, h2, e⟩ := wae.mp h
  subst e
  obtain ⟨ws, h3, h4⟩ := jDm r rd (fun j t m => hd j t (wak _ m)) h2
  obtain ⟨u, h5, h6⟩ := rd.get (hd j t wah)
  exact ⟨u :: ws, by simp only [jAt, h5, h3, Option.bind_some, Option.map_some], .cons h6 h4⟩
theorem jAd {e : Expr} {es : List Expr} {env : PySem.Env} (h : noStar e = true) : starEach (e :: es) env = (false, eval e env) :: starEach es env := by
 cases e <;> first | rfl | (cases h; done)
theorem jCo {env : PySem.Env} {pos : Pos} : ∀ {es : List Expr}, es.all noStar = true → (backTo pos (starEach es env)).any (·.1) = false
 | [], _ => rfl
 | e :: es, h => by
  rw [waR, wab] at h
  rw [jAd h.1]
  have ih := jCo (env := env) (pos := pos) h.2
  show (false || (backTo pos (starEach es env)).any (·.1)) = false
  rw [ih]
  rfl
theorem jJo {env : PySem.Env} {pos : Pos} : ∀ {kws : List Keyword} {ks : List Str}, kws.map (·.arg) = ks.map some →
  (backToKw pos (keywordEach kws env)).all (·.1.isSome) = true ∧ (backToKw pos (keywordEach kws env)).any (·.1.isNone) = false ∧ (backToKw pos (keywordEach kws env)).filterMap (·.1) = ks
 | [], [], _ => ⟨rfl, rfl, rfl⟩
 | [], _ :: _, h => by cases h
 | _ :: _, [], h => by cases h
 | ⟨nm, v, p⟩ :: kws, k :: ks, h => by
  rw [war, war] at h
  injection h with h1 h2
  obtain ⟨a, b, c⟩ := jJo (env := env) (pos := pos) h2
  have h1 : nm = some k := h1
  subst h1
  refine ⟨a, b, ?_⟩
  show k :: (backToKw pos (keywordEach kws env)).filterMap (·.1) = _
  rw [c]
def jCa : Nat → Exs → Exs
 | 0, _ => .nil
 | _ + 1, .nil => .nil
 | n + 1, .cons e r => .cons e (jCa n r)
def jCw : Nat → Exs → Exs
 | 0, xs => xs
 | _ + 1, .nil => .nil
 | n + 1, .cons _ r => jCw n r
theorem jAg {α β γ : Type} (m : M α) (f : α → M β) (g : β → M γ) : M.bind (M.bind m f) g = M.bind m fun x => M.bind (f x) g := by
 funext C
 simp only [M.bind]
 cases m C <;> rfl
theorem jBx {α β : Type} (a : α) (f : α → M β) : M.bind (M.pure a) f = f a := rfl
theorem jEg (Φ : Calls) (E : Env) : ∀ (n : Nat) (xs : Exs), evS Φ xs E = M.bind (evS Φ (jCa n xs) E) fun a => M.bind (evS Φ (jCw n xs) E) fun b => M.pure (a ++ b)
 | 0, xs => by
  rw [jCa, jCw, jOi, jBx]
  funext C
  simp only [M.bind]
  cases evS Φ xs E C <;> rfl
 | n + 1, .nil => rfl
 | n + 1, .cons e r => by
  rw [jCa, jCw, jA5, jA5, jAg]
  congr 1
  funext x
  rw [jEg Φ E n r, jAg, jAg]
  congr 1
  funext a
  rw [jAg, jBx]
  rfl
theorem jDp : ∀ (n : Nat) (xs : Exs), escS xs = escS (jCa n xs) ++ escS (jCw n xs)
 | 0, xs => rfl
 | n + 1, .nil => rfl
 | n + 1, .cons e r => by
  rw [jCa, jCw, escS, escS, jDp n r, List.append_assoc]
theorem jCc (Φ : Calls) (E : Env) : ∀ (xs : Exs) (C C' : jAa) (ts : List T), evS Φ xs E C = .ok ts C' → ts.length = lenS xs
 | .nil, C, C', ts, h => by cases h; rfl
 | .cons e r, C, C', ts, h => by
  rw [jA5] at h
  simp only [M.bind] at h
  split at h
  ·split at h
   ·rename_i h2
    cases h
    rw [waq, jCc Φ E r _ _ _ h2]
    rfl
   ·cases h
   ·cases h
  ·cases h
  ·cases h
theorem AllR.reps' {K : PySem.W.Frag} {F σ E S as H} {vs : List V} {ts : List T} (h : rL (rE K) F σ E S as H vs ts) : Reps K S as vs ts := AllR.reps h
section
variable {X : Cx} {rx : RX} {W : WX} {Φ : Calls}
theorem jT7 {kws : List Keyword} {t t' : TA} (h : PK X kws t) (k : ∀ σ H Q, t' σ H Q → t σ H Q) : PK X kws t' := ⟨fun pos pins s σ H Q I q => h.run pos pins s σ H Q I (k _ _ _ q)⟩
theorem jW2 {R : RR V T} : PK X [] (Dn X.K rx W [] (evS Φ .nil) (rL R)) := jT7 pk_nil fun σ H Q ⟨F, S, as, E, C, sim, no, out⟩ => out.here sim .nil
theorem jPi {a : Expr} {xa : Ex} {xs : Exs} {is js : List Nat} {kws : List Keyword} {nm : Option Str} {kpos : Pos} {R : RR V T} (ok : OkR X.K R) (ha : PE X a (Dn X.K rx W is (ev Φ xa) R)) (hr : PK X kws (Dn X.K rx W js (evS Φ xs) (rL R))) :
  PK X (⟨nm, a, kpos⟩ :: kws) (Dn X.K rx W (is ++ js) (evS Φ (.cons xa xs)) (rL R)) := by
 refine jT7 (pk_cons ha hr) fun σ H Q ⟨F, S, as, E, C, sim, no, out⟩ => ?_
 rw [jA5] at out
 refine ⟨F, S, as, E, C, sim, no.left, out.bind fun v t S1 as1 H1 C1 l1 p1 sim1 r1 out1 => ⟨F, S1, as1, E, C1, sim1, no.right, out1.bind fun vs ts S2 as2 H2 C2 l2 p2 sim2 r2 out2 => ?_⟩⟩
 exact out2.here sim2 (.cons (ok.mono r1 l2 p2) r2)
end
def jQf (n m : Nat) (t tk : TA) (B : List V → List V → L2.St → Hp → VK → Prop) : TE := fun σ H Q => t σ H fun vs H1 => tk σ H1 fun zs H2 => vs.length = n ∧ zs.length = m ∧ B vs zs σ H2 Q
theorem jGp {X : Cx} {pins : List (Addr × Obj)} {σ : L2.St} {H : Hp} {s : Shared} {Q : VK} {u : Value} {first : List Value} {pos : Pos} {es : List Expr} {kws : List Keyword} {ks : List Str} {t tk : TA} {n m : Nat} {B : List V → List V → L2.St → Hp → VK → Prop}
  (I : Inv X pins σ H s) (hk : PySem.W.keepIn X.K u = true) (hst : es.all noStar = true) (hks : kws.map (·.arg) = ks.map some) (ha : PA X es t) (h0 : es = [] → ∀ σ H Q, t σ H Q → Q [] H) (hkw : PK X kws tk) (h : jQf n m t tk B σ H Q)
  (run : ∀ (s2 : Shared) (H2 : Hp) (vs zs : List V) (us ws : List Value), Inv X pins σ H2 s2 → Vals vs us → Vals zs ws → us.length = n → ws.length = m → B vs zs σ H2 Q → wpAny (model X.prog X.w) X.A (PySem.call u (first ++ us) (ks.zip ws)) (EP X pins σ Q) X.xe s2) :
  wpAny (model X.prog X.w) X.A (callWith pos u first (backTo pos (starEach es X.env)) (backToKw pos (keywordEach kws X.env))) (EP X pins σ Q) X.xe s := by
 obtain ⟨k1, k2, k3⟩ := jJo (env := X.env) (pos := pos) hks
 have fin : ∀ {s1 : Shared} {H1 : Hp} {vs : List V} {us : List Value}, Inv X pins σ H1 s1 → Vals vs us → (tk σ H1 fun zs H2 => vs.length = n ∧ zs.length = m ∧ B vs zs σ H2 Q) →
   wpAny (model X.prog X.w) X.A (evalAll ((backToKw pos (keywordEach kws X.env)).map (·.2))) (fun ws s2 => X.K.In s2.heap ∧ wpAny (model X.prog X.w) X.A (PySem.call u (first ++ us) (((backToKw pos (keywordEach kws X.env)).filterMap (·.1)).zip ws)) (EP X pins σ Q) X.xe s2) X.xe s1 := fun {s1 H1 vs us} I1 r q => by
  refine thn (hkw.run pos pins s1 σ H1 _ I1 q) fun ws s2 ⟨zs, H2, I2, rz, l1, l2, q2⟩ => ⟨I2.kIn, ?_⟩
  rw [k3]
  exact run s2 H2 vs zs us ws I2 r rz (r.length.symm.trans l1) (rz.length.symm.trans l2) q2
 cases es with
 | nil => exact PySem.W.callWith_KW0 (h₀ := X.base) I.ok.mod.kin hk k1 (fin (us := []) I .nil (h0 rfl σ H _ h)) (by show (false || _) = false; rw [k2]; rfl)
 | cons e es =>
  have hs : (noStar e && es.all noStar) = true := by rw [← List.all_cons]; exact hst
  rw [wab] at hs
  refine PySem.W.callWith_KW (h₀ := X.base) I.ok.mod.kin hk k1 (thn (ha.run pos pins s σ H _ I h) fun us s1 ⟨vs, H1, I1, r, q⟩ => fin I1 r q) ?_ (jAd hs.1)
  rw [jCo hst, k2]
  rfl
section
variable (Φ : Calls) (E : Env)
theorem jJc (f : Str) (pl : List PArg) (es : Exs) : ev Φ (.callk f pl es) E = M.bind (evS Φ es E) fun ts => M.bind (lift "pick" (pick ts pl)) fun us => Φ ("", f) us := rfl
theorem jNa (f : Str) (es : Exs) : ev Φ (.call f es) E = M.bind (evS Φ es E) fun us => Φ ("", f) us := rfl
theorem zCg (c : Str) (pl : List PArg) (es : Exs) : ev Φ (.new c pl es) E = M.bind (evS Φ es E) fun ts => M.bind (lift "pick" (pick ts pl)) fun us => Φ (c, "") us := rfl
theorem jWt (o : Ex) (c m : Str) (es : Exs) : ev Φ (.meth o c m es) E = M.bind (ev Φ o E) fun x => M.bind (deref x) fun y => M.bind (need "meth" (isM c m y)) fun _ => M.bind (evS Φ es E) fun ts => Φ (c, m) (x :: ts) := rfl
theorem jUq (o : Ex) (c f : Str) : ev Φ (.prop o c f) E = M.bind (ev Φ o E) fun x => M.bind (deref x) fun y => M.bind (need "prop" (isC c y)) fun _ => jAh (Φ (c, f) [x]) := rfl
end
theorem jGy : ∀ (n : Nat) (ys : Exs), n ≤ lenS ys → lenS (jCa n ys) = n ∧ lenS (jCw n ys) = lenS ys - n := by
 intro n
 induction n with
 | zero => intro ys _; exact ⟨rfl, rfl⟩
 | succ n ih =>
  intro ys h
  cases ys with
  | nil => simp [lenS] at h
  | cons e r =>
   simp only [lenS] at h ⊢
   have := ih r (by omega)
   simp only [jCa, jCw, lenS]
   omega
theorem jEk {α : Type} {xs dl : List α} : ∀ {pl : List PArg} {zs : List α}, jAt xs dl pl = some zs → zs.length = pl.length
 | [], _, h => by simp only [jAt] at h; cases h; rfl
 | .arg i :: r, zs, h => by
  simp only [jAt] at h
  obtain ⟨x, h1, h⟩ := wal.mp h
  obtain ⟨ys, h2, e⟩ := wae.mp h
  subst e
  rw [waq, waq, jEk h2]
 | .dflt j _ :: r, zs, h => by
  simp only [jAt] at h
  obtain ⟨x, h1, h⟩ := wal.mp h
  obtain ⟨ys, h2, e⟩ := wae.mp h
  subst e
  rw [waq, waq, jEk h2]
theorem jQg {ps ks : List Str} {n nd : Nat} {pl : List PArg} (ok : plOk ps n ks nd pl = true) : pl.length = ps.length := by
 simp only [plOk, wab, wac] at ok
 have := wbe List.length ok.2
 rw [waw, waw] at this
 exact this.symm
section
variable {X : Cx} {rx : RX} {W : WX} {Φ : Calls} {CX : CXT} {k : Nat} {fa : Addr} {ps ks : List Str} {dT : List T} {m : List T → M T} {es : List Expr} {kws : List Keyword} {xs : Exs} {x : Str} {p pos : Pos} {pl : List PArg}
abbrev DA (K : PySem.W.Frag) (rx : RX) (W : WX) (Φ : Calls) (xs : Exs) : TA := Dn K rx W (escS xs) (evS Φ xs) (rL (rE K))
theorem jRe {xs : Exs} {es : List Expr} (h : es = []) : ∀ σ H (Q : List V → Hp → Prop), DA X.K rx W Φ (jCa es.length xs) σ H Q → Q [] H := by
 subst h
 rintro σ H Q ⟨F, S, as, E, C, sim, no, out⟩
 exact out.here sim .nil
theorem jOd (Fn : jB6 X.prog X.w X.K X.mg X.base CX k fa ps dT (spM X.K rx ps.length (Φ ("", x)))) (hr : Room k X.A) (hgd : X.A.guards = some []) (hx : ∀ σ, PassesAt CX X σ (WE W σ)) (hg : Gl X x) (hm : X.mg x = some (.ref fa))
  (hdb : (x == ("__debug__" : Str)) = false) (hst : es.all noStar = true) (hks : kws.map (·.arg) = ks.map some) (ok : plOk ps es.length ks dT.length pl = true) (hd : ∀ j t, PArg.dflt j t ∈ pl → dT[j]? = some t) (hl : lenS xs = es.length + ks.length)
  (ha : PA X es (DA X.K rx W Φ (jCa es.length xs))) (hkw : PK X kws (DA X.K rx W Φ (jCw es.length xs))) : PE X (.Call (.Name x p) es kws pos) (DE X.K rx W Φ (.callk x pl xs)) := by
 obtain ⟨fd, dvs, dl, fn, rd, rT, hb⟩ := Fn.ex
 have hB : PE X (.Call (.Name x p) es kws pos) (jQf es.length ks.length (DA X.K rx W Φ (jCa es.length xs)) (DA X.K rx W Φ (jCw es.length xs)) fun vs zs σ H Q => ∃ ys, jAt (vs ++ zs) dvs pl = some ys ∧ spM X.K rx ps.length (Φ ("", x)) ys H Q (WE W σ)) := by
  refine ⟨fun pins s σ H Q I h => ?_⟩
  refine wpAny_Call_Name_kw (ld_glob I hg hm ?_ hdb)
  refine jGp I Fn.kp hst hks ha (fun e => jRe e) hkw h fun s2 H2 vs zs us ws I2 r1 r2 l1 l2 ⟨ys, hy, q⟩ => ?_
  obtain ⟨ys', hy', ry⟩ := jCn (r1.append r2) rd hy
  exact jNq fn hr hgd (hx σ) I2 (hb s2 us ws ys' _ ks pl I2.kIn l1 l2 ok hy') ry q
 refine jAq hB fun σ H Q ⟨F, S, as, E, C, sim, no, out⟩ => ?_
 rw [jJc, jEg Φ E es.length xs, jAg] at out
 have no' : NoOw (escS (jCa es.length xs) ++ escS (jCw es.length xs)) E := by
  rw [← jDp]
  exact no
 refine ⟨F, S, as, E, C, sim, no'.left, out.bindE fun v t S1 as1 H1 C1 eq1 l1 p1 sim1 r1 out1 => ?_⟩
 rw [jAg] at out1
 refine ⟨F, S1, as1, E, C1, sim1, no'.right, out1.bindE fun v2 t2 S2 as2 H2 C2 eq2 l2 p2 sim2 r2 out2 => ?_⟩
 rw [jBx] at out2
 obtain ⟨us, hp, out3⟩ := out2.liftB
 have r1' : Reps X.K S2 as2 v t := (AllR.reps' r1).mono l2 p2
 have r2' : Reps X.K S2 as2 v2 t2 := AllR.reps' r2
 have rr := r1'.append r2'
 have e1 := jCc Φ E _ _ _ _ eq1
 have e2 := jCc Φ E _ _ _ _ eq2
 have l := jGy es.length xs (by omega)
 obtain ⟨ys, hy, ry⟩ := jDm rr (rT S2 as2) hd hp
 refine ⟨by rw [r1'.length]; omega, by rw [r2'.length]; omega, ys, hy, sim2.call ry ?_ out3⟩
 rw [jEk hy, jQg ok]
theorem jUm (ts : List T) : pick ts (idPl ts.length) = some ts := by
 have h : ∀ (m k : Nat), k + m = ts.length → pick ts ((List.range' k m).map .arg) = some (ts.drop k) := by
  intro m
  induction m with
  | zero =>
   intro k e
   rw [wbc (by omega)]
   rfl
  | succ m ih =>
   intro k e
   have hk : k < ts.length := by omega
   rw [List.range'_succ, war, pick, ih (k + 1) (by omega), wad hk, waF hk]
   rfl
 have := h ts.length 0 (by omega)
 rw [← List.range_eq_range', List.drop_zero] at this
 exact this
theorem jKg (E : Env) (f : Str) : ev Φ (.call f xs) E = ev Φ (.callk f (idPl (lenS xs)) xs) E := by
 rw [jNa, jJc]
 funext C
 simp only [M.bind]
 cases e : evS Φ xs E C with
 | ok ts C' =>
  simp only
  rw [← jCc Φ E xs C C' ts e, jUm]
  rfl
 | exc => rfl
 | stuck => rfl
theorem jQt {n j : Nat} {t : T} (h : PArg.dflt j t ∈ idPl n) : False := by
 obtain ⟨i, _, e⟩ := wbg.mp h
 cases e
theorem jQ0 (Fn : jB6 X.prog X.w X.K X.mg X.base CX k fa ps dT (spM X.K rx ps.length (Φ ("", x)))) (hr : Room k X.A) (hgd : X.A.guards = some []) (hx : ∀ σ, PassesAt CX X σ (WE W σ)) (hg : Gl X x) (hm : X.mg x = some (.ref fa))
  (hdb : (x == ("__debug__" : Str)) = false) (hst : es.all noStar = true) (hks : kws.map (·.arg) = ks.map some) (hl : lenS xs = es.length + ks.length) (ok : plOk ps es.length ks dT.length (idPl (lenS xs)) = true)
  (ha : PA X es (DA X.K rx W Φ (jCa es.length xs))) (hkw : PK X kws (DA X.K rx W Φ (jCw es.length xs))) : PE X (.Call (.Name x p) es kws pos) (DE X.K rx W Φ (.call x xs)) := by
 refine jAq (jOd Fn hr hgd hx hg hm hdb hst hks ok (fun j t h => (jQt h).elim) hl ha hkw) fun σ H Q ⟨F, S, as, E, C, sim, no, out⟩ => ⟨F, S, as, E, C, sim, no, ?_⟩
 rw [← jKg]
 exact out
theorem jDw {m : Str} : ∀ {fs : List (Str × V)}, (fs.map (·.1)).contains m = false → fs.lookup m = none
 | [], _ => rfl
 | (n, v) :: fs, h => by
  simp only [war, List.contains_cons, Bool.or_eq_false_iff] at h
  rw [waV, h.1]
  exact jDw h.2
theorem jQw {c m : Str} {o : Expr} {xo : Ex} {apos : Pos} {pl : Sem Bool} (Fn : jB6 X.prog X.w X.K X.mg X.base CX k fa ps dT (spM X.K rx ps.length (Φ (c, m)))) (hr : Room k X.A) (hgd : X.A.guards = some []) (hx : ∀ σ, PassesAt CX X σ (WE W σ))
  (cl : Cls X.K (ca X.K c)) (hmt : Meth X.K (ca X.K c) m fa) (hst : es.all noStar = true) (hl : ps.length = es.length + 1) (hl' : lenS xs = es.length) (ok : plOk ps ps.length [] dT.length (idPl ps.length) = true)
  (ho : PE X o (DE X.K rx W Φ xo)) (ha : PA X es (DA X.K rx W Φ xs))
  (ht : eval (.Call (.Attribute o m apos) es [] pos) X.env = (do
    let ov ← eval o X.env
    standAt apos.atName
    let (f, first) ← holding [ov] (getMethod ov m pl)
    callWith pos f first (backTo pos (starEach es X.env)) (backToKw pos (keywordEach [] X.env)))) :
  PE X (.Call (.Attribute o m apos) es [] pos) (DE X.K rx W Φ (.meth xo c m xs)) := by
 obtain ⟨fd, dvs, dl, fn, rd, rT, hb⟩ := Fn.ex
 refine ⟨fun pins s σ H Q I h => ?_⟩
 obtain ⟨F, S, as, E, C, sim, no, out⟩ := h
 rw [jWt] at out
 have h1 : (DE X.K rx W Φ xo) σ H fun v H1 => ∃ (a dx : Addr) (fs : List (Str × V)), v = .ref a ∧ H1 a = some (.ins (ca X.K c) dx fs) ∧ fs.lookup m = none ∧
   (jQf es.length 0 (DA X.K rx W Φ xs) (DA X.K rx W Φ .nil) fun vs zs σ H Q => spM X.K rx ps.length (Φ (c, m)) (v :: vs) H Q (WE W σ)) σ H1 Q := by
  refine ⟨F, S, as, E, C, sim, no.left, out.bind fun v t S1 as1 H1 C1 l1 p1 sim1 r1 out1 => ?_⟩
  have r1' : Rep X.K S1 as1 v t := r1
  have rv := (Rep.vw r1' sim1).deref sim1
  have out2 : Out X.K rx W F σ E (M.bind (need "meth" (isM c m (jAu C1 t))) (fun _ => M.bind (evS Φ xs E) fun ts => Φ (c, m) (t :: ts)) C1) (rE X.K F σ E) S1 as1 Q := out1
  obtain ⟨hc, out3⟩ := out2.needB
  generalize jAu C1 t = td at rv hc
  cases rv with
  | @obj a dx fs c' ts q rs =>
   simp only [isM, wab, waj, wam] at hc
   obtain ⟨rfl, hn⟩ := hc
   refine ⟨a, dx, fs, rfl, q, jDw hn, F, S1, as1, E, C1, sim1, no.right, out3.bindE fun v2 t2 S2 as2 H2 C2 eq2 l2 p2 sim2 r2 out4 => ?_⟩
   have r2' : Reps X.K S2 as2 v2 t2 := AllR.reps' r2
   refine ⟨F, S2, as2, E, C2, sim2, NoOw.nil, ?_⟩
   rw [jOi]
   intro z S3 as3 H3 l3 p3 sim3 r3
   cases r3
   have e2 := jCc Φ E _ _ _ _ eq2
   refine ⟨by rw [r2'.length]; omega, rfl, sim3.call (.cons (r1'.mono (l2.trans l3) (p2.trans p3)) (r2'.mono l3 p3)) ?_ (out4.mono l3 p3)⟩
   rw [waq, r2'.length]
   omega
  | _ => cases hc
 refine PySem.W.methodCall_KW (pl := pl) (thn (ho.run pins s σ H _ I h1) fun u s1 ⟨x, H1, I1, rx1, a, dx, fs, ex, ea, l, q⟩ => ?_) ht
 subst ex
 obtain rfl : u = Value.ref a := rx1
 refine getmeth_ok I1 ea cl hmt l ?_
 refine jGp (ks := []) (n := es.length) (m := 0) I1 hmt.kp hst rfl ha (fun e => ?_) (jT7 pk_nil fun σ H Q ⟨F, S, as, E, C, sim, no, out⟩ => out.here sim .nil) q fun s2 H2 vs zs us ws I2 r1 r2 l1 l2 q2 => ?_
 ·have : xs = .nil := by
   cases xs with
   | nil => rfl
   | cons => subst e; simp [lenS] at hl'
  subst this
  rintro σ H Q ⟨F, S, as, E, C, sim, no, out⟩
  exact out.here sim .nil
 ·have lu : (Value.ref a :: us).length = ps.length := by rw [waq, l1, hl]
  have hb2 := hb s2 (Value.ref a :: us) [] (Value.ref a :: us) ps.length [] (idPl ps.length) I2.kIn lu rfl ok (by
   have h : ∀ (α : Type) (ts dl : List α) (m k : Nat), k + m = ts.length → jAt ts dl ((List.range' k m).map .arg) = some (ts.drop k) := by
    intro α ts dl m
    induction m with
    | zero =>
     intro k e
     rw [wbc (by omega)]
     rfl
    | succ m ih =>
     intro k e
     have hk : k < ts.length := by omega
     rw [List.range'_succ, war, jAt, ih (k + 1) (by omega), wad hk, waF hk]
     rfl
   have := h Value (Value.ref a :: us) dl (Value.ref a :: us).length 0 (by omega)
   rw [← List.range_eq_range', List.drop_zero, lu] at this
   rw [waL]
   exact this)
  have ew : ws = [] := wa8.mp l2
  subst ew
  exact jNq (vs := .ref a :: vs) fn hr hgd (hx σ) I2 hb2 (.cons rfl r1) q2
end
section
variable {X : Cx} {rx : RX} {W : WX} {Φ : Calls} {CX : CXT} {k : Nat} {fa : Addr} {ps ks : List Str} {dT : List T} {m : List T → M T} {es : List Expr} {kws : List Keyword} {xs : Exs} {x : Str} {p pos : Pos} {pl : List PArg}
theorem jP9 {c f : Str} {a : Expr} {xa : Ex} {q : Addr} (cl : Cls X.K (ca X.K c)) (hp : PropOf X.K (ca X.K c) f q fa) (Fn : jB6 X.prog X.w X.K X.mg X.base CX k fa ps dT (spM X.K rx ps.length (Φ (c, f)))) (hl : ps.length = 1) (ok : plOk ps 1 [] dT.length (idPl 1) = true) (hr : Room (k + 1) X.A) (hgd : X.A.guards = some [])
  (hx : ∀ σ, PassesAt CX X.nox σ fun _ _ _ => False) (ha : PE X a (DE X.K rx W Φ xa)) (hb : attributeBase a f X.env (eval a X.env) = eval a X.env) : PE X (.Attribute a f pos) (DE X.K rx W Φ (.prop xa c f)) := by
 obtain ⟨fd, dvs, dl, fn, rd, rT, hbb⟩ := Fn.ex
 refine ⟨fun pins s σ H Q I h => ?_⟩
 obtain ⟨F, S, as, E, C, sim, no, out⟩ := h
 rw [jUq] at out
 have h1 : (DE X.K rx W Φ xa) σ H fun v H1 => ∃ (a dx : Addr) (fs : List (Str × V)), v = .ref a ∧ H1 a = some (.ins (ca X.K c) dx fs) ∧ spM X.K rx ps.length (Φ (c, f)) [v] H1 Q fun _ _ _ => False := by
  refine ⟨F, S, as, E, C, sim, no, out.bind fun v t S1 as1 H1 C1 l1 p1 sim1 r1 out1 => ?_⟩
  have r1' : Rep X.K S1 as1 v t := r1
  have rv := (Rep.vw r1' sim1).deref sim1
  have out2 : Out X.K rx W F σ E (M.bind (need "prop" (isC c (jAu C1 t))) (fun _ => jAh (Φ (c, f) [t])) C1) (rE X.K F σ E) S1 as1 Q := out1
  obtain ⟨hc, out3⟩ := out2.needB
  generalize jAu C1 t = td at rv hc
  cases rv with
  | @obj a dx fs c' ts q rs =>
   obtain rfl : c' = c := by simpa [isC] using hc
   refine ⟨a, dx, fs, rfl, q, ?_⟩
   have out4 : Out X.K rx (fun _ _ _ _ => False) F σ E (Φ (c', f) [t] C1) (RepR X.K) S1 as1 Q := by
    unfold jAh at out3
    cases e : Φ (c', f) [t] C1 with
    | ok t3 C3 => rw [e] at out3; exact out3
    | exc x3 C3 => rw [e] at out3; exact False.elim out3
    | stuck w => rw [e] at out3; exact out3
   exact sim1.call (.cons r1' .nil) (by rw [hl]; rfl) out4
  | _ => cases hc
 refine attr_of hb (thn (ha.run pins s σ H _ I h1) fun u s1 ⟨x, H1, I1, rx1, a, dx, fs, ex, ea, q⟩ => ?_)
 subst ex
 obtain rfl : u = Value.ref a := rx1
 obtain ⟨mA, O, _, _, _, _⟩ := ins_get I1.hok ea
 obtain ⟨od, J, _⟩ := O.look
 obtain ⟨rest, hrec⟩ := hp.rec_
 have hc : (PySem.W.clsIn X.K (ca X.K c)).isSome = true := by
  obtain ⟨cd, hc, _⟩ := PySem.W.any_some cl.hd
  rw [hc]
  rfl
 have I2 := (I1.wish fun _ _ => False).tok (s1.toks + 1)
 refine PySem.W.get_bind I1.kIn J (PySem.W.plainGet_of (cl.get f)).1 (PySem.W.findObj_data hc hp.at_ hp.get hp.tak) (PySem.W.plainGet_of (cl.get f)).2 (wbs (PySem.W.prop_get (s := { s1 with toks := s1.toks + 1 }) I1.kIn hrec ?_))
 refine wa9 (fn.run X.A.in1 X.stack { s1 with toks := s1.toks + 1 } H1 ⟨[.ref a], []⟩ [.ref a] [.ref a] Q (fun _ _ _ => False) hr.in1 hgd I2.env0.in1 ?_ (.cons (show RelV (V.ref a) (Value.ref a) from rfl) .nil) q) fun r s' hq => ?_
 ·exact hbb _ [.ref a] [] [.ref a] 1 [] (idPl 1) I2.kIn rfl rfl ok rfl
 rcases jLi I2 (hx σ) hq with ⟨u, e, v, H', I4, rv, q3⟩ | ⟨e, e1, q⟩
 ·subst e
  show wpAny _ _ (handedOut u) _ _ _
  rw [PySem.W.handedOut_of (handed_of rv)]
  exact waH ⟨v, H', I4.wish _, rv, q3⟩
 ·exact q.elim
end
def RepP (K : PySem.W.Frag) (S : Hp) (as : List Addr) (v : V) (t : T) : Prop := Rep K S as v t ∨ ∃ (q : Addr) (x y : V) (t1 t2 : T), v = .ref q ∧ t = .tup [t1, t2] ∧ S q = some (.tup [x, y]) ∧ Rep K S as x t1 ∧ Rep K S as y t2
def RepT (K : PySem.W.Frag) : Tg → Hp → List Addr → V → T → Prop
 | .nm _ => Rep K
 | .tp _ => RepP K
 | .tn _ _ => RepP K
theorem Rep.toT {K : PySem.W.Frag} {S : Hp} {as : List Addr} {v : V} {t : T} (r : Rep K S as v t) : ∀ tgt : Tg, RepT K tgt S as v t
 | .nm _ => r
 | .tp _ => .inl r
 | .tn _ _ => .inl r
structure jCz (K : PySem.W.Frag) (F S : Hp) (as : List Addr) (σ : L2.St) (H : Hp) (E : Env) (C : jAa) (tgt : Tg) (J : It) (xs : List T) : Prop where
 goes : ∀ i, i < xs.length → J.go i H
 stops : J.stop xs.length H
 yields : ∀ i v H', i < xs.length → J.yld i H v H' → ∃ S' t, Le S S' ∧ Sim K F S' as σ H' E C ∧ xs[i]? = some t ∧ RepT K tgt S' as v t
def rI (K : PySem.W.Frag) (tgt : Tg) : RR It (List T) := fun _ _ _ S0 as0 _ J xs => ∀ F S as σ H E C, Le S0 S → as0 <+: as → Sim K F S as σ H E C → jCz K F S as σ H E C tgt J xs
def rJ (K : PySem.W.Frag) (tgt : Tg) : RR It (List T) := fun _ σ0 E0 S0 as0 _ J xs => ∀ F S as σ H E C, Le S0 S → as0 <+: as → Sim K F S as σ H E C → jCf σ0 E0 σ E → jCz K F S as σ H E C tgt J xs
theorem rI_J {K : PySem.W.Frag} {tgt : Tg} {F : Hp} {σ : L2.St} {E : Env} {S : Hp} {as : List Addr} {H : Hp} {J : It} {xs : List T} (h : rI K tgt F σ E S as H J xs) : rJ K tgt F σ E S as H J xs := fun F S as σ H E C l p sim _ => h F S as σ H E C l p sim
section
variable {K : PySem.W.Frag} {F S S0 : Hp} {as as0 : List Addr} {σ : L2.St} {H : Hp} {E : Env} {C : jAa} {a b : Addr} {vs ws : List V} {ts us : List T} {tgt : Tg} {is : List Nat}
theorem jV8 (sim : Sim K F S as σ H E C) (q : SqL K H a vs) (rs : Reps K S as vs ts) : jCz K F S as σ H E C tgt (Itl K a) ts := by
 refine ⟨fun i hi => ?_, ⟨vs, q, Nat.le_of_eq rs.length⟩, fun i v H' hi hy => ?_⟩
 ·obtain ⟨x, hx, _⟩ := rs.get (wad hi)
  exact ⟨vs, x, q, hx⟩
 ·obtain ⟨rfl, h⟩ := hy
  obtain ⟨x, hx, r⟩ := rs.get (wad hi)
  have := h vs q
  rw [hx] at this
  cases this
  exact ⟨S, _, Le.refl S, sim, wad hi, r.toT _⟩
theorem jX1 (sim : Sim K F S as σ H E C) (q : SqT K H a vs) (rs : Reps K S as vs ts) : jCz K F S as σ H E C tgt (Itt K a) ts := by
 refine ⟨fun i hi => ?_, ⟨vs, q, Nat.le_of_eq rs.length⟩, fun i v H' hi hy => ?_⟩
 ·obtain ⟨x, hx, _⟩ := rs.get (wad hi)
  exact ⟨vs, x, q, hx⟩
 ·obtain ⟨rfl, h⟩ := hy
  obtain ⟨x, hx, r⟩ := rs.get (wad hi)
  have := h vs q
  rw [hx] at this
  cases this
  exact ⟨S, _, Le.refl S, sim, wad hi, r.toT _⟩
theorem jZi {x : Str} (sim : Sim K F S as σ H E C) (g : SG x) : jCz K F S as σ H E C tgt (Its x) (x.cps.toList.map fun c => .str ⟨#[c]⟩) := by
 have w := walk_str (z := x)
 have e : (x.cps.toList.map fun c => T.str ⟨#[c]⟩).length = x.cps.size := by simp
 refine ⟨fun i hi => w.goes i H (by omega) trivial, by rw [e]; exact w.stops H trivial, fun i v H' hi hy => ?_⟩
 obtain ⟨rfl, c, hc, rfl⟩ := w.yields i H v H' (by omega) trivial hy
 exact ⟨S, _, Le.refl S, sim, by simp [hc], Rep.toT (.str (g.sign hc)) _⟩
theorem jP4 {lo hi : Int} (sim : Sim K F S as σ H E C) : jCz K F S as σ H E C tgt (Itr lo (hi - lo).toNat) (jBd lo hi) := by
 have w := walk_range (lo := lo) (n := (hi - lo).toNat)
 have e : (jBd lo hi).length = (hi - lo).toNat := by simp [jBd]
 refine ⟨fun i h => w.goes i H (by omega) trivial, by rw [e]; exact w.stops H trivial, fun i v H' h hy => ?_⟩
 obtain ⟨rfl, rfl⟩ := w.yields i H v H' (by omega) trivial hy
 exact ⟨S, _, Le.refl S, sim, by rw [jBd, wba, List.getElem?_range (by omega)]; rfl, Rep.toT (.int _) _⟩
end
section
variable {X : Cx} {pins : List (Addr × Obj)} {σ : L2.St} {H : Hp} {s : Shared} {tg : Expr} {R : It → Hp → Prop} {x : V} {v : Value}
theorem jTt {a : Addr} {xs : List V} (I : Inv X pins σ H s) (hq : SqL X.K H a xs) (q : R (Itl X.K a) H) : wpAny (model X.prog X.w) X.A (pyIter (.ref a)) (PIE X pins σ tg R) X.xe s := by
 obtain ⟨its, _, p, _⟩ := I.list hq
 exact wpAny_pyIter_list p.isList (pi_one (tk := s.toks) I _ (turn_list a _) ⟨_, waS _ rfl, rfl, rfl⟩ q)
theorem jYt {a : Addr} {xs : List V} (I : Inv X pins σ H s) (hq : SqT X.K H a xs) (q : R (Itt X.K a) H) : wpAny (model X.prog X.w) X.A (pyIter (.ref a)) (PIE X pins σ tg R) X.xe s := by
 obtain ⟨its, _, p, _⟩ := I.tuple hq
 exact wpAny_pyIter_tuple (show s.heap.IsTuple a its.toArray from p) (pi_one (tk := s.toks) I _ (turn_tuple a _) ⟨_, waS _ rfl, rfl, rfl⟩ q)
theorem j1p {z : Str} {t : Tok} (I : Inv X pins σ H s) (q : R (Its z) H) : wpAny (model X.prog X.w) X.A (pyIter (.str z t)) (PIE X pins σ tg R) X.xe s := by
 cases ha : z.cps.all (· < 128)
 ·exact wpAny_pyIter_wide ha (pi_one (tk := s.toks) I _ (turn_str _ z t "str_iterator" (.inr rfl)) ⟨_, waS _ rfl, rfl, rfl⟩ q)
 ·exact wpAny_pyIter_ascii ha (pi_one (tk := s.toks) I _ (turn_str _ z t "str_ascii_iterator" (.inl rfl)) ⟨_, waS _ rfl, rfl, rfl⟩ q)
def iSeq (K : PySem.W.Frag) (te : TE) : TI := fun σ H R => te σ H fun x H1 => (∃ a xs, x = .ref a ∧ SqL K H1 a xs ∧ R (Itl K a) H1) ∨ (∃ a xs, x = .ref a ∧ SqT K H1 a xs ∧ R (Itt K a) H1) ∨ ∃ z, x = .str z ∧ R (Its z) H1
theorem jZq {e : Expr} {te : TE} (he : PE X e te) : PI X tg e (iSeq X.K te) := by
 refine ⟨fun pins s σ H R I h => thn (he.run pins s σ H _ I h) fun v s1 ⟨x, H1, I1, r1, q⟩ => ?_⟩
 rcases q with ⟨a, xs, rfl, hq, q⟩ | ⟨a, xs, rfl, hq, q⟩ | ⟨z, rfl, q⟩
 ·cases r1; exact jTt I1 hq q
 ·cases r1; exact jYt I1 hq q
 ·obtain ⟨t, rfl⟩ := r1; exact j1p I1 q
end
def jFp : T → M (List T)
 | .lst xs => M.pure xs
 | .tup xs => M.pure xs
 | .str x => M.pure (x.cps.toList.map fun c => .str ⟨#[c]⟩)
 | _ => stuck "walk"
def jFs : T → M (List T)
 | .int n => if med n = true then M.pure (jBd 0 n) else stuck "range"
 | _ => stuck "range"
def jNi : T → T → M (List T)
 | .int m, .int n => if (med m && med n) = true then M.pure (jBd m n) else stuck "range"
 | _, _ => stuck "range"
section
variable (Φ : Calls) (E : Env)
theorem jSf (e : Ex) : evR Φ (.of e) E = M.bind (ev Φ e E) jFp := rfl
theorem jI1 (a : Ex) : evR Φ (.rng1 a) E = M.bind (ev Φ a E) jFs := rfl
theorem j2a (a b : Ex) : evR Φ (.rng2 a b) E = M.bind (ev Φ a E) fun x => M.bind (ev Φ b E) fun y => jNi x y := rfl
theorem j27 (a b c : Ex) : evR Φ (.rngD a b c) E = M.bind (ev Φ a E) fun x => M.bind (ev Φ b E) fun y => M.bind (ev Φ c E) fun z => jR3 x y z := rfl
theorem jNm (e : Ex) : evR Φ (.enm e) E = M.bind (ev Φ e E) fun t => M.bind (lift "enum" (items t)) fun xs => M.pure (xs.zipIdx.map fun p => .tup [.int p.2, p.1]) := rfl
end
theorem jWo {X : Cx} {tg e : Expr} {t t' : TI} (h : PI X tg e t) (k : ∀ σ H Q, t' σ H Q → t σ H Q) : PI X tg e t' := ⟨fun pins s σ H Q I q => h.run pins s σ H Q I (k _ _ _ q)⟩
structure jUs (K : PySem.W.Frag) (tgt : Tg) (R : RR V T) (RJ : RR It (List T)) : Prop where
 ok : OkR K R
 
 wk : ∀ {F S H : Hp} {as : List Addr} {σ : L2.St} {E : Env} {C : jAa} {v : V} {t : T} {J : It} {xs : List T}, R F σ E S as H v t → Sim K F S as σ H E C →
  (∀ (F S : Hp) (as : List Addr) (σ : L2.St) (H : Hp) (E : Env) (C : jAa), Sim K F S as σ H E C → Vw K S as H v t → jCz K F S as σ H E C tgt J xs) → RJ F σ E S as H J xs
theorem j6u {K : PySem.W.Frag} {tgt : Tg} : jUs K tgt (rE K) (rI K tgt) := ⟨okE, fun r _ h F S as σ H E C l p sim => h F S as σ H E C sim ((Rep.mono l p r).vw sim)⟩
theorem j7z {K : PySem.W.Frag} {tgt : Tg} : jUs K tgt (rW K) (rJ K tgt) := ⟨okW, fun {F0 S0 H0 as0 σ0 E0 C0 v t J xs} r sim0 h F S as σ H E C l p sim kp => h F S as σ H E C sim (by
 rcases r with r | ⟨i, e1, e2⟩
 ·exact (Rep.mono l p r).vw sim
 ·obtain ⟨e3, e4⟩ := kp i t e1
  exact RepW.vw (H0 := H) (.inr ⟨i, e3, by rw [e4]; exact e2⟩) sim)⟩
section
variable {X : Cx} {rx : RX} {W : WX} {Φ : Calls} {tg a b : Expr} {xa xb : Ex} {p pos : Pos} {is js : List Nat} {R : RR V T} {RJ : RR It (List T)} {tgt : Tg} {ts : List Nat}
theorem jX9 {K : PySem.W.Frag} {S H : Hp} {as : List Addr} {p : Addr} {ts : List T} (r : Vw K S as H (.ref p) (.lst ts)) : ∃ vs, Rd H p (.lst vs) ∧ Reps K S as vs ts := by
 cases r with
 | lst q _ rs => exact ⟨_, q, rs⟩
theorem jY2 {K : PySem.W.Frag} {S H : Hp} {as : List Addr} {p : Addr} {ts : List T} (r : Vw K S as H (.ref p) (.tup ts)) : ∃ vs, SqN K S p vs ∧ Reps K S as vs ts := by
 cases r with
 | tup q _ rs => exact ⟨_, q, rs⟩
theorem jSw (wr : jUs X.K tgt R RJ) (ha : PE X a (Dn X.K rx W is (ev Φ xa) R)) : PI X tg a (Dn X.K rx W is (evR Φ (.of xa)) RJ) := by
 refine jWo (jZq ha) fun σ H Q ⟨F, S, as, E, C, sim, no, out⟩ => ?_
 rw [jSf] at out
 refine ⟨F, S, as, E, C, sim, no, out.bind fun v t S1 as1 H1 C1 l1 p1 sim1 r1 out1 => ?_⟩
 have rv := wr.ok.vw r1 sim1
 cases rv with
 | @lst p vs ts q z rs =>
  exact .inl ⟨p, vs, rfl, .inl q, out1.here sim1 (wr.wk r1 sim1 fun F S as σ H E C sim r => by
   obtain ⟨vs, q, rs⟩ := jX9 r
   exact jV8 sim (.inl q) rs)⟩
 | @tup p vs ts q z rs =>
  exact .inr (.inl ⟨p, vs, rfl, sim1.sqT q, out1.here sim1 (wr.wk r1 sim1 fun F S as σ H E C sim r => by
   obtain ⟨vs, q, rs⟩ := jY2 r
   exact jX1 sim (sim.sqT q) rs)⟩)
 | str g => exact .inr (.inr ⟨_, rfl, out1.here sim1 (wr.wk r1 sim1 fun F S as σ H E C sim r => jZi sim g)⟩)
 | _ => exact False.elim out1
theorem jJf (hg : Gl X "range") (hm : X.mg "range" = none) (hs : starEach [a] X.env = (false, eval a X.env) :: starEach [] X.env) (ha : PE X a (DW X.K rx W Φ xa)) : PI X tg (.Call (.Name "range" p) [a] [] pos) (Dn X.K rx W (trE xa) (evR Φ (.rng1 xa)) (rI X.K tgt)) := by
 refine jWo (pi_range1 hg hm (pa_cons ha pa_nil hs) hs) fun σ H Q ⟨F, S, as, E, C, sim, no, out⟩ => ?_
 rw [jI1] at out
 refine ⟨F, S, as, E, C, sim, no, out.bind fun v t S1 as1 H1 C1 l1 p1 sim1 r1 out1 => ?_⟩
 have rv := r1.vw sim1
 cases rv with
 | int i =>
  have out1 : Out X.K rx W F σ E ((if med i = true then M.pure (jBd 0 i) else stuck "range") C1) (rI X.K tgt F σ E) S1 as1 Q := out1
  rcases out1.ifB with ⟨e, out2⟩ | ⟨e, out2⟩
  ·obtain ⟨m1, m2⟩ := jSq e
   refine ⟨i, rfl, by omega, by omega, out2.here sim1 fun F S as σ H E C l p sim => ?_⟩
   have := jP4 (tgt := tgt) (lo := 0) (hi := i) sim
   rw [Int.sub_zero] at this
   exact this
  ·exact False.elim out2
 | _ => exact False.elim out1
end
section
variable {K : PySem.W.Frag} {F S S' : Hp} {as as' : List Addr} {σ σ' : L2.St} {H H' : Hp} {E E' : Env} {C C' : jAa}
def setAll (σ : L2.St) : List Nat → List V → L2.St
 | i :: is, v :: vs => setAll (σ.set i (some v)) is vs
 | _, _ => σ
theorem jCr : ∀ (is : List Nat) (vs : List V) (σ : L2.St), (setAll σ is vs).length = σ.length
 | [], _, _ => rfl
 | _ :: _, [], _ => rfl
 | i :: is, v :: vs, σ => by rw [setAll, jCr is vs, waz]
theorem jCp {j : Nat} : ∀ (is : List Nat) (vs : List V) (σ : L2.St), j ∉ is → (setAll σ is vs)[j]? = σ[j]?
 | [], _, _, _ => rfl
 | _ :: _, [], _, _ => rfl
 | i :: is, v :: vs, σ, h => by
  rw [setAll, jCp is vs _ fun z => h (wak _ z), wai (show i ≠ j from fun z => h (by rw [z]; exact wah))]
theorem Sim.setAll : ∀ {is : List Nat} {vs : List V} {ts : List T} {σ : L2.St} {E : Env}, Sim K F S as σ H E C → Reps K S as vs ts → is.length = ts.length → Sim K F S as (SI.setAll σ is vs) H ((is.zip ts).foldl (fun E p => E.set p.1 (.sh p.2)) E) C
 | [], _, _, _, _, s, .nil, _ => s
 | [], _, _, _, _, s, .cons _ _, h => by cases h
 | _ :: _, _, _, _, _, s, .nil, h => by cases h
 | i :: is, v :: vs, t :: ts, σ, E, s, .cons r rs, h => (s.setSh r i).setAll rs (by simpa using h)
def gT (K : PySem.W.Frag) (tg : Tg) : TG := fun v σ H Q => ∃ F S as E C t E', Sim K F S as σ H E C ∧ RepT K tg S as v t ∧ jAz tg t E = some E' ∧ ∀ σ', Sim K F S as σ' H E' C → (∀ j, j ∉ tgS tg → σ'[j]? = σ[j]?) → σ'.length = σ.length → Q σ' H
theorem jT0 {X : Cx} {e : Expr} {t t' : TG} (h : PG X e t) (k : ∀ v σ H Q, t' v σ H Q → t v σ H Q) : PG X e t' := ⟨fun pins s σ H v u Q I r q => h.run pins s σ H v u Q I r (k _ _ _ _ q)⟩
theorem jR9 {X : Cx} {es : List Expr} {t t' : TGs} (h : PGs X es t) (k : ∀ v σ H Q, t' v σ H Q → t v σ H Q) : PGs X es t' := ⟨fun pins s σ H v u Q I r q => h.run pins s σ H v u Q I r (k _ _ _ _ q)⟩
structure TgN (X : Cx) (i : Nat) (x : Str) : Prop where
 ix : X.N[i]? = some x
 loc : Loc X.env.scope x
 fn : X.fn x = true ∨ X.env.scope.names.lookup x = some .local
theorem j9c {X : Cx} {i : Nat} {x : Str} {pos : Pos} (hN : X.N.Nodup) (h : TgN X i x) : PG X (.Name x pos) (gT X.K (.nm i)) := by
 refine jT0 (pg_name hN h.ix h.loc h.fn) fun v σ H Q ⟨F, S, as, E, C, t, E', sim, r, e, k⟩ => ?_
 cases e
 exact k _ (sim.setSh r i) (fun j hj => wai fun z => hj (by simp [tgS, z])) (waz ..)
inductive TgNs (X : Cx) : List Expr → List Nat → Prop
 | nil : TgNs X [] []
 | cons {i : Nat} {x : Str} {pos : Pos} {es : List Expr} {is : List Nat} : TgN X i x → TgNs X es is → TgNs X (.Name x pos :: es) (i :: is)
def gNs (is : List Nat) : TGs := fun vs σ H Q => vs.length = is.length ∧ Q (setAll σ is vs) H
theorem jC9 {X : Cx} (hN : X.N.Nodup) : ∀ {es : List Expr} {is : List Nat}, TgNs X es is → PGs X es (gNs is)
 | _, _, .nil => jR9 pgs_nil fun vs σ H Q ⟨h, q⟩ => ⟨wa8.mp h, by cases vs <;> exact q⟩
 | _, _, .cons (pos := pos) h r => jR9 (pgs_cons (pg_name (pos := pos) hN h.ix h.loc h.fn) (jC9 hN r)) fun vs σ H Q ⟨hl, q⟩ => by
  cases vs with
  | nil => cases hl
  | cons v vs => exact ⟨v, vs, rfl, by simpa using hl, q⟩
theorem jCv {X : Cx} : ∀ {es : List Expr} {is : List Nat}, TgNs X es is → (assignEach es X.env).length = is.length ∧ (assignEach es X.env).findIdx? (·.1) = none
 | _, _, .nil => ⟨rfl, rfl⟩
 | _, _, .cons h r => by
  obtain ⟨h1, h2⟩ := jCv r
  refine ⟨by rw [waq, ← h1]; rfl, ?_⟩
  show List.findIdx? _ ((false, _) :: assignEach _ X.env) = none
  rw [List.findIdx?_cons]
  rw [h2]
  rfl
theorem j7j {X : Cx} {es : List Expr} {is : List Nat} {k : Nat} {pos : Pos} (hc : X.calm = true) (hN : X.N.Nodup) (h : TgNs X es is) : PG X (.Tuple es k pos) (gT X.K (.tp is)) := by
 obtain ⟨h1, h2⟩ := jCv h
 refine jT0 (pg_tup hc (jC9 hN h) h1 h2) fun v σ H Q ⟨F, S, as, E, C, t, E', sim, r, e, k⟩ => ?_
 rcases r with r | ⟨q, x, y, t1, t2, rfl, rfl, hq, rx, ry⟩
 rotate_left
 ·simp only [jAz] at e
  split at e
  ·rename_i hl
   cases e
   have hl : is.length = 2 := hl
   have hH : SqT X.K H q [x, y] := .inl ((sim.sub' q _ hq).imp id fun ⟨o, h, _⟩ => ⟨o, h⟩)
   exact ⟨q, [x, y], rfl, hH, by rw [hl]; rfl, by rw [hl]; rfl, k _ (sim.setAll (.cons rx (.cons ry .nil)) hl) (fun j hj => jCp _ _ _ hj) (jCr _ _ _)⟩
  ·cases e
 cases r with
 | @tup a vs ts q z rs =>
  simp only [jAz] at e
  split at e
  ·rename_i hl
   cases e
   have hv : vs.length = is.length := by rw [rs.length, hl]
   exact ⟨a, vs, rfl, sim.sqT q, hv, hv, k _ (sim.setAll rs hl) (fun j hj => jCp _ _ _ hj) (jCr _ _ _)⟩
  ·cases e
 | _ => simp [jAz] at e
theorem j6n {X : Cx} {es : List Expr} {i : Nat} {is : List Nat} {x : Str} {k k2 : Nat} {pos p1 p2 : Pos} (hc : X.calm = true) (hN : X.N.Nodup) (h0 : TgN X i x) (h : TgNs X es is) : PG X (.Tuple [.Name x p1, .Tuple es k2 p2] k pos) (gT X.K (.tn i is)) := by
 obtain ⟨h1, h2⟩ := jCv h
 refine jT0 (pg_tup hc (pgs_cons (pg_name (pos := p1) hN h0.ix h0.loc h0.fn) (pgs_cons (pg_tup (pos := p2) hc (jC9 hN h) h1 h2) pgs_nil))) fun v σ H Q ⟨F, S, as, E, C, t, E', sim, r, e, kk⟩ => ?_
 have key : ∀ {q : Addr} {y z : V} {t1 t2 : T}, t = .tup [t1, t2] → SqT X.K H q [y, z] → v = .ref q → Rep X.K S as y t1 → Rep X.K S as z t2 → gTup X.K 2 (gCons (fun v σ H Q => Q (σ.set i (some v)) H) (gCons (gTup X.K is.length (gNs is)) gNil)) v σ H Q := by
  intro q y z t1 t2 et hq ev ry rz
  subst et
  simp only [jAz] at e
  split at e
  ·rename_i a b heq
   injection heq with heq
   injection heq with e1 heq
   injection heq with e2 _
   subst e1
   subst e2
   split at e
   ·rename_i hl
    cases e
    cases rz with
    | @tup q2 vs2 ts2 qq2 z2 rs2 =>
     have hv : vs2.length = is.length := by rw [rs2.length, hl]
     exact ⟨q, [y, .ref q2], ev, hq, rfl, y, [.ref q2], rfl, .ref q2, [], rfl, q2, vs2, rfl, sim.sqT qq2, hv, hv, rfl, kk _ ((sim.setSh ry i).setAll rs2 hl) (fun j hj => by
      have hj1 : j ∉ is := fun h => hj (wak _ h)
      have hj2 : i ≠ j := fun h => hj (by rw [h]; exact wah)
      rw [jCp _ _ _ hj1, wai hj2]) (by rw [jCr, waz])⟩
   ·cases e
  ·cases e
 rcases r with r | ⟨q, y, z, t1, t2, ev, et, hq, ry, rz⟩
 ·cases r with
  | @tup a vs ts q z rs =>
   cases rs with
   | nil => simp [jAz] at e
   | cons r1 rs =>
    cases rs with
    | nil => simp [jAz] at e
    | cons r2 rs =>
     cases rs with
     | nil => exact key rfl (sim.sqT q) rfl r1 r2
     | cons => simp [jAz] at e
  | _ => simp [jAz] at e
 ·exact key et (.inl ((sim.sub' q _ hq).imp id fun ⟨o, h, _⟩ => ⟨o, h⟩)) ev ry rz
theorem jH1 {j : Nat} : ∀ {ws : List Nat} {σ : L2.St}, j ∈ ws → j < σ.length → (wipe σ ws)[j]? = some none
 | i :: ws, σ, h, hl => by
  rw [wipe]
  by_cases q : i = j
  ·subst q
   exact wan (by rw [wbt]; exact hl)
  ·rw [wai q]
   exact jH1 ((waE.mp h).resolve_left fun z => q z.symm) hl
theorem jBm {ws : List Nat} {σ τ : L2.St} (hl : τ.length = σ.length) (h : ∀ j, j ∉ ws → τ[j]? = σ[j]?) : wipe τ ws = wipe σ ws := by
 refine List.ext_getElem? fun j => ?_
 by_cases hj : j ∈ ws
 ·by_cases hz : j < σ.length
  ·rw [jH1 hj hz, jH1 hj (by rw [hl]; exact hz)]
  ·rw [wbf (by rw [wbt]; omega), wbf (by rw [wbt]; omega)]
 ·rw [jA0 hj, jA0 hj, h j hj]
theorem jCf.noOw {is : List Nat} {E0 : Env} (h : ∀ (i : Nat) (t : T), E'[i]? = some (.ow t) → E0[i]? = some (.ow t)) (no : NoOw is E0) : NoOw is E' := fun i hi t e => no i hi t (h i t e)
theorem Sim.swap {F0 : Hp} (s0 : Sim K F0 S as σ H E C) (s1 : Sim K F S' as' σ' H' E' C') (l : Le S S') (p : as <+: as') (k : jCf σ E σ' E') : Sim K F S' as' σ H' E C' := by
 refine ⟨s1.sub', s1.nof, s1.frm, fun i t e => ?_, fun i t e => ?_, s0.owd, s1.cl, s1.ce, s1.nd, s0.ln, fun a x w e => ⟨(s1.pn a x w e).1, fun i t e' ho => ?_⟩, s1.tb⟩
 ·obtain ⟨v, x, r⟩ := s0.sh i t e
  exact ⟨v, x, r.mono l p⟩
 ·obtain ⟨e1, e2⟩ := k i t e
  obtain ⟨a, u, x, y⟩ := s1.ow i t e1
  exact ⟨a, u, by rw [← e2]; exact x, y⟩
 ·obtain ⟨e1, e2⟩ := k i t e'
  rw [← e2]
  exact (s1.pn a x w e).2 i t e1 ho
theorem Sim.guard (s : Sim K F S as σ H E C) {D : Addr} {u : HO} (hD : H D = some u) (hu : Mut u) (hS : S D = none) (hc : D ∉ as) (ho : ∀ (j : Nat) t', E[j]? = some (.ow t') → σ[j]? ≠ some (some (.ref D))) : Sim K (upd F D u) S as σ H E C := by
 refine ⟨s.sub', s.nof, fun a v e => ?_, s.sh, fun i t e => ?_, s.owd, s.cl, s.ce, s.nd, s.ln, fun a x w e => ?_, fun q hq => ⟨(s.tb q hq).1, (s.tb q hq).2.1, (s.tb q hq).2.2.upd hu⟩⟩
 ·by_cases q : a = D
  ·subst q; rw [way, jBj hu.frz] at e; cases e; exact ⟨hD, hS, hc⟩
  ·rw [upd_ne q] at e; exact s.frm a v e
 ·obtain ⟨a, v, x, y, z, z1, z2, r⟩ := s.ow i t e
  have q : a ≠ D := by rintro rfl; exact ho i t e x
  exact ⟨a, v, x, y, z, z1, by rw [upd_ne q]; exact z2, r⟩
 ·by_cases q : a = D
  ·subst q; rw [way] at e; cases e; exact absurd rfl (hu.frz _ _)
  ·rw [upd_ne q] at e; exact s.pn a x w e
theorem Sim.setF {D : Addr} {u u' : HO} (s : Sim K (upd F D u) S as σ H E C) (hu : Mut u) (hu' : Mut u') : Sim K (upd F D u') S as σ (upd H D u') E C := by
 obtain ⟨hD, hS, hc⟩ := s.frm D u (by rw [way]; exact jBj hu.frz)
 refine ⟨fun a v e => ?_, s.nof, fun a v e => ?_, s.sh, fun i t e => ?_, s.owd, s.cl, fun n t e => ?_, s.nd, s.ln, fun a x w e => ?_, fun q hq => ⟨jIq (s.tb q hq).1 hD hu, (s.tb q hq).2.1, (s.tb q hq).2.2.set hu'⟩⟩
 ·have q : a ≠ D := by rintro rfl; rw [hS] at e; cases e
  rw [upd_ne q]; exact s.sub' a v e
 ·by_cases q : a = D
  ·subst q; rw [way, jBj hu'.frz] at e; rw [way]; exact ⟨e, hS, hc⟩
  ·rw [upd_ne q] at e ⊢; exact s.frm a v (by rw [upd_ne q]; exact e)
 ·obtain ⟨a, v, x, y, z, z1, z2, r⟩ := s.ow i t e
  have q : a ≠ D := by rintro rfl; rw [way] at z2; cases z2
  exact ⟨a, v, x, by rw [upd_ne q]; exact y, z, z1, by rw [upd_ne q] at z2 ⊢; exact z2, r⟩
 ·obtain ⟨a, v, x, y, z, r⟩ := s.ce n t e
  have q : a ≠ D := by rintro rfl; exact hc (waP x)
  exact ⟨a, v, x, by rw [upd_ne q]; exact y, z, r⟩
 ·by_cases q : a = D
  ·subst q; rw [way] at e; cases e; exact absurd rfl (hu'.frz _ _)
  ·rw [upd_ne q] at e; exact s.pn a x w (by rw [upd_ne q]; exact e)
theorem jCe {xs : List V} : Mut (.lst xs) := ⟨fun _ _ e => (nomatch e), fun _ e => (nomatch e), fun _ e => (nomatch e)⟩
theorem Sim.setFL {D : Addr} {xs ys : List V} (s : Sim K (upd F D (.lst xs)) S as σ H E C) : Sim K (upd F D (.lst ys)) S as σ (upd H D (.lst ys)) E C := s.setF jCe jCe
theorem Sim.unguard {D : Addr} {u : HO} (s : Sim K (upd F D u) S as σ H E C) (hF : F D = none) : Sim K F S as σ H E C := by
 refine ⟨s.sub', s.nof, fun a v e => ?_, s.sh, fun i t e => ?_, s.owd, s.cl, s.ce, s.nd, s.ln, fun a x w e => ?_, fun q hq => ⟨(s.tb q hq).1, (s.tb q hq).2.1, (s.tb q hq).2.2.off hF⟩⟩
 ·have q : a ≠ D := by rintro rfl; rw [hF] at e; exact nomatch (show none = some v from e)
  exact s.frm a v (by rw [upd_ne q]; exact e)
 ·obtain ⟨a, v, x, y, z, z1, z2, r⟩ := s.ow i t e
  have q : a ≠ D := by rintro rfl; rw [way] at z2; cases z2
  exact ⟨a, v, x, y, z, z1, by rw [upd_ne q] at z2; exact z2, r⟩
 ·have q : a ≠ D := by rintro rfl; rw [hF] at e; cases e
  exact s.pn a x w (by rw [upd_ne q]; exact e)
end
def lcF (Φ : Calls) (ws : List Nat) (tg : Tg) (cond elt : Ex) (E : Env) (x : T) : M (List T) :=
 M.bind (lift "bind" (jAz tg x (jAr ws E))) fun E' => M.bind (ev Φ cond E') fun c => M.bind (truM Φ c) fun b => if b = true then M.bind (ev Φ elt E') fun t => M.pure [t] else M.pure []
theorem jXs (Φ : Calls) (E : Env) (ws : List Nat) (tg : Tg) (src : Src) (cond elt : Ex) : ev Φ (.lc ws tg src cond elt) E = M.bind (evR Φ src E) fun xs => jA4 (jAh (jA1 (lcF Φ ws tg cond elt E) xs)) := rfl
theorem jA3 {α β : Type} {m : M α} {f : α → M β} {C C' : jAa} {b : β} (h : M.bind m f C = .ok b C') : ∃ a C1, m C = .ok a C1 ∧ f a C1 = .ok b C' := by
 unfold M.bind at h
 cases e : m C with
 | ok a C1 => rw [e] at h; exact ⟨a, C1, rfl, h⟩
 | exc => rw [e] at h; cases h
 | stuck => rw [e] at h; cases h
theorem jH6 {α : Type} {w : String} {o : Option α} {C C' : jAa} {a : α} (h : lift w o C = .ok a C') : o = some a ∧ C' = C := by
 cases o with
 | none => cases h
 | some b => cases h; exact ⟨rfl, rfl⟩
theorem jTg {α : Type} {b : Bool} {x y : M α} {C C' : jAa} {a : α} (h : (if b = true then x else y) C = .ok a C') : (b = true ∧ x C = .ok a C') ∨ (b = false ∧ y C = .ok a C') := by
 cases b with
 | true => exact .inl ⟨rfl, h⟩
 | false => exact .inr ⟨rfl, h⟩
theorem jBr {α : Type} {a b : α} {C C' : jAa} (h : M.pure a C = .ok b C') : b = a ∧ C' = C := by cases h; exact ⟨rfl, rfl⟩
theorem jRh {Φ : Calls} {ws : List Nat} {tg : Tg} {cond elt : Ex} {E : Env} {x : T} {C C' : jAa} {r : List T} (h : lcF Φ ws tg cond elt E x C = .ok r C') :
  ∃ E' b C1, jAz tg x (jAr ws E) = some E' ∧ tst Φ cond E' C = .ok b C1 ∧ ((b = true ∧ ∃ t, ev Φ elt E' C1 = .ok t C' ∧ r = [t]) ∨ (b = false ∧ r = [] ∧ C' = C1)) := by
 obtain ⟨E', C1, h1, h2⟩ := jA3 h
 obtain ⟨e1, rfl⟩ := jH6 h1
 obtain ⟨c, C2, h3, h4⟩ := jA3 h2
 obtain ⟨b, C3, h5, h6⟩ := jA3 h4
 refine ⟨E', b, C3, e1, ?_, ?_⟩
 ·show M.bind (ev Φ cond E') (truM Φ) _ = _
  unfold M.bind
  rw [h3]
  exact h5
 ·rcases jTg h6 with ⟨e, h7⟩ | ⟨e, h7⟩
  ·obtain ⟨t, C4, h8, h9⟩ := jA3 h7
   obtain ⟨rfl, rfl⟩ := jBr h9
   exact .inl ⟨e, t, h8, rfl⟩
  ·obtain ⟨rfl, rfl⟩ := jBr h7
   exact .inr ⟨e, rfl, rfl⟩
theorem jCs {f : T → M (List T)} {x : T} {xs : List T} {C C' : jAa} {r : List T} (h : jA1 f (x :: xs) C = .ok r C') : ∃ a b C1, f x C = .ok a C1 ∧ jA1 f xs C1 = .ok b C' ∧ r = a ++ b := by
 have h : M.bind (f x) (fun a => M.bind (jA1 f xs) fun r => M.pure (a ++ r)) C = .ok r C' := h
 obtain ⟨a, C1, h1, h2⟩ := jA3 h
 obtain ⟨b, C2, h3, h4⟩ := jA3 h2
 obtain ⟨rfl, rfl⟩ := jBr h4
 exact ⟨a, b, C1, h1, h3, rfl⟩
theorem jFm {K : PySem.W.Frag} {rx : RX} {W : WX} {F S : Hp} {as : List Addr} {σ : L2.St} {E : Env} {C : jAa} {Q : VK} {R : Hp → List Addr → Hp → V → T → Prop} {m : M (List T)} (out : Out K rx W F σ E (jA4 (jAh m) C) R S as Q) :
  ∃ r C', m C = .ok r C' ∧ r.length ≤ sizeLine ∧ Out K rx W F σ E (.ok (.lst r) C') R S as Q := by
 have out : Out K rx W F σ E (M.bind (jAh m) (fun r => if szOk r.length = true then M.pure (.lst r) else stuck "size") C) R S as Q := out
 unfold M.bind jAh at out
 cases e : m C with
 | ok r C' =>
  rw [e] at out
  rcases out.ifB with ⟨h, out2⟩ | ⟨h, out2⟩
  ·exact ⟨r, C', rfl, jAp h, out2⟩
  ·exact False.elim out2
 | exc => rw [e] at out; exact False.elim out
 | stuck => rw [e] at out; exact False.elim out
theorem jDh {tg : Tg} {t : T} {E E' : Env} (h : jAz tg t E = some E') : ∀ (i : Nat) (u : T), E'[i]? = some (.ow u) → E[i]? = some (.ow u) := by
 have one : ∀ (E : Env) (j : Nat) (t u : T) (i : Nat), (E.set j (.sh t))[i]? = some (.ow u) → E[i]? = some (.ow u) := fun E j t u i e => by
  by_cases q : j = i
  ·subst q
   have hl := (waf.mp e).1
   rw [waz] at hl
   rw [wan hl] at e
   cases e
  ·rw [wai q] at e; exact e
 have all : ∀ (l : List (Nat × T)) (E : Env) (i : Nat) (u : T), (l.foldl (fun E p => E.set p.1 (.sh p.2)) E)[i]? = some (.ow u) → E[i]? = some (.ow u) := by
  intro l
  induction l with
  | nil => exact fun _ _ _ e => e
  | cons p l ih => exact fun E i u e => one _ _ _ _ _ (ih _ i u e)
 intro i u e
 cases tg with
 | nm j => cases h; exact one _ _ _ _ _ e
 | tp is =>
  simp only [jAz] at h
  split at h
  ·split at h
   ·cases h; exact all _ _ _ _ e
   ·cases h
  ·cases h
 | tn j is =>
  simp only [jAz] at h
  split at h
  ·split at h
   ·cases h; exact one _ _ _ _ _ (all _ _ _ _ e)
   ·cases h
  ·cases h
theorem jCq {tg : Tg} {t : T} {E E' : Env} {ws : List Nat} (hsub : ∀ j ∈ tgS tg, j ∈ ws) (hb : jAz tg t (jAr ws E) = some E') {i : Nat} {u : T} (e : (jAr ws E)[i]? = some (.ow u)) : E'[i]? = some (.ow u) ∧ i ∉ tgS tg := by
 obtain ⟨q, e1⟩ := jAv e fun z => nomatch z
 have q2 : i ∉ tgS tg := fun z => q (hsub i z)
 refine ⟨?_, q2⟩
 have ol : ∀ (l : List (Nat × T)) (E : Env), (∀ p ∈ l, p.1 ≠ i) → (l.foldl (fun E p => E.set p.1 (.sh p.2)) E)[i]? = E[i]? := by
  intro l
  induction l with
  | nil => exact fun _ _ => rfl
  | cons p l ih => exact fun E h => by rw [List.foldl_cons, ih _ fun p' hp => h p' (wak _ hp), wai (h p wah)]
 cases tg with
 | nm j =>
  cases hb
  rw [wai (show j ≠ i from fun z => q2 (by simp [tgS, z]))]
  exact e
 | tp is =>
  simp only [jAz] at hb
  split at hb
  ·split at hb
   ·cases hb
    rw [ol _ _ fun p hp z => q2 (by rw [← z]; exact (List.of_mem_zip hp).1)]
    exact e
   ·cases hb
  ·cases hb
 | tn j is =>
  simp only [jAz] at hb
  split at hb
  ·split at hb
   ·cases hb
    rw [ol _ _ fun p hp z => q2 (by rw [← z]; exact wak _ (List.of_mem_zip hp).1), wai (show j ≠ i from fun z => q2 (by simp [tgS, z]))]
    exact e
   ·cases hb
  ·cases hb
section
variable {X : Cx} {rx : RX} {W : WX} {Φ : Calls}
theorem jNy {js ws : List Nat} {tgt : Tg} {src : Src} {cond xe : Ex} {σ : L2.St} {H : Hp} {Q : VK} (hsub : ∀ j ∈ tgS tgt, j ∈ ws) (h : (Dn X.K rx W (ws ++ (js ++ (trE cond ++ escE xe))) (ev Φ (.lc ws tgt src cond xe)) (rF X.K)) σ H Q) :
  tLc (Dn X.K rx W js (evR Φ src) (rJ X.K tgt)) (gT X.K tgt) (DT X.K rx WF Φ cond) (DE X.K rx WF Φ xe) ws σ H Q := by
 obtain ⟨F, S, as, E, C, sim, no, out⟩ := h
 rw [jXs] at out
 refine ⟨F, S, as, E, C, sim, no.right.left, out.bind fun J xs S1 as1 H1 C1 l1 p1 sim1 r1 out1 => ?_⟩
 intro D hD
 obtain ⟨r, C2, hwalk, hz, out2⟩ := jFm out1
 have noWs : NoOw ws E := no.left
 have noB : NoOw (trE cond ++ escE xe) E := no.right.right
 have r1 : rJ X.K tgt F σ E S1 as1 H1 J xs := r1
 have nS := sim1.newS hD
 have nF := sim1.newF hD
 have nC := sim1.newC hD
 have nO : ∀ (j : Nat) t', E[j]? = some (.ow t') → σ[j]? ≠ some (some (.ref D)) := fun j t' e q => by
  obtain ⟨b, u, x, y, _⟩ := sim1.ow j t' e
  rw [x] at q
  cases q
  rw [hD] at y
  cases y
 have simD : Sim X.K (upd F D (.lst [])) S1 as1 (wipe σ ws) (upd H1 D (.lst [])) (jAr ws E) C1 := ((sim1.laid hD).guard way jCe nS nC nO).wipe ws
 refine ⟨fun i m H => m = xs.length - i ∧ i ≤ xs.length ∧ ∃ S' as' C' acc ts r', Le S1 S' ∧ as1 <+: as' ∧ Sim X.K (upd F D (.lst acc)) S' as' (wipe σ ws) H (jAr ws E) C' ∧ Reps X.K S' as' acc ts ∧ jA1 (lcF Φ ws tgt cond xe E) (xs.drop i) C' = .ok r' C2 ∧ ts ++ r' = r,
  ⟨xs.length, by omega, wa4 _, S1, as1, C1, [], [], r, Le.refl _, was _, simD, .nil, hwalk, rfl⟩, ?_⟩
 rintro i m H2 ⟨hm, hi', S2, as2, C3, acc, ts, r', l2, p2, sim2, ra, hr, hts⟩
 have wa := r1 _ S2 as2 _ H2 _ C3 l2 p2 sim2 noWs.wipe
 rcases Nat.lt_or_eq_of_le hi' with hlt | heq
 ·refine .inr ⟨wa.goes i hlt, fun H' => ∃ m', m' < m ∧ m' = xs.length - (i + 1) ∧ i + 1 ≤ xs.length ∧ ∃ S' as' C' acc ts r', Le S1 S' ∧ as1 <+: as' ∧ Sim X.K (upd F D (.lst acc)) S' as' (wipe σ ws) H' (jAr ws E) C' ∧ Reps X.K S' as' acc ts ∧ jA1 (lcF Φ ws tgt cond xe E) (xs.drop (i + 1)) C' = .ok r' C2 ∧ ts ++ r' = r,
   fun H' ⟨m', h1, h2⟩ => ⟨m', h1, h2⟩, fun x H' hy => ?_⟩
  obtain ⟨S3, t, l3, sim3, hx, rt⟩ := wa.yields i x H' hlt hy
  have hxi : xs[i] = t := by rw [wad hlt] at hx; exact waA hx
  rw [waF hlt, hxi] at hr
  obtain ⟨a, b, C4, hf, hrest, rfl⟩ := jCs hr
  obtain ⟨E', k, C5, hb, hk, hcase⟩ := jRh hf
  refine ⟨_, S3, as2, _, C3, t, E', sim3, rt, hb, fun σ2 sim4 hout hlen => ⟨?_, ?_⟩⟩
  ·have : wipe (wipe σ ws) ws = wipe σ ws := jBm (wbt _ _) fun j hj => jA0 hj
   rw [← this]
   exact jBm hlen fun j hj => hout j fun z => hj (hsub j z)
  have own' : ∀ (i : Nat) (t : T), E'[i]? = some (.ow t) → E[i]? = some (.ow t) := fun i t e => (jAv (jDh hb i t e) fun z => nomatch z).2
  have keep : jCf (wipe σ ws) (jAr ws E) σ2 E' := fun i t e => by
   obtain ⟨h1, h2⟩ := jCq hsub hb e
   exact ⟨h1, hout i h2⟩
  refine ⟨_, S3, as2, E', C3, sim4, jCf.noOw own' noB.left, ?_⟩
  rw [hk]
  rintro k' S5 as5 H5 l5 p5 sim5 rfl
  rcases hcase with ⟨rfl, t2, ht2, rfl⟩ | ⟨rfl, rfl, rfl⟩
  ·rw [if_pos rfl]
   refine ⟨_, S5, as5, E', C5, sim5, jCf.noOw own' noB.right, ?_⟩
   rw [ht2]
   intro y S6 as6 H6 l6 p6 sim6 r6
   have hD6 := (sim6.frm D _ (by rw [way]; rfl)).1
   have ra' := ra.mono (l3.trans (l5.trans l6)) (p5.trans p6)
   have hzz : acc.length < sizeLine := by
    have := wbe List.length hts
    rw [wav, wav, List.length_singleton] at this
    rw [ra.length]
    omega
   refine ⟨acc, hD6, hzz, _, by omega, rfl, hlt, S6, as6, C4, acc ++ [y], ts ++ [t2], b, l2.trans (l3.trans (l5.trans l6)), p2.trans (p5.trans p6), ?_, ra'.append (.cons r6 .nil), hrest, by rw [← hts, List.append_assoc]⟩
   exact (sim2.swap (σ := wipe σ ws) (by
    exact sim6) (l3.trans (l5.trans l6)) (p5.trans p6) keep).setFL
  ·rw [if_neg (by simp)]
   refine ⟨_, by omega, rfl, hlt, S5, as5, C4, acc, ts, b, l2.trans (l3.trans l5), p2.trans p5, sim2.swap sim5 (l3.trans l5) p5 keep, ra.mono (l3.trans l5) p5, hrest, hts⟩
 ·subst heq
  refine .inl ⟨wa.stops, ?_⟩
  rw [List.drop_length] at hr
  obtain ⟨rfl, rfl⟩ := jBr hr
  rw [waL] at hts
  subst hts
  have hD2 := sim2.frm D _ (by rw [way]; rfl)
  have sim3 : Sim X.K F S2 as2 σ H2 E _ := (sim1.swap (sim2.unguard nF) l2 p2 noWs.wipe)
  exact out2 (.ref D) S2 as2 H2 l2 p2 sim3 ⟨D, _, rfl, hD2.1, hD2.2.1, hD2.2.2, nF, nO, .lst (by rw [ra.length]; exact hz) ra⟩
theorem jZ2 {elt tg iter : Expr} {ifs : List Expr} {scope : Scope} {own : List (Str × Nat)} {pos : Pos} {js ws : List Nat} {tgt : Tg} {src : Src} {cond xe : Ex} (hc : X.calm = true) (hN : X.N.Nodup) (hi : PI X tg iter (Dn X.K rx W js (evR Φ src) (rJ X.K tgt))) (ok : BlkOk X.N X.env.scope scope own)
  (hw : own.map (·.2) = ws) (hsub : ∀ j ∈ tgS tgt, j ∈ ws)
  (hg : ∀ (s : Shared) (H : Hp) (C : Addr) (cl : List (Str × Addr)) (fp : List Addr), PG (X.blk s H scope (compEnvC scope cl C X.env) fp) tg (gT X.K tgt)) (ht : ∀ (s : Shared) (H : Hp) (C : Addr) (cl : List (Str × Addr)) (fp : List Addr), PTs (X.blk s H scope (compEnvC scope cl C X.env) fp) ifs (DT X.K rx WF Φ cond))
  (he : ∀ (s : Shared) (H : Hp) (C : Addr) (cl : List (Str × Addr)) (fp : List Addr), PE (X.blk s H scope (compEnvC scope cl C X.env) fp) elt (DE X.K rx WF Φ xe)) (hs : ∀ x, foldedSetIterable iter X.env x = pure x) :
  PE X (.ListComp elt [⟨tg, iter, ifs, 0⟩] scope pos) (Dn X.K rx W (ws ++ (js ++ (trE cond ++ escE xe))) (ev Φ (.lc ws tgt src cond xe)) (rF X.K)) := by
 refine jAq (pe_lc hc hN hi ok hg ht he hs) fun σ H Q h => ?_
 rw [hw]
 exact jNy hsub h
end
section
variable {K : PySem.W.Frag} {rx : RX} {W : WX} {F S S' : Hp} {as as' : List Addr} {σ σ' : L2.St} {H H' : Hp} {E E' : Env} {C C' : jAa} {D : Ends}
theorem OutS.ifB {b : Bool} {x y : M RS} (h : OutS K rx W F ((if b = true then x else y) C) S as D) : (b = true ∧ OutS K rx W F (x C) S as D) ∨ (b = false ∧ OutS K rx W F (y C) S as D) := by
 cases b with
 | true => exact .inl ⟨rfl, h⟩
 | false => exact .inr ⟨rfl, h⟩
theorem OutS.nxt (h : OutS K rx W F (.ok (.nx E') C') S as D) (s : Sim K F S as σ H E' C') : D.nx σ H := h σ S as H (Le.refl S) (was as) s
theorem Sim.setOw (s : Sim K F S as σ H E C) {v : V} {t : T} (r : RepN K F σ E S as H v t) (i : Nat) (hno : isO t = false) : Sim K F S as (σ.set i (some v)) H (E.set i (.ow t)) C := by
 obtain ⟨a, u, rfl, hH, hS, hc, hF, ho, ro⟩ := r
 have hb : ∀ (j : Nat) (x : Slot), (E.set i (.ow t))[j]? = some x → (j = i ∧ x = .ow t ∧ (σ.set i (some (.ref a)))[j]? = some (some (.ref a))) ∨ (j ≠ i ∧ E[j]? = some x ∧ (σ.set i (some (.ref a)))[j]? = σ[j]?) := fun j x e => by
  by_cases q : i = j
  ·subst q
   have hl : i < E.length := by
    have := (waf.mp e).1
    rwa [waz] at this
   have hl2 := waW hl s.ln
   rw [wan hl] at e
   cases e
   exact .inl ⟨rfl, rfl, wan hl2⟩
  ·rw [wai q] at e
   exact .inr ⟨fun z => q z.symm, e, wai q⟩
 refine ⟨s.sub', s.nof, s.frm, fun j t' e => ?_, fun j t' e => ?_, fun j k t1 t2 b e1 e2 e3 e4 => ?_, s.cl, s.ce, s.nd, by rw [waz, waz]; exact s.ln, fun b x w e => ⟨(s.pn b x w e).1, fun j t' e' h => ?_⟩, s.tb⟩
 ·rcases hb j _ e with ⟨_, e, _⟩ | ⟨_, e, e2⟩
  ·cases e
  ·rw [e2]; exact s.sh j t' e
 ·rcases hb j _ e with ⟨rfl, e, e2⟩ | ⟨_, e, e2⟩
  ·cases e
   exact ⟨a, u, e2, hH, hS, hc, hF, ro⟩
  ·rw [e2]; exact s.ow j t' e
 ·rcases hb j _ e1 with ⟨rfl, f1, g1⟩ | ⟨h1, f1, g1⟩ <;> rcases hb k _ e2 with ⟨rfl, f2, g2⟩ | ⟨h2, f2, g2⟩
  ·rfl
  ·rw [g1] at e3
   cases e3
   rw [g2] at e4
   exact absurd e4 (ho k t2 f2)
  ·rw [g2] at e4
   cases e4
   rw [g1] at e3
   exact absurd e3 (ho j t1 f1)
  ·rw [g1] at e3
   rw [g2] at e4
   exact s.owd j k t1 t2 b f1 f2 e3 e4
 ·rcases hb j _ e' with ⟨rfl, e3, e2⟩ | ⟨_, e3, e2⟩
  ·cases e3; rw [hno] at h; cases h
  ·rw [e2]; exact (s.pn b x w e).2 j t' e3 h
end
def rFr (K : PySem.W.Frag) (x : Ex) : RR V T := fun F σ E S as H v t => if fresh x = true then RepF K F σ E S as H v t else Rep K S as v t
theorem Sim.setSlot {K : PySem.W.Frag} {F S : Hp} {as : List Addr} {σ : L2.St} {H : Hp} {E : Env} {C : jAa} (s : Sim K F S as σ H E C) {x : Ex} {v : V} {t : T} (r : rFr K x F σ E S as H v t) (i : Nat) : Sim K F S as (σ.set i (some v)) H (E.set i (jAc x t)) C := by
 unfold rFr at r
 unfold jAc
 cases hf : fresh x with
 | false =>
  rw [hf, if_neg waa] at r
  cases t <;> exact s.setSh r i
 | true =>
  rw [hf, if_pos rfl] at r
  cases t with
  | lst xs => exact s.setOw r i rfl
  | dic ks vs => exact s.setOw r i rfl
  | _ => exact s.setSh r i
def DZ (K : PySem.W.Frag) (rx : RX) (W : WX) (Φ : Calls) (n : Nat) (x : SI.St) : TS := fun D σ H => ∃ F S as E C, Sim K F S as σ H E C ∧ NoOw (jA7 x) E ∧ OutS K rx W F (ex Φ n x E C) S as D
def DSs (K : PySem.W.Frag) (rx : RX) (W : WX) (Φ : Calls) (n : Nat) (xs : Ss) : TS := fun D σ H => ∃ F S as E C, Sim K F S as σ H E C ∧ OutS K rx W F (exS Φ n xs E C) S as D
def jOo (Φ : Calls) (n : Nat) (r : Ss) : RS → M RS
 | .nx E' => exS Φ n r E'
 | o => M.pure o
section
variable (Φ : Calls) (n : Nat) (E : Env)
theorem jEa (s : SI.St) (r : Ss) : exS Φ n (.cons s r) E = M.bind (ex Φ n s (frzE (jA7 s) E)) (jOo Φ n r) := rfl
theorem jM2 (i : Nat) (e : Ex) : ex Φ n (.set i e) E = M.bind (ev Φ e E) fun t => M.pure (.nx (E.set i (jAc e t))) := rfl
theorem jJ4 (e : Ex) : ex Φ n (.ret e) E = M.bind (ev Φ e E) fun t => M.pure (.rt t) := rfl
theorem jL2 (e : Ex) : ex Φ n (.exp e) E = M.bind (ev Φ e E) fun _ => M.pure (.nx E) := rfl
theorem jS9 (c : Ex) (a b : Ss) : ex Φ n (.ite c a b) E = M.bind (tst Φ c E) fun k => if k = true then exS Φ n a E else exS Φ n b E := by
 unfold tst
 rw [jAg]
 rfl
def forF (Φ : Calls) (n : Nat) (tg : Tg) (body : Ss) : T → Env → M RS := fun x E => M.bind (lift "bind" (jAz tg x E)) fun E' => exS Φ n body E'
theorem jRl (tg : Tg) (src : Src) (body : Ss) : ex Φ n (.for_ tg src body) E = M.bind (evR Φ src E) fun xs => forL (forF Φ n tg body) xs E := rfl
def whlC (Φ : Calls) (c : Ex) (E : Env) : M Bool := M.bind (need "while" (jIc (trE c) E)) fun _ => tst Φ c E
theorem jV7 {is : List Nat} {E : Env} (h : jIc is E = true) : NoOw is E := fun i hi t e => by
 unfold jIc at h
 have := wag.mp h i hi
 rw [e] at this
 cases this
theorem jZz (c : Ex) (body : Ss) : ex Φ n (.whl c body) E = whlL (whlC Φ c) (fun E => exS Φ n body E) n E := rfl
def forN (f : T → Env → M RS) (xs : List T) : RS → M RS
 | .nx E' => forL f xs E'
 | .ct E' => forL f xs E'
 | .bk E' => M.pure (.nx E')
 | .rt t => M.pure (.rt t)
theorem jIt (f : T → Env → M RS) : forL f [] E = M.pure (.nx E) := rfl
theorem jHf (f : T → Env → M RS) (x : T) (xs : List T) : forL f (x :: xs) E = M.bind (f x E) (forN f xs) := rfl
def whlN (c : Env → M Bool) (f : Env → M RS) (m : Nat) : RS → M RS
 | .nx E' => whlL c f m E'
 | .ct E' => whlL c f m E'
 | .bk E' => M.pure (.nx E')
 | .rt t => M.pure (.rt t)
theorem jLp (c : Env → M Bool) (f : Env → M RS) (m : Nat) : whlL c f (m + 1) E = M.bind (c E) fun b => if b = true then M.bind (f E) (whlN c f m) else M.pure (.nx E) := rfl
end
section
variable {X : Cx} {rx : RX} {W : WX} {Φ : Calls} {n : Nat} {st : Stmt} {rest body sa sb : List Stmt} {e c : Expr} {xe xc : Ex} {pos pos' : Pos} {s : SI.St} {r a b : Ss} {x : Str} {i : Nat} {tg : Tg} {src : Src}
theorem jBo {t t' : TS} (h : PS X st t) (k : ∀ D σ H, t' D σ H → t D σ H) : PS X st t' := ⟨fun pins s σ H D I q => h.run pins s σ H D I (k _ _ _ q)⟩
theorem jJ0 {sts : List Stmt} {t t' : TS} (h : PSs X sts t) (k : ∀ D σ H, t' D σ H → t D σ H) : PSs X sts t' := ⟨fun pins s σ H D I q => h.run pins s σ H D I (k _ _ _ q)⟩
theorem jD9 : PSs X [] (DSs X.K rx W Φ n .nil) := jJ0 pss_nil fun D σ H ⟨F, S, as, E, C, sim, out⟩ => out.nxt sim
theorem jDf (h1 : PS X st (DZ X.K rx W Φ n s)) (h2 : PSs X rest (DSs X.K rx W Φ n r)) : PSs X (st :: rest) (DSs X.K rx W Φ n (.cons s r)) := by
 refine jJ0 (pss_cons h1 h2) fun D σ H ⟨F, S, as, E, C, sim, out⟩ => ?_
 obtain ⟨S1, l1, sim1, no, _⟩ := sim.frz (is := jA7 s)
 rw [jEa] at out
 refine ⟨F, S1, as, _, C, sim1, no, (out.mono l1 (was _)).seq fun o C' out1 => ?_⟩
 cases o with
 | nx E' => exact fun σ' S' as' H' l p sim' => ⟨F, S', as', E', C', sim', OutS.mono out1 l p⟩
 | bk E' => exact out1
 | ct E' => exact out1
 | rt t => exact out1
theorem jW7 : PS X st (DZ X.K rx W Φ n .dead) := jBo ps_never fun D σ H ⟨F, S, as, E, C, sim, no, out⟩ => out
theorem jWu : PS X (.Pass pos) (DZ X.K rx W Φ n .pas) := jBo ps_pass fun D σ H ⟨F, S, as, E, C, sim, no, out⟩ => OutS.nxt out sim
theorem jOx (he : PE X e (DE X.K rx W Φ xe)) : PS X (.Return (some e) pos) (DZ X.K rx W Φ n (.ret xe)) := by
 refine jBo (ps_ret he) fun D σ H ⟨F, S, as, E, C, sim, no, out⟩ => ?_
 rw [jJ4] at out
 exact ⟨F, S, as, E, C, sim, no, out.bind fun v t S1 as1 H1 C1 _ l1 p1 sim1 r1 out1 => out1 v σ S1 as1 H1 E (Le.refl _) (was _) sim1 r1⟩
theorem jQi : PS X (.Return none pos) (DZ X.K rx W Φ n (.ret (.con .non))) := by
 refine jBo ps_retN fun D σ H ⟨F, S, as, E, C, sim, no, out⟩ => ?_
 exact out .non σ S as H E (Le.refl _) (was _) sim .non
theorem jT4 {R : RR V T} (he : PE X e (Dn X.K rx W (escE xe) (ev Φ xe) R)) (hs : swapsWith e none pos.line X.env = pure false) : PS X (.Expr e pos) (DZ X.K rx W Φ n (.exp xe)) := by
 refine jBo (ps_expr he hs) fun D σ H ⟨F, S, as, E, C, sim, no, out⟩ => ?_
 rw [jL2] at out
 exact ⟨F, S, as, E, C, sim, no, out.bind fun v t S1 as1 H1 C1 _ l1 p1 sim1 r1 out1 => OutS.nxt out1 sim1⟩
abbrev DR (K : PySem.W.Frag) (rx : RX) (W : WX) (Φ : Calls) (x : Ex) : TE := Dn K rx W (escE x) (ev Φ x) (rFr K x)
theorem jEb {D : Ends} {σ : L2.St} {H : Hp} (h : DZ X.K rx W Φ n (.set i xe) D σ H) : tAsg (DR X.K rx W Φ xe) (gName i) D σ H := by
 obtain ⟨F, S, as, E, C, sim, no, out⟩ := h
 rw [jM2] at out
 exact ⟨F, S, as, E, C, sim, no, out.bind fun v t S1 as1 H1 C1 _ l1 p1 sim1 r1 out1 => OutS.nxt out1 (sim1.setSlot r1 i)⟩
theorem jCx (hN : X.N.Nodup) (h : TgN X i x) (he : PE X e (DR X.K rx W Φ xe)) (hs : swapsWith e (some (.Name x pos')) pos.line X.env = pure false) : PS X (.Assign [.Name x pos'] e pos) (DZ X.K rx W Φ n (.set i xe)) :=
 jBo (ps_set hN h.ix h.loc he hs h.fn) fun D σ H => jEb
theorem j2h (Φ : Calls) (n : Nat) (E : Env) (i : Nat) (c e : Ex) : ex Φ n (.setIf i c e) E = M.bind (tst Φ c E) fun k => if k = true then M.bind (ev Φ e E) (fun t => M.pure (.nx (E.set i (jAc e t)))) else M.bind (lift "setIf" (getE E i)) fun _ => M.pure (.nx E) := by
 unfold tst
 rw [jAg]
 rfl
def zCo (Φ : Calls) (i : Nat) (e : Ex) (E : Env) : M RS := M.bind (ev Φ e E) fun t => M.pure (.nx (E.set i (jAc e t)))
def zAz (i : Nat) (E : Env) : M RS := M.bind (lift "setIf" (getE E i)) fun _ => M.pure (.nx E)
theorem jUx (hc : PT X c (DT X.K rx W Φ xc)) (ha : PSs X sa (DSs X.K rx W Φ n a)) (hb : PSs X sb (DSs X.K rx W Φ n b)) : PS X (.If c sa sb pos) (DZ X.K rx W Φ n (.ite xc a b)) := by
 refine jBo (ps_if hc ha hb) fun D σ H ⟨F, S, as, E, C, sim, no, out⟩ => ?_
 rw [jS9] at out
 refine ⟨F, S, as, E, C, sim, no, out.bind fun v t S1 as1 H1 C1 _ l1 p1 sim1 r1 out1 => ?_⟩
 obtain rfl : v = t := r1
 rcases out1.ifB with ⟨rfl, out2⟩ | ⟨rfl, out2⟩
 ·exact ⟨F, S1, as1, E, C1, sim1, out2⟩
 ·exact ⟨F, S1, as1, E, C1, sim1, out2⟩
theorem jUf (hp : PassesOwn (model X.prog X.w) X.A X.env X.xe) (hc : PT X c (DT X.K rx W Φ xc)) (hb : PSs X body (DSs X.K rx W Φ n b)) : PS X (.While c body [] pos) (DZ X.K rx W Φ n (.whl xc b)) := by
 refine jBo (ps_while hp hc hb) fun D σ H ⟨F, S, as, E, C, sim, no, out⟩ => ?_
 rw [jZz] at out
 refine ⟨fun m σ H => ∃ S' as' E C, Le S S' ∧ as <+: as' ∧ Sim X.K F S' as' σ H E C ∧ OutS X.K rx W F (whlL (whlC Φ xc) (fun E => exS Φ n b E) m E C) S' as' D, ⟨n, S, as, E, C, Le.refl _, was _, sim, out⟩, ?_⟩
 rintro m σ1 H1 ⟨S1, as1, E1, C1, l1, p1, sim1, out1⟩
 cases m with
 | zero => exact False.elim out1
 | succ m =>
  rw [jLp] at out1
  unfold whlC at out1
  rw [jAg] at out1
  obtain ⟨hn, out1⟩ := out1.needB
  refine ⟨F, S1, as1, E1, C1, sim1, jV7 hn, out1.bind fun k k' S2 as2 H2 C2 _ l2 p2 sim2 r2 out2 => ?_⟩
  obtain rfl : k = k' := r2
  rcases out2.ifB with ⟨rfl, out3⟩ | ⟨rfl, out3⟩
  ·rw [if_pos rfl]
   refine ⟨fun σ H => ∃ m', m' < m + 1 ∧ m' = m ∧ ∃ S' as' E C, Le S S' ∧ as <+: as' ∧ Sim X.K F S' as' σ H E C ∧ OutS X.K rx W F (whlL (whlC Φ xc) (fun E => exS Φ n b E) m' E C) S' as' D,
    fun σ' H' ⟨m', h1, _, h2⟩ => ⟨m', h1, h2⟩, F, S2, as2, E1, C2, sim2, out3.seq fun o C' out4 => ?_⟩
   cases o with
   | nx E' => exact fun σ' S' as' H' l p sim' => ⟨m, wa5 m, rfl, S', as', E', C', l1.trans (l2.trans l), p1.trans (p2.trans p), sim', OutS.mono out4 l p⟩
   | ct E' => exact fun σ' S' as' H' l p sim' => ⟨m, wa5 m, rfl, S', as', E', C', l1.trans (l2.trans l), p1.trans (p2.trans p), sim', OutS.mono out4 l p⟩
   | bk E' => exact out4
   | rt t => exact out4
  ·rw [if_neg waa]
   exact OutS.nxt out3 sim2
theorem jWn {iter tgt : Expr} (hp : PassesOwn (model X.prog X.w) X.A X.env X.xe) (hc : X.calm = true) (hi : PI X tgt iter (Dn X.K rx W (escF src) (evR Φ src) (rI X.K tg))) (hg : PG X tgt (gT X.K tg)) (hb : PSs X body (DSs X.K rx W Φ n b)) (hs : ∀ x, foldedSetIterable iter X.env x = pure x) :
  PS X (.For tgt iter body [] pos) (DZ X.K rx W Φ n (.for_ tg src b)) := by
 refine jBo (ps_for hp hc hi hg hb hs) fun D σ H ⟨F, S, as, E, C, sim, no, out⟩ => ?_
 rw [jRl] at out
 refine ⟨F, S, as, E, C, sim, no, out.bind fun J xs S1 as1 H1 C1 _ l1 p1 sim1 r1 out1 => ?_⟩
 have r1 : rI X.K tg F σ E S1 as1 H1 J xs := r1
 refine ⟨fun i m σ H => m = xs.length - i ∧ i ≤ xs.length ∧ ∃ S' as' E C, Le S1 S' ∧ as1 <+: as' ∧ Sim X.K F S' as' σ H E C ∧ OutS X.K rx W F (forL (forF Φ n tg b) (xs.drop i) E C) S' as' D,
  ⟨xs.length, by omega, wa4 _, S1, as1, E, C1, Le.refl _, was _, sim1, out1⟩, ?_⟩
 rintro i m σ2 H2 ⟨hm, hi', S2, as2, E2, C2, l2, p2, sim2, out2⟩
 have wa := r1 F S2 as2 σ2 H2 E2 C2 l2 p2 sim2
 rcases Nat.lt_or_eq_of_le hi' with hlt | heq
 ·refine .inr ⟨wa.goes i hlt, fun σ H => ∃ m', m' < m ∧ m' = xs.length - (i + 1) ∧ i + 1 ≤ xs.length ∧ ∃ S' as' E C, Le S1 S' ∧ as1 <+: as' ∧ Sim X.K F S' as' σ H E C ∧ OutS X.K rx W F (forL (forF Φ n tg b) (xs.drop (i + 1)) E C) S' as' D,
   fun σ' H' ⟨m', h1, h2⟩ => ⟨m', h1, h2⟩, fun x H' hy => ?_⟩
  obtain ⟨S3, t, l3, sim3, hx, rt⟩ := wa.yields i x H' hlt hy
  have hxi : xs[i] = t := by rw [wad hlt] at hx; exact waA hx
  rw [waF hlt, hxi, jHf] at out2
  have out3 : OutS X.K rx W F (M.bind (lift "bind" (jAz tg t E2)) (fun E' => M.bind (exS Φ n b E') (forN (forF Φ n tg b) (xs.drop (i + 1)))) C2) S2 as2 D := by
   rw [← jAg]
   exact out2
  obtain ⟨E', hb', out4⟩ := out3.liftB
  refine ⟨F, S3, as2, E2, C2, t, E', sim3, rt, hb', fun σ4 sim4 _ _ => ⟨F, S3, as2, E', C2, sim4, ((out4.mono l3 (was _)).seq fun o C' out5 => ?_)⟩⟩
  cases o with
  | nx E5 => exact fun σ' S' as' H' l p sim' => ⟨_, by omega, rfl, hlt, S', as', E5, C', l2.trans (l3.trans l), p2.trans p, sim', OutS.mono out5 l p⟩
  | ct E5 => exact fun σ' S' as' H' l p sim' => ⟨_, by omega, rfl, hlt, S', as', E5, C', l2.trans (l3.trans l), p2.trans p, sim', OutS.mono out5 l p⟩
  | bk E5 => exact out5
  | rt t => exact out5
 ·subst heq
  refine .inl ⟨wa.stops, ?_⟩
  rw [List.drop_length, jIt] at out2
  exact OutS.nxt out2 sim2
end
section
variable {K : PySem.W.Frag} {rx : RX} {W : WX} {F S S' : Hp} {as as' : List Addr} {σ σ' : L2.St} {H H' : Hp} {E E' : Env} {C C' : jAa} {D : Ends}
theorem Sim.updO (s : Sim K F S as σ H E C) {i : Nat} {t t' : T} {a : Addr} {u' : HO} (e : E[i]? = some (.ow t)) (x : σ[i]? = some (some (.ref a))) (hno : isO t' = true → isO t = true) (r : RepO K S as u' t') : Sim K F S as σ (upd H a u') (E.set i (.ow t')) C := by
 obtain ⟨b, u, x', y, z, z1, z2, r0⟩ := s.ow i t e
 rw [x] at x'
 cases x'
 have hb : ∀ (j : Nat) (y : Slot), (E.set i (.ow t'))[j]? = some y → (j = i ∧ y = .ow t') ∨ (j ≠ i ∧ E[j]? = some y) := fun j y e' => by
  by_cases q : i = j
  ·subst q
   rw [wan (waf.mp e).1] at e'
   cases e'
   exact .inl ⟨rfl, rfl⟩
  ·rw [wai q] at e'
   exact .inr ⟨fun z => q z.symm, e'⟩
 refine ⟨fun b v e' => ?_, s.nof, fun b v e' => ?_, fun j t1 e' => ?_, fun j t1 e' => ?_, fun j k t1 t2 b e1 e2 e3 e4 => ?_, s.cl, fun n t1 e' => ?_, s.nd, by rw [waz]; exact s.ln, fun b x' w e2 => ⟨(s.pn b x' w e2).1, fun j t1 e' h => ?_⟩, fun q hq => ⟨jIq (s.tb q hq).1 y r0.mut, (s.tb q hq).2⟩⟩
 ·have q : b ≠ a := by rintro rfl; rw [z] at e'; cases e'
  rw [upd_ne q]; exact s.sub' b v e'
 ·have q : b ≠ a := by rintro rfl; rw [z2] at e'; exact nomatch (show none = some v from e')
  rw [upd_ne q]; exact s.frm b v e'
 ·rcases hb j _ e' with ⟨_, q1⟩ | ⟨_, q1⟩
  ·cases q1
  ·exact s.sh j t1 q1
 ·rcases hb j _ e' with ⟨rfl, q1⟩ | ⟨hj, q1⟩
  ·cases q1
   exact ⟨a, u', x, way, z, z1, z2, r⟩
  ·obtain ⟨b, v, h1, h2, h3⟩ := s.ow j t1 q1
   have q : b ≠ a := by rintro rfl; exact hj (s.owd j i t1 t b q1 e h1 x)
   exact ⟨b, v, h1, by rw [upd_ne q]; exact h2, h3⟩
 ·have f : ∀ (j : Nat) (t1 : T), (E.set i (.ow t'))[j]? = some (.ow t1) → ∃ t2, E[j]? = some (.ow t2) := fun j t1 e' => by
   rcases hb j _ e' with ⟨rfl, _⟩ | ⟨_, e'⟩
   ·exact ⟨t, e⟩
   ·exact ⟨t1, e'⟩
  obtain ⟨t3, e5⟩ := f j t1 e1
  obtain ⟨t4, e6⟩ := f k t2 e2
  exact s.owd j k t3 t4 b e5 e6 e3 e4
 ·obtain ⟨b, v, h1, h2, h3, h4⟩ := s.ce n t1 e'
  have q : b ≠ a := by rintro rfl; exact z1 (waP h1)
  exact ⟨b, v, h1, by rw [upd_ne q]; exact h2, h3, h4⟩
 ·rcases hb j _ e' with ⟨rfl, q1⟩ | ⟨hj, q1⟩
  ·cases q1; exact (s.pn b x' w e2).2 j t e (hno h)
  ·exact (s.pn b x' w e2).2 j t1 q1 h
theorem Sim.updC (s : Sim K F S as σ H E C) {n : Nat} {t' : T} {a : Addr} {u' : HO} (e : as[n]? = some a) (r : RepO K S as u' t') : Sim K F S as σ (upd H a u') E (C.set n t') := by
 have hn : n < C.length := by rw [← s.cl]; exact (waf.mp e).1
 obtain ⟨b, u, x', y, z, r0⟩ := s.ce n C[n] (wad hn)
 rw [e] at x'
 cases x'
 have ha : a ∈ as := waP e
 refine ⟨fun b v e' => ?_, s.nof, fun b v e' => ?_, s.sh, fun j t1 e' => ?_, s.owd, by rw [waz]; exact s.cl, fun m t1 e' => ?_, s.nd, s.ln, s.pn, fun q hq => ⟨jIq (s.tb q hq).1 y r0.mut, (s.tb q hq).2⟩⟩
 ·have q : b ≠ a := by rintro rfl; rw [z] at e'; cases e'
  rw [upd_ne q]; exact s.sub' b v e'
 ·have h := s.frm b v e'
  have q : b ≠ a := by rintro rfl; exact h.2.2 ha
  rw [upd_ne q]; exact h
 ·obtain ⟨b, v, h1, h2, h3, h4, h5⟩ := s.ow j t1 e'
  have q : b ≠ a := by rintro rfl; exact h4 ha
  exact ⟨b, v, h1, by rw [upd_ne q]; exact h2, h3, h4, h5⟩
 ·by_cases q : n = m
  ·subst q
   rw [wan hn] at e'
   cases e'
   exact ⟨a, u', e, way, z, r⟩
  ·rw [wai q] at e'
   obtain ⟨b, v, h1, h2, h3, h4⟩ := s.ce m t1 e'
   have qa : b ≠ a := by
    rintro rfl
    obtain ⟨i1, g1⟩ := waf.mp e
    obtain ⟨i2, g2⟩ := waf.mp h1
    exact q ((List.getElem_inj s.nd).mp (g1.trans g2.symm))
   exact ⟨b, v, h1, by rw [upd_ne qa]; exact h2, h3, h4⟩
theorem j0w {x : Nat} {p : T × (T → M Env)} (h : atX E x C = .ok p C') : C' = C ∧ ((∃ t, E[x]? = some (.ow t) ∧ p = (t, fun t' => M.pure (E.set x (.ow t')))) ∨
  ∃ n, E[x]? = some (.sh (.ref n)) ∧ p = (C.getD n .non, fun t' => M.bind (upC n t') fun _ => M.pure E)) := by
 unfold atX at h
 generalize E[x]? = o at h ⊢
 cases o with
 | none => cases h
 | some w =>
  cases w with
  | un => cases h
  | ow t => cases h; exact ⟨rfl, .inl ⟨t, rfl, rfl⟩⟩
  | sh t =>
   cases t with
   | ref n => cases h; exact ⟨rfl, .inr ⟨n, rfl, rfl⟩⟩
   | _ => cases h
theorem jM1 {x : Nat} {y : T} (h : atX E x C = .exc y C') : False := by
 unfold atX at h
 generalize E[x]? = o at h
 cases o with
 | none => cases h
 | some w =>
  cases w with
  | un => cases h
  | ow t => cases h
  | sh t =>
   cases t with
   | ref n => cases h
   | _ => cases h
theorem Sim.plc (s : Sim K F S as σ H E C) {x : Nat} {p : T × (T → M Env)} {C' : jAa} (h : atX E x C = .ok p C') : C' = C ∧ ∃ a u, Plc K F S as σ H E C x a u p.1 p.2 := by
 obtain ⟨rfl, ⟨t, e, rfl⟩ | ⟨n, e, rfl⟩⟩ := j0w h
 ·obtain ⟨a, u, h1, h2, h3, h4, h5, h6⟩ := s.ow x t e
  exact ⟨rfl, a, u, h1, h2, h6, fun u' t' hno r => ⟨_, _, rfl, s.updO e h1 hno r⟩⟩
 ·obtain ⟨v, h1, r⟩ := s.sh x _ e
  cases r with
  | ref ea =>
   rename_i a
   have hn : n < C'.length := by rw [← s.cl]; exact (waf.mp ea).1
   obtain ⟨b, u, h2, h3, h4, h5⟩ := s.ce n C'[n] (wad hn)
   rw [ea] at h2
   cases h2
   refine ⟨rfl, a, u, h1, h3, ?_, fun u' t' _ r' => ⟨E, C'.set n t', ?_, s.updC ea r'⟩⟩
   ·rw [List.getD, wad hn]
    exact h5
   ·simp only [M.bind, upC, if_pos hn, M.pure]
end
section
variable {K : PySem.W.Frag} {rx : RX} {W : WX} {F S S' : Hp} {as as' : List Addr} {σ σ' : L2.St} {H H' : Hp} {E E' : Env} {C C' : jAa} {D : Ends}
theorem OutS.plc {x : Nat} {G : T × (T → M Env) → M RS} (out : OutS K rx W F (M.bind (atX E x) G C) S as D) (s : Sim K F S as σ H E C) : ∃ p a u, Plc K F S as σ H E C x a u p.1 p.2 ∧ OutS K rx W F (G p C) S as D := by
 unfold M.bind at out
 cases e : atX E x C with
 | ok p C' =>
  obtain ⟨rfl, a, u, h⟩ := s.plc e
  rw [e] at out
  exact ⟨p, a, u, h, out⟩
 | exc y C' => exact (jM1 e).elim
 | stuck w => rw [e] at out; exact False.elim out
end
section
variable (Φ : Calls) (n : Nat) (E : Env)
theorem jNo (x : Nat) (e : Ex) : ex Φ n (.app x e) E = M.bind (atX E x) fun p0 => M.bind (lift "app" (lstT p0.1)) fun _ => M.bind (ev Φ e E) fun t => M.bind (atX E x) fun p => M.bind (lift "app" (lstT p.1)) fun xs => M.bind (need "size" (szOk (xs.length + 1))) fun _ =>
  M.bind (p.2 (.lst (xs ++ [t]))) fun E' => M.pure (.nx E') := rfl
theorem zBd (x : Nat) (e : Ex) : ex Φ n (.ext x e) E = M.bind (atX E x) fun p0 => M.bind (lift "ext" (lstT p0.1)) fun _ => M.bind (ev Φ e E) fun t => M.bind (lift "ext" (lstT t)) fun ys => M.bind (atX E x) fun p => M.bind (lift "ext" (lstT p.1)) fun xs => M.bind (need "size" (szOk (xs.length + ys.length))) fun _ =>
  M.bind (p.2 (.lst (xs ++ ys))) fun E' => M.pure (.nx E') := rfl
theorem jS4 (x : Nat) (i e : Ex) : ex Φ n (.ins x i e) E = M.bind (atX E x) fun p0 => M.bind (lift "ins" (lstT p0.1)) fun _ => M.bind (ev Φ i E) fun k => M.bind (ev Φ e E) fun t => M.bind (atX E x) fun p => M.bind (lift "ins" (lstT p.1)) fun xs => M.bind (lift "ins" (intT k)) fun i =>
  M.bind (need "ins" (decide (0 ≤ i) && decide (i ≤ xs.length) && szOk (xs.length + 1))) fun _ => M.bind (p.2 (.lst (xs.take i.toNat ++ t :: xs.drop i.toNat))) fun E' => M.pure (.nx E') := rfl
end
section
variable {X : Cx} {rx : RX} {W : WX} {Φ : Calls} {n : Nat} {e e2 : Expr} {xe xi : Ex} {pos apos cpos npos : Pos} {i : Nat} {x : Str} {K : PySem.W.Frag} {S : Hp} {as : List Addr}
theorem jJ2 {u : HO} {ts : List T} (h : RepO K S as u (.lst ts)) : ∃ vs, u = .lst vs ∧ vs.length ≤ sizeLine ∧ Reps K S as vs ts := by
 cases h with
 | lst z r => exact ⟨_, rfl, z, r⟩
theorem jG9 {t : T} {xs : List T} (h : lstT t = some xs) : t = .lst xs := by
 cases t <;> simp only [lstT] at h <;> cases h
 rfl
theorem jN5 {t : T} {k : Int} (h : intT t = some k) : t = .int k := by
 cases t <;> simp only [intT] at h <;> cases h
 rfl
structure jZw (X : Cx) (i : Nat) (x : Str) : Prop where
 ix : X.N[i]? = some x
 vis : Vis X.env.scope x
 d : (x == ("__debug__" : Str)) = false
 c : (x == ("__classdict__" : Str)) = false
theorem jWi (hv : jZw X i x) (he : PE X e (DE X.K rx W Φ xe)) (hst : starEach [e] X.env = (false, eval e X.env) :: starEach [] X.env) (hl : (apos.endLine == cpos.line) = true) :
  PS X (.Expr (.Call (.Attribute (.Name x npos) "append" apos) [e] [] cpos) pos) (DZ X.K rx W Φ n (.app i xe)) := by
 refine jBo (ps_expr (pe_bm PySem.F.plainAttrs_list PySem.F.slot_list_append PySem.F.type_list_append mt_append (pe_var hv.ix hv.vis hv.d hv.c) (pa_cons he pa_nil hst) (by rfl) (by rw [hst]; rfl) hl hst (by rfl)) (by rfl)) fun D σ H ⟨F, S, as, E, C, sim, no, out⟩ => ?_
 rw [jNo] at out
 obtain ⟨p0, a, u, pl, out⟩ := out.plc sim
 obtain ⟨ts, hts, out⟩ := out.liftB
 have q0 := pl.rep
 rw [jG9 hts] at q0
 obtain ⟨vs, rfl, _⟩ := jJ2 q0
 refine ⟨.ref a, pl.at_, .inl ⟨rfl, vs, .inl (.inl pl.hp)⟩, F, S, as, E, C, sim, no, out.bind fun v t S1 as1 H1 C1 _ l1 p1 sim1 r1 out1 => ?_⟩
 obtain ⟨p, b, u, pl1, out2⟩ := out1.plc sim1
 obtain rfl : a = b := by
  have := pl1.at_
  rw [pl.at_] at this
  cases this
  rfl
 obtain ⟨ts1, hts1, out3⟩ := out2.liftB
 have q1 := pl1.rep
 rw [jG9 hts1] at q1
 obtain ⟨vs1, rfl, z1, rs⟩ := jJ2 q1
 obtain ⟨hz, out4⟩ := out3.needB
 have hz := jAp hz
 rw [← rs.length] at hz
 obtain ⟨E', C', sim2, out5⟩ := out4.put (u' := .lst (vs1 ++ [v])) pl1 (.lst (by rw [wav]; exact hz) (rs.append (.cons r1 .nil)))
 exact ⟨a, vs1, v, rfl, rfl, pl1.hp, by omega, OutS.nxt out5 sim2⟩
end
def jHp (k t : T) (p : T × (T → M Env)) : M RS := match p.1 with
 | .lst xs => M.bind (lift "setIx" (intT k)) fun i => M.bind (lift "setIx" (L2.ixN xs.length i)) fun n => M.bind (p.2 (.lst (xs.set n t))) fun E' => M.pure (.nx E')
 | .dic ks vs => M.bind (lift "setIx" (keyT k)) fun k => M.bind (need "size" (szOk (ks.length + 1))) fun _ => M.bind (p.2 (.dic (putK k t ks vs).1 (putK k t ks vs).2)) fun E' => M.pure (.nx E')
 | _ => stuck "setIx"
def jMs (c f : Str) (t : T) (p : T × (T → M Env)) : M RS := match p.1 with
 | .obj c' ns vs => M.bind (need "setAt" (c' == c && decide (ns.length < 999))) fun _ => M.bind (p.2 (.obj c' (jHh f t ns vs).1 (jHh f t ns vs).2)) fun E' => M.pure (.nx E')
 | _ => stuck "setAt"
section
variable (Φ : Calls) (n : Nat) (E : Env)
theorem j4t (x : Nat) (i e : Ex) : ex Φ n (.setIx x i e) E = M.bind (ev Φ e E) fun t => M.bind (atX E x) fun _ => M.bind (ev Φ i E) fun k => M.bind (atX E x) fun p => jHp k t p := rfl
theorem j2t (c f : Str) (e : Ex) : ex Φ n (.setAt c f e) E = M.bind (ev Φ e E) fun t => M.bind (atX E 0) fun p => jMs c f t p := rfl
theorem zBa (is : List Nat) (e : Ex) : ex Φ n (.unp is e) E = M.bind (ev Φ e E) fun t => M.bind (lift "unp" (items t)) fun ts => M.bind (lift "unp" (jBh is (ts.map .sh) E)) fun E' => M.pure (.nx E') := rfl
theorem jLm (is : List Nat) (es : Exs) : ex Φ n (.par is es) E = M.bind (evS Φ es E) fun ts => M.bind (lift "par" (jBh is (jBe es ts) E)) fun E' => M.pure (.nx E') := rfl
theorem jSo (h k j : Nat) (a b : Ex) : ex Φ n (.dvm h k j a b) E = M.bind (ev Φ a E) fun x => M.bind (ev Φ b E) fun y => M.bind (lift "dvm" (intT x)) fun m => M.bind (lift "dvm" (intT y)) fun n => M.bind (need "dvm" (decide (0 < n) && decide (n < 1073741824))) fun _ =>
  M.bind (atX E h) fun p => M.bind (lift "dvm" (lstT p.1)) fun xs => M.bind (need "dvm" (decide (k < xs.length))) fun _ => M.bind (p.2 (.lst (xs.set k (.int (m / n))))) fun E' => M.pure (.nx (E'.set j (.sh (.int (m % n))))) := rfl
end
theorem jQe {kvs : List (Key × V)} {k : Key} : (kvs.any fun kv => decide (kv.1 = k)) = ((kvs.map (·.1)).any fun a => decide (a = k)) := by
 rw [List.any_map]; rfl
theorem jOz {K : PySem.W.Frag} {S : Hp} {as : List Addr} {kvs : List (Key × V)} {ts : List T} {k : Key} {v : V} {t : T} (r : Reps K S as (kvs.map (·.2)) ts) (rv : Rep K S as v t) :
  (L2.putK kvs k v).map (·.1) = (putK k t (kvs.map (·.1)) ts).1 ∧ Reps K S as ((L2.putK kvs k v).map (·.2)) (putK k t (kvs.map (·.1)) ts).2 := by
 unfold L2.putK putK
 rw [jQe]
 cases h : (kvs.map (·.1)).any fun a => decide (a = k) with
 | false =>
  simp only [wa2, if_false, List.map_append, war, List.map_nil, true_and]
  exact r.append (.cons rv .nil)
 | true =>
  simp only [if_true]
  clear h
  induction kvs generalizing ts with
  | nil => exact ⟨rfl, by cases r; exact .nil⟩
  | cons p kvs ih =>
   cases r with
   | cons r1 rs =>
    obtain ⟨h1, h2⟩ := ih rs
    simp only [war, repK]
    by_cases e : p.1 = k
    ·rw [if_pos e, if_pos e]
     exact ⟨by rw [h1], .cons rv h2⟩
    ·rw [if_neg e, if_neg e]
     exact ⟨by rw [h1], .cons r1 h2⟩
theorem jP3 {kvs : List (Key × V)} {k : Key} {v : V} (h : ∀ p ∈ kvs, KG p.1) (hk : KG k) : ∀ p ∈ L2.putK kvs k v, KG p.1 := fun p hp => by
 unfold L2.putK at hp
 split at hp
 ·obtain ⟨q, hq, e⟩ := wbg.mp hp
  split at e
  ·rename_i e2; subst e; exact h q hq
  ·subst e; exact h q hq
 ·rcases wa1.mp hp with hp | hp
  ·exact h p hp
  ·rw [waB.mp hp]; exact hk
theorem jPl {kvs : List (Key × V)} {k : Key} {v : V} : (L2.putK kvs k v).length ≤ kvs.length + 1 := by
 unfold L2.putK
 split
 ·rw [waw]; omega
 ·rw [wav]; exact waK _
def rSl (K : PySem.W.Frag) (xs : Exs) : RR (List V) (List T) := fun F σ E S as H vs ts => SlR K S as H σ E F xs vs ts
theorem jMf {x : Ex} {t : T} (h : jAc x t = .ow t) : isO t = false := by
 unfold jAc at h
 cases hf : fresh x <;> rw [hf] at h <;> cases t <;> first | rfl | (simp at h; done)
section
variable {K : PySem.W.Frag} {rx : RX} {W : WX} {F S S' : Hp} {as as' : List Addr} {σ σ' : L2.St} {H H' : Hp} {E E' : Env} {C C' : jAa} {D : Ends}
theorem Sim.setSl {F0 : Hp} {xs : Exs} {vs : List V} {ts : List T} (h : SlR K S as H σ E F0 xs vs ts) : ∀ {is : List Nat} {σ1 : L2.St} {E1 : Env}, Sim K F S as σ1 H E1 C → (∀ b, F0 b = none → F b = none) →
  (∀ (j : Nat) t' b, E1[j]? = some (.ow t') → σ1[j]? = some (some (.ref b)) → (∃ (k : Nat) (t : T), E[k]? = some (.ow t) ∧ σ[k]? = some (some (.ref b))) ∨ F0 b ≠ none) → is.length = ts.length →
  Sim K F S as (SI.setAll σ1 is vs) H ((is.zip (jBe xs ts)).foldl (fun E p => E.set p.1 p.2) E1) C := by
 induction h with
 | nil => intro is σ1 E1 s _ _ hl; rw [wa8.mp hl]; exact s
 | @sh F0 x xs v vs t ts r hx _ ih =>
  intro is σ1 E1 s hF ho hl
  cases is with
  | nil => cases hl
  | cons i is =>
   have s2 := s.setSh r i
   show Sim K F S as (SI.setAll (σ1.set i (some v)) is vs) H ((is.zip (jBe xs ts)).foldl (fun E p => E.set p.1 p.2) (E1.set i (jAc x t))) C
   rw [hx]
   refine ih s2 hF (fun j t' b e1 e2 => ?_) (by simpa using hl)
   by_cases q : i = j
   ·subst q
    rw [wan (by have := (waf.mp e1).1; rwa [waz] at this)] at e1
    cases e1
   ·rw [wai q] at e1 e2
    exact ho j t' b e1 e2
 | @ow F0 x xs a u vs t ts hx h1 h2 h3 h4 h5 h6 _ ih =>
  intro is σ1 E1 s hF ho hl
  cases is with
  | nil => cases hl
  | cons i is =>
   have s2 := s.setOw (v := .ref a) (t := t) ⟨a, u, rfl, h1, h2, h3, hF a h4, fun j t' e1 e2 => by
    rcases ho j t' a e1 e2 with ⟨k, t2, e3, e4⟩ | e3
    ·exact h5 k t2 e3 e4
    ·exact e3 h4, h6⟩ i (jMf hx)
   show Sim K F S as (SI.setAll (σ1.set i (some (.ref a))) is vs) H ((is.zip (jBe xs ts)).foldl (fun E p => E.set p.1 p.2) (E1.set i (jAc x t))) C
   rw [hx]
   refine ih s2 (fun b e => ?_) (fun j t' b e1 e2 => ?_) (by simpa using hl)
   ·by_cases q : b = a
    ·subst q; rw [way] at e; cases e
    ·rw [upd_ne q] at e; exact hF b e
   ·by_cases q : i = j
    ·subst q
     have hl2 : i < E1.length := by have := (waf.mp e1).1; rwa [waz] at this
     rw [wan (waW hl2 s.ln)] at e2
     cases e2
     exact .inr (by rw [way]; exact fun z => nomatch z)
    ·rw [wai q] at e1 e2
     rcases ho j t' b e1 e2 with z | z
     ·exact .inl z
     ·refine .inr ?_
      by_cases q2 : b = a
      ·subst q2; rw [way]; exact fun z => nomatch z
      ·rw [upd_ne q2]; exact z
theorem Out.wide {α β : Type} {r : Res α} {R : Hp → List Addr → Hp → β → α → Prop} {Q Q' : β → Hp → Prop} (out : Out K rx W F σ E r R S as Q) (h : ∀ v H, Q v H → Q' v H) : Out K rx W F σ E r R S as Q' := by
 cases r with
 | ok t C' => exact fun v S2 as2 H2 l p sim r => h v H2 (out v S2 as2 H2 l p sim r)
 | exc x C' => exact out
 | stuck w => exact out
theorem Out.bindG {α α' β β' : Type} {a : Addr} {u : HO} {ma : M α} {f : α → M α'} {Ra : Hp → List Addr → Hp → β → α → Prop} {Rc : Hp → List Addr → Hp → β' → α' → Prop} {Q : β' → Hp → Prop} {Q1 : β → Hp → Prop} (out : Out K rx W F σ E (M.bind ma f C) Rc S as Q) (hF : F a = none)
  (k : ∀ v t S' as' H' C', Le S S' → as <+: as' → Sim K (upd F a u) S' as' σ H' E C' → Ra S' as' H' v t → Out K rx W F σ E (f t C') Rc S' as' Q → Q1 v H') : Out K rx W (upd F a u) σ E (ma C) Ra S as Q1 := by
 unfold M.bind at out
 cases e : ma C with
 | ok t C' =>
  rw [e] at out
  exact fun v S2 as2 H2 l2 p2 sim r => k v t S2 as2 H2 C' l2 p2 sim r (Out.mono out l2 p2)
 | exc x C' => rw [e] at out; exact fun cls d S2 as2 H2 l p sim r => out cls d S2 as2 H2 l p (sim.unguard hF) r
 | stuck w => rw [e] at out; exact out
end
section
variable {X : Cx} {rx : RX} {W : WX} {Φ : Calls} {n : Nat} {e a : Expr} {es ns : List Expr} {xe xa : Ex} {xs : Exs} {pos : Pos} {is js : List Nat}
theorem jZc : PA X [] (Dn X.K rx W [] (evS Φ .nil) (rSl X.K .nil)) := jGt pa_nil fun σ H Q ⟨F, S, as, E, C, sim, no, out⟩ => out.here sim .nil
theorem jZk (ha : PE X a (DR X.K rx W Φ xa)) (hr : PA X es (Dn X.K rx W js (evS Φ xs) (rSl X.K xs))) (hs : starEach (a :: es) X.env = (false, eval a X.env) :: starEach es X.env) :
  PA X (a :: es) (Dn X.K rx W (escE xa ++ js) (evS Φ (.cons xa xs)) (rSl X.K (.cons xa xs))) := by
 refine jGt (pa_cons ha hr hs) fun σ H Q ⟨F, S, as, E, C, sim, no, out⟩ => ?_
 rw [jA5] at out
 refine ⟨F, S, as, E, C, sim, no.left, out.bind fun v t S1 as1 H1 C1 l1 p1 sim1 r1 out1 => ?_⟩
 have hr : (jAc xa t = .ow t ∧ RepN X.K F σ E S1 as1 H1 v t) ∨ (jAc xa t = .sh t ∧ Rep X.K S1 as1 v t) := by
  have r1 : rFr X.K xa F σ E S1 as1 H1 v t := r1
  unfold rFr at r1
  unfold jAc
  cases hf : fresh xa with
  | false =>
   rw [hf, if_neg waa] at r1
   exact .inr ⟨by cases t <;> rfl, r1⟩
  | true =>
   rw [hf, if_pos rfl] at r1
   cases t with
   | lst xs => exact .inl ⟨rfl, r1⟩
   | dic ks vs => exact .inl ⟨rfl, r1⟩
   | _ => exact .inr ⟨rfl, r1⟩
 rcases hr with ⟨hx, b, u, rfl, hH, hS, hc, hF, ho, ro⟩ | ⟨hx, r⟩
 ·refine ⟨upd F b u, S1, as1, E, C1, sim1.guard hH ro.mut hS hc ho, no.right, out1.bindG hF fun vs ts S2 as2 H2 C2 l2 p2 sim2 r2 out2 => ?_⟩
  obtain ⟨g1, g2, g3⟩ := sim2.frm b u (by rw [way]; exact jBj ro.nofrz)
  exact out2.here (sim2.unguard hF) (.ow hx g1 g2 g3 hF ho (ro.mono l2 p2) r2)
 ·exact ⟨F, S1, as1, E, C1, sim1, no.right, out1.bind fun vs ts S2 as2 H2 C2 l2 p2 sim2 r2 out2 => out2.here sim2 (.sh (Rep.mono l2 p2 r) hx r2)⟩
theorem jGs {D : Ends} {σ : L2.St} {H : Hp} (hz : is.length ≤ sizeLine) (h : DZ X.K rx W Φ n (.par is xs) D σ H) : (Dn X.K rx W (escS xs) (evS Φ xs) (rSl X.K xs)) σ H fun vs H1 => vs.length = is.length ∧ vs.length ≤ sizeLine ∧ D.nx (setAll σ is vs) H1 ∧
  ∀ p, H1 p = none → D.nx (setAll σ is vs) (upd H1 p (.tup vs)) := by
 obtain ⟨F, S, as, E, C, sim, no, out⟩ := h
 rw [jLm] at out
 refine ⟨F, S, as, E, C, sim, no, out.bind fun vs ts S1 as1 H1 C1 _ l1 p1 sim1 r1 out1 => ?_⟩
 have r1 : SlR X.K S1 as1 H1 σ E F xs vs ts := r1
 obtain ⟨E', hE, out2⟩ := out1.liftB
 unfold jBh at hE
 split at hE
 ·rename_i hl
  cases hE
  have hts : is.length = ts.length := by
   rw [hl]
   exact r1.slots
  have s2 := Sim.setSl r1 sim1 (fun _ e => e) (fun j t' b e1 e2 => .inl ⟨j, t', e1, e2⟩) hts
  have hv : vs.length = is.length := by rw [r1.len, hts]
  exact ⟨hv, by rw [hv]; exact hz, OutS.nxt out2 s2, fun p hp => OutS.nxt out2 (s2.laid hp)⟩
 ·cases hE
theorem jVg {k k2 : Nat} {pt pt2 : Pos} (hz : is.length ≤ sizeLine) (hc : X.calm = true) (hN : X.N.Nodup) (h : TgNs X ns is) (ha : PA X es (Dn X.K rx W (escS xs) (evS Φ xs) (rSl X.K xs))) (hw : swappedStores [.Tuple ns k pt] (.Tuple es k2 pt2) X.env = pure none) :
  PS X (.Assign [.Tuple ns k pt] (.Tuple es k2 pt2) pos) (DZ X.K rx W Φ n (.par is xs)) := by
 obtain ⟨h1, h2⟩ := jCv h
 refine jBo (ps_asg (pe_tup ha) (pg_tup hc (jC9 hN h) h1 h2) (by rfl) hw (by rfl)) fun D σ H hd => ?_
 obtain ⟨F, S, as, E, C, sim, no, out⟩ := jGs hz hd
 refine ⟨F, S, as, E, C, sim, no, out.wide fun vs H1 ⟨q1, q2, q3, q4⟩ => ⟨q2, fun p hp => ⟨p, vs, rfl, .inl (.inl way), q1, q1, q4 p hp⟩⟩⟩
theorem jPa {i j : Nat} {x y : Str} {b : Expr} {px py pt pt2 : Pos} {kt k2 : Nat} (hc : X.calm = true) (hN : X.N.Nodup) (hi : X.N[i]? = some x) (hj : X.N[j]? = some y) (hij : i ≠ j) (hx : X.env.scope.names.lookup x = some .local) (hy : X.env.scope.names.lookup y = some .local)
  (ha : PA X [a, b] (Dn X.K rx W (escS xs) (evS Φ xs) (rSl X.K xs))) (hw : swappedStores [.Tuple [.Name x px, .Name y py] kt pt] (.Tuple [a, b] k2 pt2) X.env = pure (some [x, y])) :
  PS X (.Assign [.Tuple [.Name x px, .Name y py] kt pt] (.Tuple [a, b] k2 pt2) pos) (DZ X.K rx W Φ n (.par [i, j] xs)) := by
 refine jBo (ps_par hc hN hi hj hij hx hy ha hw (by rfl)) fun D σ H hd => ?_
 obtain ⟨F, S, as, E, C, sim, no, out⟩ := jGs (by rw [waN]; simp) hd
 refine ⟨F, S, as, E, C, sim, no, out.wide fun vs H1 ⟨q1, q2, q3, q4⟩ => ?_⟩
 obtain ⟨v, w, rfl⟩ : ∃ v w, vs = [v, w] := by
  match vs, q1 with
  | [v, w], _ => exact ⟨v, w, rfl⟩
 exact ⟨v, w, rfl, q3⟩
theorem jPo {i j l : Nat} {x y z : Str} {b c : Expr} {px py pz pt pt2 : Pos} {kt k2 : Nat} (hc : X.calm = true) (hN : X.N.Nodup) (hi : X.N[i]? = some x) (hj : X.N[j]? = some y) (hl : X.N[l]? = some z) (hij : i ≠ j) (hil : i ≠ l) (hjl : j ≠ l) (hx : X.env.scope.names.lookup x = some .local) (hy : X.env.scope.names.lookup y = some .local) (hz : X.env.scope.names.lookup z = some .local)
  (ha : PA X [a, b, c] (Dn X.K rx W (escS xs) (evS Φ xs) (rSl X.K xs))) (hw : swappedStores [.Tuple [.Name x px, .Name y py, .Name z pz] kt pt] (.Tuple [a, b, c] k2 pt2) X.env = pure (some [x, y, z])) :
  PS X (.Assign [.Tuple [.Name x px, .Name y py, .Name z pz] kt pt] (.Tuple [a, b, c] k2 pt2) pos) (DZ X.K rx W Φ n (.par [i, j, l] xs)) := by
 refine jBo (ps_par3 hc hN hi hj hl hij hil hjl hx hy hz ha hw (by rfl)) fun D σ H hd => ?_
 obtain ⟨F, S, as, E, C, sim, no, out⟩ := jGs (by rw [waN]; simp) hd
 refine ⟨F, S, as, E, C, sim, no, out.wide fun vs H1 ⟨q1, q2, q3, q4⟩ => ?_⟩
 obtain ⟨u, v, w, rfl⟩ : ∃ u v w, vs = [u, v, w] := by
  match vs, q1 with
  | [u, v, w], _ => exact ⟨u, v, w, rfl⟩
 exact ⟨u, v, w, rfl, q3⟩
end
section
variable {X : Cx} {rx : RX} {W : WX} {Φ : Calls} {n : Nat} {a b : Expr} {xa xb : Ex} {pos npos cpos p2 p3 p4 p5 p6 : Pos} {h j k : Nat} {x y : Str} {j1 j2 : Nat}
theorem jNd {i : Nat} {y : Str} {py : Pos} {elt tg iter : Expr} {ifs : List Expr} {scope : Scope} {own : List (Str × Nat)} {spos : Pos} {js ws : List Nat} {tgt : Tg} {src : Src} {cond xe : Ex} (hc : X.calm = true) (hN : X.N.Nodup) (hy : X.N[i]? = some y) (hyl : X.env.scope.names.lookup y = some .local)
  (hsw : swapsWith (.ListComp elt [⟨tg, iter, ifs, 0⟩] scope pos) (some (.Name y py)) spos.line X.env = pure true) (hi : PI X tg iter (Dn X.K rx W js (evR Φ src) (rJ X.K tgt))) (ok : BlkOk X.N X.env.scope scope own)
  (hw : own.map (·.2) = ws) (hsub : ∀ j ∈ tgS tgt, j ∈ ws) (hjs : escE (.lc ws tgt src cond xe) = ws ++ (js ++ (trE cond ++ escE xe)))
  (hg : ∀ (s : Shared) (H : Hp) (C : Addr) (cl : List (Str × Addr)) (fp : List Addr), PG (X.blk s H scope (compEnvC scope cl C X.env) fp) tg (gT X.K tgt)) (ht : ∀ (s : Shared) (H : Hp) (C : Addr) (cl : List (Str × Addr)) (fp : List Addr), PTs (X.blk s H scope (compEnvC scope cl C X.env) fp) ifs (DT X.K rx WF Φ cond))
  (he : ∀ (s : Shared) (H : Hp) (C : Addr) (cl : List (Str × Addr)) (fp : List Addr), PE (X.blk s H scope (compEnvC scope cl C X.env) fp) elt (DE X.K rx WF Φ xe)) (hs : ∀ x, foldedSetIterable iter X.env x = pure x) :
  PS X (.Assign [.Name y py] (.ListComp elt [⟨tg, iter, ifs, 0⟩] scope pos) spos) (DZ X.K rx W Φ n (.set i (.lc ws tgt src cond xe))) := by
 refine jBo (ps_setLc hc hN hy hyl hsw hi ok hg ht he hs) fun D σ H hd => ?_
 have h := jEb hd
 have h2 : (Dn X.K rx W (ws ++ (js ++ (trE cond ++ escE xe))) (ev Φ (.lc ws tgt src cond xe)) (rF X.K)) σ H (fun x H1 => gName i x σ H1 D.nx) := by
  rw [← hjs]
  exact h
 rw [hw]
 exact jNy hsub h2
end
def cd (p : Int × Int) : Int := p.1 * 64 + p.2
section
variable {X : Cx} {rx : RX} {W : WX}
theorem jPz {xs : List T} {is : List Int} (h : mapO intT xs = some is) : xs = is.map .int := by
 induction xs generalizing is with
 | nil => simp only [mapO] at h; cases h; rfl
 | cons x xs ih =>
  simp only [mapO] at h
  obtain ⟨i, h1, h⟩ := wal.mp h
  obtain ⟨js, h2, e⟩ := wae.mp h
  subst e
  rw [jN5 h1, ih h2]
  rfl
end
def lc2F (Φ : Calls) (ws : List Nat) (tg : Tg) (cond : Ex) (tg' : Tg) (src' : Src) (cond' elt : Ex) (E : Env) (x : T) : M (List T) :=
 M.bind (lift "bind" (jAz tg x (jAr ws E))) fun E' => M.bind (ev Φ cond E') fun c => M.bind (truM Φ c) fun b => if b = true then M.bind (evR Φ src' E') fun ys => jA1 (lcF Φ (tgS tg') tg' cond' elt E') ys else M.pure []
theorem j0n (Φ : Calls) (E : Env) (ws : List Nat) (tg : Tg) (src : Src) (cond : Ex) (tg' : Tg) (src' : Src) (cond' elt : Ex) : ev Φ (.lc2 ws tg src cond tg' src' cond' elt) E = M.bind (evR Φ src E) fun xs => jA4 (jAh (jA1 (lc2F Φ ws tg cond tg' src' cond' elt E) xs)) := rfl
theorem jVj {Φ : Calls} {ws : List Nat} {tg tg' : Tg} {src' : Src} {cond cond' elt : Ex} {E : Env} {x : T} {C C' : jAa} {r : List T} (h : lc2F Φ ws tg cond tg' src' cond' elt E x C = .ok r C') :
  ∃ E' b C1, jAz tg x (jAr ws E) = some E' ∧ tst Φ cond E' C = .ok b C1 ∧ ((b = true ∧ ∃ ys C2, evR Φ src' E' C1 = .ok ys C2 ∧ jA1 (lcF Φ (tgS tg') tg' cond' elt E') ys C2 = .ok r C') ∨ (b = false ∧ r = [] ∧ C' = C1)) := by
 obtain ⟨E', C1, h1, h2⟩ := jA3 h
 obtain ⟨e1, rfl⟩ := jH6 h1
 obtain ⟨c, C2, h3, h4⟩ := jA3 h2
 obtain ⟨b, C3, h5, h6⟩ := jA3 h4
 refine ⟨E', b, C3, e1, ?_, ?_⟩
 ·show M.bind (ev Φ cond E') (truM Φ) _ = _
  unfold M.bind
  rw [h3]
  exact h5
 ·rcases jTg h6 with ⟨e, h7⟩ | ⟨e, h7⟩
  ·obtain ⟨t, C4, h8, h9⟩ := jA3 h7
   exact .inl ⟨e, t, C4, h8, h9⟩
  ·obtain ⟨rfl, rfl⟩ := jBr h7
   exact .inr ⟨e, rfl, rfl⟩
section
variable {X : Cx} {rx : RX} {W : WX} {Φ : Calls}
theorem jJe {js ws : List Nat} {tgt tgt' : Tg} {src src' : Src} {cond cond' xe : Ex} {σ : L2.St} {H : Hp} {Q : VK} (hsub : ∀ j ∈ tgS tgt, j ∈ ws) (hsub' : ∀ j ∈ tgS tgt', j ∈ ws)
  (h : (Dn X.K rx W (ws ++ (js ++ (trE cond ++ (escR src' ++ (trE cond' ++ escE xe))))) (ev Φ (.lc2 ws tgt src cond tgt' src' cond' xe)) (rF X.K)) σ H Q) :
  tLc2 (Dn X.K rx W js (evR Φ src) (rJ X.K tgt)) (gT X.K tgt) (DT X.K rx WF Φ cond) (Dn X.K rx WF (escR src') (evR Φ src') (rJ X.K tgt')) (gT X.K tgt') (DT X.K rx WF Φ cond') (DE X.K rx WF Φ xe) ws (tgS tgt') σ H Q := by
 obtain ⟨F, S, as, E, C, sim, no, out⟩ := h
 rw [j0n] at out
 refine ⟨F, S, as, E, C, sim, no.right.left, out.bind fun J xs S1 as1 H1 C1 l1 p1 sim1 r1 out1 => ?_⟩
 intro D hD
 obtain ⟨r, C2, hwalk, hz, out2⟩ := jFm out1
 have noWs : NoOw ws E := no.left
 have noC : NoOw (trE cond) E := no.right.right.left
 have noR : NoOw (escR src') E := no.right.right.right.left
 have noB : NoOw (trE cond' ++ escE xe) E := no.right.right.right.right
 have r1 : rJ X.K tgt F σ E S1 as1 H1 J xs := r1
 have nS := sim1.newS hD
 have nF := sim1.newF hD
 have nC := sim1.newC hD
 have nO : ∀ (j : Nat) t', E[j]? = some (.ow t') → σ[j]? ≠ some (some (.ref D)) := fun j t' e q => by
  obtain ⟨b, u, x, y, _⟩ := sim1.ow j t' e
  rw [x] at q
  cases q
  rw [hD] at y
  cases y
 have simD : Sim X.K (upd F D (.lst [])) S1 as1 (wipe σ ws) (upd H1 D (.lst [])) (jAr ws E) C1 := ((sim1.laid hD).guard way jCe nS nC nO).wipe ws
 refine ⟨fun i m H => m = xs.length - i ∧ i ≤ xs.length ∧ ∃ S' as' C' acc ts r', Le S1 S' ∧ as1 <+: as' ∧ Sim X.K (upd F D (.lst acc)) S' as' (wipe σ ws) H (jAr ws E) C' ∧ Reps X.K S' as' acc ts ∧ jA1 (lc2F Φ ws tgt cond tgt' src' cond' xe E) (xs.drop i) C' = .ok r' C2 ∧ ts ++ r' = r,
  ⟨xs.length, by omega, wa4 _, S1, as1, C1, [], [], r, Le.refl _, was _, simD, .nil, hwalk, rfl⟩, ?_⟩
 rintro i m H2 ⟨hm, hi', S2, as2, C3, acc, ts, r', l2, p2, sim2, ra, hr, hts⟩
 have wa := r1 _ S2 as2 _ H2 _ C3 l2 p2 sim2 noWs.wipe
 rcases Nat.lt_or_eq_of_le hi' with hlt | heq
 ·refine .inr ⟨wa.goes i hlt, fun H' => ∃ m', m' < m ∧ m' = xs.length - (i + 1) ∧ i + 1 ≤ xs.length ∧ ∃ S' as' C' acc ts r', Le S1 S' ∧ as1 <+: as' ∧ Sim X.K (upd F D (.lst acc)) S' as' (wipe σ ws) H' (jAr ws E) C' ∧ Reps X.K S' as' acc ts ∧ jA1 (lc2F Φ ws tgt cond tgt' src' cond' xe E) (xs.drop (i + 1)) C' = .ok r' C2 ∧ ts ++ r' = r,
   fun H' ⟨m', h1, h2⟩ => ⟨m', h1, h2⟩, fun x H' hy => ?_⟩
  obtain ⟨S3, t, l3, sim3, hx, rt⟩ := wa.yields i x H' hlt hy
  have hxi : xs[i] = t := by rw [wad hlt] at hx; exact waA hx
  rw [waF hlt, hxi] at hr
  obtain ⟨a, b, C4, hf, hrest, rfl⟩ := jCs hr
  obtain ⟨E', k, C5, hb, hk, hcase⟩ := jVj hf
  refine ⟨_, S3, as2, _, C3, t, E', sim3, rt, hb, fun σ2 sim4 hout hlen => ⟨?_, ?_⟩⟩
  ·have : wipe (wipe σ ws) ws = wipe σ ws := jBm (wbt _ _) fun j hj => jA0 hj
   rw [← this]
   exact jBm hlen fun j hj => hout j fun z => hj (hsub j z)
  have own' : ∀ (i : Nat) (t : T), E'[i]? = some (.ow t) → E[i]? = some (.ow t) := fun i t e => (jAv (jDh hb i t e) fun z => nomatch z).2
  have keep : jCf (wipe σ ws) (jAr ws E) σ2 E' := fun i t e => by
   obtain ⟨h1, h2⟩ := jCq hsub hb e
   exact ⟨h1, hout i h2⟩
  refine ⟨_, S3, as2, E', C3, sim4, jCf.noOw own' noC, ?_⟩
  rw [hk]
  rintro k' S5 as5 H5 l5 p5 sim5 rfl
  rcases hcase with ⟨rfl, ys, C6, hys, hin⟩ | ⟨rfl, rfl, rfl⟩
  ·rw [if_pos rfl]
   refine ⟨_, S5, as5, E', C5, sim5, jCf.noOw own' noR, ?_⟩
   rw [hys]
   intro J1 S6 as6 H6 l6 p6 sim6 rJ1
   have rJ1 : rJ X.K tgt' (upd F D (.lst acc)) σ2 E' S6 as6 H6 J1 ys := rJ1
   -- the inner loop
   have noT : NoOw (tgS tgt') E' := fun j hj u e => noWs j (hsub' j hj) u (own' j u e)
   refine ⟨fun j k H => k = ys.length - j ∧ j ≤ ys.length ∧ ∃ S' as' C' acc' ts' r1, Le S6 S' ∧ as6 <+: as' ∧ Sim X.K (upd F D (.lst acc')) S' as' (wipe σ2 (tgS tgt')) H (jAr (tgS tgt') E') C' ∧ Reps X.K S' as' acc' ts' ∧ jA1 (lcF Φ (tgS tgt') tgt' cond' xe E') (ys.drop j) C' = .ok r1 C4 ∧ ts' ++ (r1 ++ b) = r,
    ⟨ys.length, by omega, wa4 _, S6, as6, C6, acc, ts, a, Le.refl _, was _, sim6.wipe _, ra.mono (l3.trans (l5.trans l6)) (p5.trans p6), hin, hts⟩, ?_⟩
   rintro j m1 H7 ⟨hm1, hj', S7, as7, C7, acc7, ts7, r7, l7, p7, sim7, ra7, hr7, hts7⟩
   have wa7 := rJ1 _ S7 as7 _ H7 _ C7 l7 p7 sim7 noT.wipe
   rcases Nat.lt_or_eq_of_le hj' with hlt7 | heq7
   ·refine .inr ⟨wa7.goes j hlt7, fun H' => ∃ m', m' < m1 ∧ m' = ys.length - (j + 1) ∧ j + 1 ≤ ys.length ∧ ∃ S' as' C' acc' ts' r1, Le S6 S' ∧ as6 <+: as' ∧ Sim X.K (upd F D (.lst acc')) S' as' (wipe σ2 (tgS tgt')) H' (jAr (tgS tgt') E') C' ∧ Reps X.K S' as' acc' ts' ∧ jA1 (lcF Φ (tgS tgt') tgt' cond' xe E') (ys.drop (j + 1)) C' = .ok r1 C4 ∧ ts' ++ (r1 ++ b) = r,
     fun H' ⟨m', h1, h2⟩ => ⟨m', h1, h2⟩, fun x7 H8 hy7 => ?_⟩
    obtain ⟨S8, t8, l8, sim8, hx8, rt8⟩ := wa7.yields j x7 H8 hlt7 hy7
    have hxj : ys[j] = t8 := by rw [wad hlt7] at hx8; exact waA hx8
    rw [waF hlt7, hxj] at hr7
    obtain ⟨a8, b8, C8, hf8, hrest8, rfl⟩ := jCs hr7
    obtain ⟨E8, k8, C9, hb8, hk8, hcase8⟩ := jRh hf8
    refine ⟨_, S8, as7, _, C7, t8, E8, sim8, rt8, hb8, fun σ9 sim9 hout9 hlen9 => ⟨?_, ?_⟩⟩
    ·have : wipe (wipe σ2 (tgS tgt')) (tgS tgt') = wipe σ2 (tgS tgt') := jBm (wbt _ _) fun j hj => jA0 hj
     rw [← this]
     exact jBm hlen9 fun j hj => hout9 j hj
    have own9 : ∀ (i : Nat) (t : T), E8[i]? = some (.ow t) → E[i]? = some (.ow t) := fun i t e => own' i t (jAv (jDh hb8 i t e) fun z => nomatch z).2
    have keep9 : jCf (wipe σ2 (tgS tgt')) (jAr (tgS tgt') E') σ9 E8 := fun i t e => by
     obtain ⟨h1, h2⟩ := jCq (fun _ z => z) hb8 e
     exact ⟨h1, hout9 i h2⟩
    refine ⟨_, S8, as7, E8, C7, sim9, jCf.noOw own9 noB.left, ?_⟩
    rw [hk8]
    rintro k' S10 as10 H10 l10 p10 sim10 rfl
    rcases hcase8 with ⟨rfl, t2, ht2, rfl⟩ | ⟨rfl, rfl, rfl⟩
    ·rw [if_pos rfl]
     refine ⟨_, S10, as10, E8, C9, sim10, jCf.noOw own9 noB.right, ?_⟩
     rw [ht2]
     intro y S11 as11 H11 l11 p11 sim11 r11
     have hD11 := (sim11.frm D _ (by rw [way]; rfl)).1
     have ra' := ra7.mono (l8.trans (l10.trans l11)) (p10.trans p11)
     have hzz : acc7.length < sizeLine := by
      have := wbe List.length hts7
      rw [wav, wav, wav, List.length_singleton] at this
      rw [ra7.length]
      omega
     exact ⟨acc7, hD11, hzz, _, by omega, rfl, hlt7, S11, as11, C8, acc7 ++ [y], ts7 ++ [t2], b8, l7.trans (l8.trans (l10.trans l11)), p7.trans (p10.trans p11), (sim7.swap sim11 (l8.trans (l10.trans l11)) (p10.trans p11) keep9).setFL, ra'.append (.cons r11 .nil), hrest8, by
      rw [← hts7]; simp⟩
    ·rw [if_neg (by simp)]
     exact ⟨_, by omega, rfl, hlt7, S10, as10, C8, acc7, ts7, b8, l7.trans (l8.trans l10), p7.trans p10, sim7.swap sim10 (l8.trans l10) p10 keep9, ra7.mono (l8.trans l10) p10, hrest8, hts7⟩
   ·subst heq7
    refine .inl ⟨wa7.stops, ?_⟩
    rw [List.drop_length] at hr7
    obtain ⟨rfl, rfl⟩ := jBr hr7
    refine ⟨_, by omega, rfl, hlt, S7, as7, _, acc7, ts7, b, l2.trans (l3.trans (l5.trans (l6.trans l7))), p2.trans (p5.trans (p6.trans p7)), ?_, ra7, hrest, by rw [← hts7]; simp⟩
    have s1 := sim5.swap sim7 (l6.trans l7) (p6.trans p7) noT.wipe
    exact sim2.swap s1 (l3.trans (l5.trans (l6.trans l7))) (p5.trans (p6.trans p7)) keep
  ·rw [if_neg (by simp)]
   exact ⟨_, by omega, rfl, hlt, S5, as5, C4, acc, ts, b, l2.trans (l3.trans l5), p2.trans p5, sim2.swap sim5 (l3.trans l5) p5 keep, ra.mono (l3.trans l5) p5, hrest, hts⟩
 ·subst heq
  refine .inl ⟨wa.stops, ?_⟩
  rw [List.drop_length] at hr
  obtain ⟨rfl, rfl⟩ := jBr hr
  rw [waL] at hts
  subst hts
  have hD2 := sim2.frm D _ (by rw [way]; rfl)
  have sim3 : Sim X.K F S2 as2 σ H2 E _ := (sim1.swap (sim2.unguard nF) l2 p2 noWs.wipe)
  exact out2 (.ref D) S2 as2 H2 l2 p2 sim3 ⟨D, _, rfl, hD2.1, hD2.2.1, hD2.2.2, nF, nO, .lst (by rw [ra.length]; exact hz) ra⟩
theorem jUn {elt tg iter tg1 iter1 : Expr} {ifs ifs1 : List Expr} {scope : Scope} {own : List (Str × Nat)} {pos : Pos} {js ws : List Nat} {tgt tgt' : Tg} {src src' : Src} {cond cond' xe : Ex} (hc : X.calm = true) (hN : X.N.Nodup) (hi : PI X tg iter (Dn X.K rx W js (evR Φ src) (rJ X.K tgt))) (ok : BlkOk X.N X.env.scope scope own)
  (hw : own.map (·.2) = ws) (hsub : ∀ j ∈ tgS tgt, j ∈ ws) (hsub' : ∀ j ∈ tgS tgt', j ∈ ws)
  (hg : ∀ (s : Shared) (H : Hp) (C : Addr) (cl : List (Str × Addr)) (fp : List Addr), PG (X.blk s H scope (compEnvC scope cl C X.env) fp) tg (gT X.K tgt)) (ht : ∀ (s : Shared) (H : Hp) (C : Addr) (cl : List (Str × Addr)) (fp : List Addr), PTs (X.blk s H scope (compEnvC scope cl C X.env) fp) ifs (DT X.K rx WF Φ cond))
  (hi1 : ∀ (s : Shared) (H : Hp) (C : Addr) (cl : List (Str × Addr)) (fp : List Addr), PI (X.blk s H scope (compEnvC scope cl C X.env) fp) tg1 iter1 (Dn X.K rx WF (escR src') (evR Φ src') (rJ X.K tgt')))
  (hg1 : ∀ (s : Shared) (H : Hp) (C : Addr) (cl : List (Str × Addr)) (fp : List Addr), PG (X.blk s H scope (compEnvC scope cl C X.env) fp) tg1 (gT X.K tgt')) (ht1 : ∀ (s : Shared) (H : Hp) (C : Addr) (cl : List (Str × Addr)) (fp : List Addr), PTs (X.blk s H scope (compEnvC scope cl C X.env) fp) ifs1 (DT X.K rx WF Φ cond'))
  (he : ∀ (s : Shared) (H : Hp) (C : Addr) (cl : List (Str × Addr)) (fp : List Addr), PE (X.blk s H scope (compEnvC scope cl C X.env) fp) elt (DE X.K rx WF Φ xe)) (hs : ∀ x, foldedSetIterable iter X.env x = pure x) (hs1 : ∀ env x, foldedSetIterable iter1 env x = pure x) :
  PE X (.ListComp elt [⟨tg, iter, ifs, 0⟩, ⟨tg1, iter1, ifs1, 0⟩] scope pos) (Dn X.K rx W (ws ++ (js ++ (trE cond ++ (escR src' ++ (trE cond' ++ escE xe))))) (ev Φ (.lc2 ws tgt src cond tgt' src' cond' xe)) (rF X.K)) := by
 refine jAq (pe_lc2 (vs1 := tgS tgt') hc hN hi ok (fun i hi => by rw [hw]; exact hsub' i hi) hg ht hi1 hg1 ht1 he hs hs1) fun σ H Q h => ?_
 rw [hw]
 exact jJe hsub hsub' h
end
section
variable (Φ : Calls) (E : Env)
theorem jY0 (a : Ex) : tst Φ (.nt a) E = M.bind (tst Φ a E) fun k => M.pure (!k) := by
 unfold tst
 rw [jQr]
 funext C
 simp only [M.bind]
 cases ev Φ a E C with
 | ok x C' =>
  simp only [truM, lift]
  cases truT x <;> rfl
 | exc => rfl
 | stuck => rfl
theorem jV2 (a b : Ex) : tst Φ (.and a b) E = M.bind (tst Φ a E) fun k => if k = true then tst Φ b E else M.pure false := by
 unfold tst
 rw [jHr]
 funext C
 simp only [M.bind]
 cases ev Φ a E C with
 | ok x C' =>
  simp only [truM]
  cases h : truT x with
  | none => rfl
  | some k =>
   cases k with
   | true => rfl
   | false =>
    show lift "truth" (truT x) C' = _
    rw [h]
    rfl
 | exc => rfl
 | stuck => rfl
theorem j0k (a b : Ex) : tst Φ (.or a b) E = M.bind (tst Φ a E) fun k => if k = true then M.pure true else tst Φ b E := by
 unfold tst
 rw [jUl]
 funext C
 simp only [M.bind]
 cases ev Φ a E C with
 | ok x C' =>
  simp only [truM]
  cases h : truT x with
  | none => rfl
  | some k =>
   cases k with
   | false => rfl
   | true =>
    show lift "truth" (truT x) C' = _
    rw [h]
    rfl
 | exc => rfl
 | stuck => rfl
theorem jWx (c a b : Ex) : tst Φ (.ite c a b) E = M.bind (tst Φ c E) fun k => if k = true then tst Φ a E else tst Φ b E := by
 unfold tst
 rw [jI3]
 funext C
 simp only [M.bind]
 cases ev Φ c E C with
 | ok x C' =>
  simp only [truM]
  cases h : truT x with
  | none => rfl
  | some k => cases k <;> rfl
 | exc => rfl
 | stuck => rfl
theorem jUe (op : CmpOp) (a b : Ex) : tst Φ (.cmp op a b) E = M.bind (ev Φ a E) fun x => M.bind (ev Φ b E) fun y => cmpM Φ op x y := by
 unfold tst
 rw [jFh]
 funext C
 simp only [M.bind]
 cases ev Φ a E C with
 | ok x C' =>
  simp only
  cases ev Φ b E C' with
  | ok y C2 =>
   simp only [cmpM]
   cases cmpT op x y <;> rfl
  | exc => rfl
  | stuck => rfl
 | exc => rfl
 | stuck => rfl
theorem jNk (op op' : CmpOp) (a b c : Ex) : tst Φ (.chain op op' a b c) E = M.bind (ev Φ a E) fun x => M.bind (ev Φ b E) fun y => M.bind (cmpM Φ op x y) fun k => if k = true then (M.bind (ev Φ c E) fun z => cmpM Φ op' y z) else M.pure false := by
 unfold tst
 rw [jJq]
 funext C
 simp only [M.bind]
 cases ev Φ a E C with
 | ok x C' =>
  simp only
  cases ev Φ b E C' with
  | ok y C2 =>
   simp only [cmpM]
   cases cmpT op x y with
   | none => rfl
   | some k =>
    cases k with
    | false => rfl
    | true =>
     simp only [lift, M.pure, if_true, M.bind]
     cases ev Φ c E C2 with
     | ok z C3 =>
      simp only
      cases cmpT op' y z <;> rfl
     | exc => rfl
     | stuck => rfl
  | exc => rfl
  | stuck => rfl
 | exc => rfl
 | stuck => rfl
end
section
variable {X : Cx} {rx : RX} {W : WX} {Φ : Calls} {a b c : Expr} {xa xb xc : Ex} {pos : Pos} {rest : List Expr}
theorem j1f (ha : PT X a (DT X.K rx W Φ xa)) : PT X (.UnaryOp .Not a pos) (DT X.K rx W Φ (.nt xa)) := by
 refine jRc (pt_not ha) fun σ H Q ⟨F, S, as, E, C, sim, no, out⟩ => ?_
 rw [jY0] at out
 refine ⟨F, S, as, E, C, sim, no, out.bind fun v t S1 as1 H1 C1 l1 p1 sim1 r1 out1 => ?_⟩
 obtain rfl : v = t := r1
 exact out1.here sim1 rfl
theorem jIe {op : CmpOp} (hu : X.A.units + 65 < cLine) (hm : behindInMarks op b = false) (ha : PE X a (DW X.K rx W Φ xa)) (hb : PE X b (DW X.K rx W Φ xb)) : PT X (.Compare a [op] [b] pos) (DT X.K rx W Φ (.cmp op xa xb)) := by
 refine jRc (pt_cmpR (jDs (rx := rx) (W := W) hu op) ha hb hm) fun σ H Q ⟨F, S, as, E, C, sim, no, out⟩ => ?_
 rw [jUe] at out
 refine ⟨F, S, as, E, C, sim, no.left, out.bind fun v t S1 as1 H1 C1 l1 p1 sim1 r1 out1 => ⟨F, S1, as1, E, C1, sim1, no.right, out1.bind fun u t2 S2 as2 H2 C2 l2 p2 sim2 r2 out2 => ?_⟩⟩
 have out2 : Out X.K rx W F σ E (lift "cmp" (cmpT op t t2) C2) (rB F σ E) S2 as2 Q := out2
 obtain ⟨k, ht, out3⟩ := out2.lift
 exact ⟨F, S2, as2, σ, E, C2, t, t2, k, sim2, (r1.mono l2 p2 (H1 := H2)).vw sim2, r2.vw sim2, ht, k, rfl, out3.here sim2 rfl⟩
theorem jGz {op op' : CmpOp} (hu : X.A.units + 65 < cLine) (hm : lastMarks [op, op'] [b, c] = false) (ha : PE X a (DW X.K rx W Φ xa)) (hb : PE X b (DW X.K rx W Φ xb)) (hc : PE X c (DW X.K rx W Φ xc)) :
  PT X (.Compare a [op, op'] [b, c] pos) (DT X.K rx W Φ (.chain op op' xa xb xc)) := by
 refine jRc (pt_chain (jDs (rx := rx) (W := W) hu op) (jDs (rx := rx) (W := W) hu op') ha hb hc hm) fun σ H Q ⟨F, S, as, E, C, sim, no, out⟩ => ?_
 rw [jNk] at out
 refine ⟨F, S, as, E, C, sim, no.left.left, out.bind fun v t S1 as1 H1 C1 l1 p1 sim1 r1 out1 => ⟨F, S1, as1, E, C1, sim1, no.left.right, out1.bind fun u t2 S2 as2 H2 C2 l2 p2 sim2 r2 out2 => ?_⟩⟩
 obtain ⟨k, ht, out3⟩ := out2.liftB
 refine ⟨F, S2, as2, σ, E, C2, t, t2, k, sim2, (r1.mono l2 p2 (H1 := H2)).vw sim2, r2.vw sim2, ht, k, rfl, ?_⟩
 rcases out3.ifB with ⟨e, out4⟩ | ⟨e, out4⟩
 ·rw [if_pos e]
  refine ⟨F, S2, as2, E, C2, sim2, no.right, out4.bind fun z t3 S3 as3 H3 C3 l3 p3 sim3 r3 out5 => ?_⟩
  have out5 : Out X.K rx W F σ E (lift "cmp" (cmpT op' t2 t3) C3) (rB F σ E) S3 as3 Q := out5
  obtain ⟨k2, ht2, out6⟩ := out5.lift
  exact ⟨F, S3, as3, σ, E, C3, t2, t3, k2, sim3, (r2.mono l3 p3 (H1 := H3)).vw sim3, r3.vw sim3, ht2, k2, rfl, out6.here sim3 rfl⟩
 ·rw [if_neg (by rw [e]; exact waa)]
  exact ⟨false, rfl, out4.here sim2 rfl⟩
theorem j1q {e : Expr} {t t' : TT} (h : PW X e t) (k : ∀ σ H Q, t' σ H Q → t σ H Q) : PW X e t' := ⟨fun wh pins s σ H Q I q => h.run wh pins s σ H Q I (k _ _ _ q)⟩
theorem jOn (ha : PT X a (DT X.K rx W Φ xa)) (hb : PW X (.BoolOp .And (b :: rest) pos) (DT X.K rx W Φ xb)) : PW X (.BoolOp .And (a :: b :: rest) pos) (DT X.K rx W Φ (.and xa xb)) := by
 refine j1q (pw_and ha hb) fun σ H Q ⟨F, S, as, E, C, sim, no, out⟩ => ?_
 rw [jV2] at out
 refine ⟨F, S, as, E, C, sim, no.left, out.bind fun v t S1 as1 H1 C1 l1 p1 sim1 r1 out1 => ?_⟩
 obtain rfl : v = t := r1
 rcases out1.ifB with ⟨e, out4⟩ | ⟨e, out4⟩
 ·rw [if_pos e]
  exact ⟨F, S1, as1, E, C1, sim1, no.right, out4⟩
 ·rw [if_neg (by rw [e]; exact waa)]
  exact out4.here sim1 rfl
theorem jSj (ha : PT X a (DT X.K rx W Φ xa)) (hb : PW X (.BoolOp .Or (b :: rest) pos) (DT X.K rx W Φ xb)) : PW X (.BoolOp .Or (a :: b :: rest) pos) (DT X.K rx W Φ (.or xa xb)) := by
 refine j1q (pw_or ha hb) fun σ H Q ⟨F, S, as, E, C, sim, no, out⟩ => ?_
 rw [j0k] at out
 refine ⟨F, S, as, E, C, sim, no.left, out.bind fun v t S1 as1 H1 C1 l1 p1 sim1 r1 out1 => ?_⟩
 obtain rfl : v = t := r1
 rcases out1.ifB with ⟨e, out4⟩ | ⟨e, out4⟩
 ·rw [if_pos e]
  exact out4.here sim1 rfl
 ·rw [if_neg (by rw [e]; exact waa)]
  exact ⟨F, S1, as1, E, C1, sim1, no.right, out4⟩
theorem jUg (hc : PT X c (DT X.K rx W Φ xc)) (ha : PT X a (DT X.K rx W Φ xa)) (hb : PT X b (DT X.K rx W Φ xb)) : PT X (.IfExp c a b pos) (DT X.K rx W Φ (.ite xc xa xb)) := by
 refine ⟨fun pins s σ H Q I ⟨F, S, as, E, C, sim, no, out⟩ => ?_⟩
 rw [jWx] at out
 refine isTrue_IfExp (thn (hc.run pins s σ H _ I ⟨F, S, as, E, C, sim, no.left.left, out.bind (Q1 := fun v H1 => (v = true → DT X.K rx W Φ xa σ H1 Q) ∧ (v = false → DT X.K rx W Φ xb σ H1 Q)) fun v t S1 as1 H1 C1 l1 p1 sim1 r1 out1 => ?_⟩) fun d s1 ⟨H1, I1, q1⟩ => ?_)
 ·obtain rfl : v = t := r1
  refine ⟨fun e => ?_, fun e => ?_⟩
  ·subst e
   exact ⟨F, S1, as1, E, C1, sim1, no.left.right, out1⟩
  ·subst e
   exact ⟨F, S1, as1, E, C1, sim1, no.right, out1⟩
 ·cases d with
  | true => exact ha.run pins s1 σ H1 Q I1 (q1.1 rfl)
  | false => exact hb.run pins s1 σ H1 Q I1 (q1.2 rfl)
theorem jH5 {e : Expr} {R : RR V T} {is : List Nat} : PE X e (Dn X.K rx W is (ev Φ .dead) R) := ⟨fun pins s σ H Q I ⟨F, S, as, E, C, sim, no, out⟩ => False.elim out⟩
theorem jVn {e : Expr} : PT X e (DT X.K rx W Φ .dead) := ⟨fun pins s σ H Q I ⟨F, S, as, E, C, sim, no, out⟩ => False.elim out⟩
end
def celK (ts : List T) : M T := if szOk ts.length = true then (fun C => .ok (.ref C.length) (C ++ [.lst ts])) else stuck "size"
section
variable (Φ : Calls) (E : Env)
theorem zB0 (es : Exs) : ev Φ (.cel es) E = M.bind (evS Φ es E) celK := rfl
theorem jMj : ev Φ (.dsp .nil) E = M.bind (need "size" (szOk 0)) fun _ => M.pure (.dic [] []) := rfl
end
end SI
set_option Elab.async false
namespace SI
open PySem PySem.Spec PyProof.Rows
structure ZLow (z TI TO i1 i2 S lo : Addr) (fp1 fp2 : List Addr) : Prop where
 zS : z ≠ S
 TIS : TI ≠ S
 TOS : TO ≠ S
 S1 : S ∉ fp1
 S2 : S ∉ fp2
 i1S : i1 ≠ S
 i2S : i2 ≠ S
 zl : z < lo
 Tl : TO < lo
 il1 : i1 < lo
 il2 : i2 < lo
 Sl : S < lo
end SI
namespace SI
open PySem PySem.Spec PyProof.Rows L2
section
variable {prog : Program} {w : World} {A : Around} {E : Value → Shared → Prop} {s : Shared} {K : PySem.W.Frag} {a C f : Addr} {ox : Obj} {od : Option Obj}
theorem jKi {name : Str} {args : List Value} {Q : Option Value → Shared → Prop} (X : K.In s.heap) (I : PySem.W.InstAt s.heap a ox C od) (hf : PySem.W.findIn K (.ref C) name = some (some (.ref f))) (ht : PySem.W.typeIn K (.ref f) = some (.type "function"))
  (hc : wpAny (model prog w) A (PySem.call (.ref f) (.ref a :: args)) (fun v s' => Q (some v) s') E s) : wpAny (model prog w) A (callSpecial? (.ref a) name args) Q E s := by
 unfold callSpecial? specialOf
 refine wao (wao (I.type.here ((wbl X hf).here ?_)))
 refine wpAny_holding ?_
 unfold bindSpecial
 refine wao (wao ((PySem.W.looks_typeIn X ht).here ?_))
 rw [if_pos (by rfl)]
 exact waH (wao (wpAny_mono hc (fun v s' h => waH h) fun _ _ z => z))
theorem bind_fn (X : K.In s.heap) {self : Value} (ht : PySem.W.typeIn K (.ref f) = some (.type "function")) {Q' : Value × List Value → Shared → Prop} {E' : Value → Shared → Prop} (h : Q' (.ref f, [self]) s) : wpAny (model prog w) A (bindSpecial (.ref f) self) Q' E' s := by
 unfold bindSpecial
 refine wao ((PySem.W.looks_typeIn X ht).here ?_)
 rw [if_pos (by rfl)]
 exact waH h
theorem jFk (X : K.In s.heap) (I : PySem.W.InstAt s.heap a ox C od) {name : Str} {g : Value} (hf : PySem.W.findIn K (.ref C) name = some (some g)) {Q' : Option Value → Shared → Prop} {E' : Value → Shared → Prop} (h : Q' (some g) s) : wpAny (model prog w) A (specialOf (.ref a) name) Q' E' s := by
 unfold specialOf
 exact wao (I.type.here ((wbl X hf).here h))
end
section
variable {X : Cx} {rx : RX} {W : WX} {Φ : Calls} {CX : CXT} {k : Nat} {fa : Addr} {ps : List Str} {dT : List T} {c : Str} {a b e : Expr} {xa xb : Ex} {pos p apos cpos npos pos' : Pos} {n i j : Nat} {x y : Str} {xe : Ex} {xs : Exs}
theorem j4i (E : Env) (m : Str) : ev Φ (.spec c m (.cons xa .nil)) E = M.bind (ev Φ xa E) fun t => jLx Φ c m [t] := by
 funext C
 show M.bind (M.bind (ev Φ xa E) fun t => M.bind (M.pure []) fun r => M.pure (t :: r)) (jLx Φ c m) C = _
 unfold M.bind M.pure
 cases ev Φ xa E C <;> rfl
theorem j2b (E : Env) (m : Str) : ev Φ (.spec c m (.cons xa (.cons xb .nil))) E = M.bind (ev Φ xa E) fun t => M.bind (ev Φ xb E) fun u => jLx Φ c m [t, u] := by
 funext C
 show M.bind (M.bind (ev Φ xa E) fun t => M.bind (M.bind (ev Φ xb E) fun t => M.bind (M.pure []) fun r => M.pure (t :: r)) fun r => M.pure (t :: r)) (jLx Φ c m) C = _
 unfold M.bind M.pure
 cases ev Φ xa E C with
 | ok t C1 => simp only; cases ev Φ xb E C1 <;> rfl
 | exc => rfl
 | stuck => rfl
theorem jGa {α β : Type} {m : M α} {f : α → M β} {C C' : jAa} {t : β} (h : M.bind m f C = .ok t C') : ∃ a C1, m C = .ok a C1 ∧ f a C1 = .ok t C' := by
 unfold M.bind at h
 cases e : m C with
 | ok a C1 => rw [e] at h; exact ⟨a, C1, rfl, h⟩
 | exc => rw [e] at h; cases h
 | stuck => rw [e] at h; cases h
end
section
variable (Φ : Calls) (n : Nat) (E : Env)
theorem zAx (x : Nat) (e : Ex) : ex Φ n (.rem x e) E = M.bind (atX E x) fun p0 => M.bind (lift "rem" (lstT p0.1)) fun _ => M.bind (ev Φ e E) fun t => M.bind (atX E x) fun p => M.bind (lift "rem" (lstT p.1)) fun xs => M.bind (lift "rem" (intT t)) fun k => M.bind (lift "rem" (mapO intT xs)) fun is => M.bind (need "rem" (is.contains k)) fun _ =>
  M.bind (p.2 (.lst ((is.erase k).map .int))) fun E' => M.pure (.nx E') := rfl
theorem zCa (i x : Nat) : ex Φ n (.pop i x) E = M.bind (atX E x) fun p => M.bind (lift "pop" (lstT p.1)) fun xs => M.bind (lift "pop" xs.getLast?) fun t => M.bind (p.2 (.lst xs.dropLast)) fun E' => M.pure (.nx (E'.set i (.sh t))) := rfl
end
section
variable {X : Cx} {rx : RX} {W : WX} {Φ : Calls} {e : Expr} {xe : Ex} {i : Nat}
theorem jKx {E : Env} {l : List Int} (h : jOa E i = some l) : E[i]? = some (.ow (.lst (l.map .int))) := by
 unfold jOa at h
 split at h
 ·rename_i xs q
  rw [q, jPz h]
 ·cases h
theorem j84 (E : Env) (i : Nat) (xe : Ex) : ev Φ (.lend i xe) E = M.bind (lift "lend" (jOa E i)) fun l => jP0 l i E (jAh (ev Φ xe (E.set i (.sh (.lst (l.map .int)))))) := rfl
theorem jQ3 (h : PE X e (DE X.K rx W Φ xe)) : PE X e (DE X.K rx W Φ (.lend i xe)) := by
 refine jAq h fun σ H Q ⟨F, S, as, E, C, sim, no, out⟩ => ?_
 have out : Out X.K rx W F σ E (M.bind (lift "lend" (jOa E i)) (fun l => jP0 l i E (jAh (ev Φ xe (E.set i (.sh (.lst (l.map .int))))))) C) (rE X.K F σ E) S as Q := out
 obtain ⟨l, hl, out1⟩ := out.liftB
 have e0 := jKx hl
 obtain ⟨a, u, h1, h2, h3, h4, h5, h6⟩ := sim.ow i _ e0
 have hu : u = .lst (l.map V.int) := by
  cases h6 with
  | lst z r => rw [jEj r (by rw [show mapO intT (l.map T.int) = some l from by
    clear out1 hl e0 r out
    induction l with
    | nil => rfl
    | cons x l ih => simp only [war, mapO, intT, ih]; rfl])]
 subst hu
 have s1 := sim.unown i
 have s2 := s1.settle h2 h3 h4 h5 (fun j t' e' q => by
  by_cases hj : i = j
  ·subst hj
   rw [wan (waf.mp e0).1] at e'
   cases e'
  ·rw [wai hj] at e'
   exact hj (sim.owd i j _ _ a e0 e' h1 q)) jCe
 have s3 : Sim X.K F (upd S a (.lst (l.map V.int))) as σ H (E.set i (.sh (.lst (l.map .int)))) C := by
  have hl := Le.upd (u := .lst (l.map V.int)) h3
  have s3 := s2.mark h1 ((h6.mono hl (was _)).rep way)
  rw [List.set_set] at s3
  exact s3
 refine ⟨F, _, as, _, C, s3, ?_, ?_⟩
 ·intro j hj t e'
  by_cases q : i = j
  ·subst q
   rw [wan (waf.mp e0).1] at e'
   cases e'
  ·rw [wai q] at e'
   exact no j (List.mem_filter.mpr ⟨hj, by rw [wac]; exact fun z => q z.symm⟩) t e'
 ·unfold jP0 M.bind jAh at out1
  cases q : ev Φ xe (E.set i (.sh (.lst (l.map .int)))) C with
  | ok t C2 =>
   rw [q] at out1
   simp only at out1
   intro v S2 as2 H2 l2 p2 sim2 r2
   split at out1
   ·rename_i hc
    rw [wab, wab] at hc
    obtain ⟨⟨c1, c2⟩, c3⟩ := hc
    obtain ⟨g1, g2, g3⟩ := sim.take e0 h1 h3 h5 h6 l2 p2 sim2 c2 c3
    exact out1 v _ as2 H2 g2 p2 g3 (Rep.strip g1 r2 c1)
   ·exact False.elim out1
  | exc x3 C3 => rw [q] at out1; exact False.elim out1
  | stuck w => rw [q] at out1; exact False.elim out1
end
section
variable (Φ : Calls) (E : Env)
theorem jMd (a b : Ex) : ev Φ (.dsp (.star a (.star b .nil))) E = M.bind (ev Φ a E) fun x => M.bind (lift "dict" (dicT x)) fun p => M.bind (need "size" (szOk (0 + p.1.length))) fun _ => M.bind (ev Φ b E) fun y => M.bind (lift "dict" (dicT y)) fun q =>
  M.bind (need "size" (szOk ((jAi p.1 p.2 ([], [])).1.length + q.1.length))) fun _ => M.bind (need "size" (szOk (jAi q.1 q.2 (jAi p.1 p.2 ([], []))).1.length)) fun _ => M.pure (.dic (jAi q.1 q.2 (jAi p.1 p.2 ([], []))).1 (jAi q.1 q.2 (jAi p.1 p.2 ([], []))).2) := rfl
theorem j8c (a k b : Ex) : ev Φ (.dsp (.star a (.kv k b .nil))) E = M.bind (ev Φ a E) fun x => M.bind (lift "dict" (dicT x)) fun p => M.bind (need "size" (szOk (0 + p.1.length))) fun _ => M.bind (ev Φ k E) fun y => M.bind (ev Φ b E) fun z => M.bind (lift "key" (keyT y)) fun q =>
  M.bind (need "size" (szOk ((jAi p.1 p.2 ([], [])).1.length + 1))) fun _ => M.bind (need "size" (szOk (putK q z (jAi p.1 p.2 ([], [])).1 (jAi p.1 p.2 ([], [])).2).1.length)) fun _ => M.pure (.dic (putK q z (jAi p.1 p.2 ([], [])).1 (jAi p.1 p.2 ([], [])).2).1 (putK q z (jAi p.1 p.2 ([], [])).1 (jAi p.1 p.2 ([], [])).2).2) := rfl
end
def jZy : T → M (List T)
 | .dic ks vs => M.pure ((ks.zip vs).map fun p => .tup [keyU p.1, p.2])
 | _ => stuck "items"
theorem j5z (Φ : Calls) (E : Env) (e : Ex) : evR Φ (.itm e) E = M.bind (ev Φ e E) jZy := by
 show M.bind (ev Φ e E) _ = _
 congr 1
theorem zAn (Φ : Calls) (E : Env) (a b : Ex) : evR Φ (.zip a b) E = M.bind (ev Φ a E) fun x => M.bind (ev Φ b E) fun y => jM5 x y := rfl
structure ZSt (z TI TO i1 i2 l1 l2 d : Addr) (xs ys : Array Value) (i : Nat) (h : Heap) : Prop where
 p : IsPair h TI (.ref i1) (.ref i2)
 a1 : h.IsTupleIter i1 l1 i
 a2 : h.IsTupleIter i2 l2 i
 b1 : h.IsTuple l1 xs
 b2 : h.IsTuple l2 ys
 out : (IsZip h z TI TO .none ∧ ∃ a b, IsPair h TO a b) ∨ ∃ T f oT, IsZipHeld h z TI TO T f ∧ h.get? T = some oT ∧ T ≠ z ∧ T ≠ i1 ∧ T ≠ i2 ∧ T ≠ d
theorem jEx {x : T} : ∀ {ys : List T} {i j : Nat}, jGx x ys i = some j → ∃ n, j = i + n ∧ ∃ y, ys[n]? = some y ∧ PyData.eqv (toD y) (toD x) = true ∧ ∀ m, m < n → ∀ z, ys[m]? = some z → PyData.eqv (toD z) (toD x) = false
 | [], i, j, h => by cases h
 | y :: ys, i, j, h => by
  unfold jGx at h
  split at h
  ·rename_i e
   cases h
   exact ⟨0, rfl, y, rfl, e, fun m hm => absurd hm (Nat.not_lt_zero m)⟩
  ·rename_i e
   obtain ⟨n, rfl, z, h1, h2, h3⟩ := jEx h
   refine ⟨n + 1, by omega, z, by simpa using h1, h2, fun m hm u hu => ?_⟩
   cases m with
   | zero =>
    simp at hu
    subst hu
    simpa using e
   | succ m => exact h3 m (by omega) u (by simpa using hu)
section
variable {K : PySem.W.Frag} {F S : Hp} {as : List Addr} {σ : L2.St} {H : Hp} {E : Env} {C : jAa}
theorem jY9 {a : Addr} {vs : List V} {xs : List T} {x : V} {t : T} (sim : Sim K F S as σ H E C) (q : Rd H a (.lst vs)) (rs : Reps K S as vs xs) (r : Vw K S as H x t) (h1 : dat 60 t = true) (h2 : xs.all (dat 59) = true) :
  Dp K H x (toD t) ∧ Dp K H (.ref a) (.list (toDs xs)) ∧ SeqAt.shaped (toD t) = true ∧ SeqAt.shaped (.list (toDs xs)) = true := by
 have u := r.dp sim h1
 obtain ⟨z1, z2, z3⟩ := dps (fun v t r h => Rep.dp sim 59 v t r h) vs xs rs h2
 refine ⟨u.dp, .lst (.inl q) z1, u.shaped (by decide), wbj.mpr ⟨by simp only [PyData.canLay0]; exact jAm xs z2, waU ?_⟩⟩
 have := jAn xs z3
 simp only [PyData.depth]
 omega
theorem j92 {a : Addr} {vs : List V} {xs : List T} {x : V} {t : T} (sim : Sim K F S as σ H E C) (q : SqN K S a vs) (rs : Reps K S as vs xs) (r : Vw K S as H x t) (h1 : dat 60 t = true) (h2 : xs.all (dat 59) = true) :
  Dp K H x (toD t) ∧ Dp K H (.ref a) (.tuple (toDs xs)) ∧ SeqAt.shaped (toD t) = true ∧ SeqAt.shaped (.tuple (toDs xs)) = true := by
 have u := r.dp sim h1
 obtain ⟨z1, z2, z3⟩ := dps (fun v t r h => Rep.dp sim 59 v t r h) vs xs rs h2
 refine ⟨u.dp, .tup (sim.sqT q) z1, u.shaped (by decide), wbj.mpr ⟨by simp only [PyData.canLay0]; exact jAm xs z2, waU ?_⟩⟩
 have := jAn xs z3
 simp only [PyData.depth]
 omega
end
section
variable {X : Cx} {rx : RX} {W : WX} {Φ : Calls} {o e : Expr} {xo xe : Ex} {apos cpos : Pos}
theorem jU2 (Φ : Calls) (E : Env) (b : Bm) (o : Ex) (es : Exs) : ev Φ (.bm b o es) E = M.bind (ev Φ o E) fun x => M.bind (need "bm" (bmK b x)) fun _ => M.bind (evS Φ es E) fun ts => lift "bm" (bmT b x ts) := rfl
theorem jFo (Φ : Calls) (E : Env) (b : Bm) (o x : Ex) : ev Φ (.bm b o (.cons x .nil)) E = M.bind (ev Φ o E) fun t => M.bind (need "bm" (bmK b t)) fun _ => M.bind (ev Φ x E) fun u => lift "bm" (bmT b t [u]) := by
 rw [jU2]
 congr 1
 funext t
 congr 1
 funext _
 rw [jA5, jAg]
 congr 1
theorem jZl (Φ : Calls) (E : Env) (b : Bm) (o : Ex) : ev Φ (.bm b o .nil) E = M.bind (ev Φ o E) fun t => M.bind (need "bm" (bmK b t)) fun _ => lift "bm" (bmT b t []) := by
 rw [jU2]
 congr 1
theorem jLo {e : Expr} {env : PySem.Env} {cpos : Pos} (hs : starEach [e] env = (false, eval e env) :: starEach [] env) : ((backTo cpos (starEach [e] env)).all (fun x => !x.1) && (backToKw cpos (keywordEach [] env)).all (fun x => x.1.isSome) && decide (([e] : List Expr).length + ([] : List Keyword).length + (if ([] : List Keyword).isEmpty then 0 else 1) < 30)) = true := by
 rw [hs]
 rfl
theorem jJx {xs : List T} {n : Nat} {y : T} (h : xs[n]? = some y) : (toDs xs)[n]? = some (toD y) := by
 rw [jCt, wba, h]
 rfl
def rIxT (K : PySem.W.Frag) : V → List V → Hp → VK → Prop := fun x xs H Q => ∃ p, ∃ ys : List Str, ∃ z j, x = .ref p ∧ xs = [.str z] ∧ SqT K H p (ys.map V.str) ∧ ys[j]? = some z ∧ (∀ m, m < j → ys[m]? ≠ some z) ∧ Q (.int (j : Nat)) H
def jVv (K : PySem.W.Frag) : V → List V → Hp → VK → Prop := fun x xs H Q => ∃ (a : Addr) (y : V) (d : PyData) (ds : List PyData) (j : Nat) (z : PyData), x = V.ref a ∧ xs = [y] ∧ Dp K H (V.ref a) (.tuple ds) ∧ Dp K H y d ∧
 SeqAt.shaped (.tuple ds) = true ∧ SeqAt.shaped d = true ∧ ds[j]? = some z ∧ PyData.eqv z d = true ∧ (∀ (m : Nat) (z' : PyData), m < j → ds[m]? = some z' → PyData.eqv z' d = false) ∧ Q (.int (j : Nat)) H
theorem jV4 (hu : X.A.units + 65 < cLine) : MtR X "tuple.index" (jVv X.K) := by
 rintro pins s σ H x xs v us Q I rx rxs ⟨a, y, d, ds, j, z, rfl, rfl, hl, hy, sl, sd, hz, hzj, hno, q⟩
 cases rx
 cases rxs with
 | cons ry rt =>
  rename_i uy ut
  cases rt
  obtain ⟨bs, r1⟩ := Dp.reads I d y uy hy ry
  have lay : PyData.canLayAll0 ds = true := waO sl
  have room : X.A.units + 1 + min (PyData.depthAll ds) d.depth < cLine := room_in_shaped sd hu
  cases hl with
  | tup hs ha =>
   obtain ⟨its, rv, ⟨⟨cls, dd, data, sls⟩, ho, hc, n, hdt⟩, hlen⟩ := I.tuple hs
   simp only at hc hdt
   subst hc hdt
   obtain ⟨as, h4⟩ := Dp.readsAll I ds _ its ha rv
   have hn : its.length = ds.length := SeqAt.ReadsAll.length ds its as h4
   have hmap : its.map (SeqAt.readOf s.heap) = ds := SeqAt.readsAll_map ds its as lay h4
   obtain ⟨hjd, _⟩ := waf.mp hz
   have hj : j < its.toArray.size := by rw [waI]; omega
   have look : ∀ (m : Nat) (hm : m < its.toArray.size) (w : PyData), ds[m]? = some w → SeqAt.readOf s.heap its.toArray[m] = w := fun m hm w hw => by
    have hml : m < its.length := by rw [waI] at hm; exact hm
    rw [← hmap, wba, wad hml] at hw
    simpa using hw
   refine wbd PySem.F.slot_tuple_index ⟨_, ho, rfl⟩ PySem.F.entry_tuple_index (PySem.F.args_tuple_index_2 _ _)
    (TI.tuple_indexAt a its.toArray n dd sls uy (fun u => PyData.eqv (SeqAt.readOf s.heap u) d) j hj ?_ ?_)
    ⟨ho, SeqAt.items_eqAt (vs := its.toArray) (show ReadsAll s.heap its.toArray.toList ds as from h4) r1 lay (waO sd) room, ⟨.int (j : Nat), H, I.tok _, ⟨_, rfl⟩, q⟩⟩
   ·show PyData.eqv (SeqAt.readOf s.heap its.toArray[j]) d = true
    rw [look j hj z hz]
    exact hzj
   ·intro m hm hmj
    have hmd : m < ds.length := by omega
    show PyData.eqv (SeqAt.readOf s.heap its.toArray[m]) d = false
    rw [look m hm _ (wad hmd)]
    exact hno m _ hmj (wad hmd)
def tIx (K : PySem.W.Frag) (to : TE) (t : TA) : TE := fun σ H Q => to σ H fun x H1 => (L2.tyV K "list" x H1 ∧ t σ H1 fun xs H2 => rIndexD K x xs H2 Q) ∨ ((∃ a ys, x = .ref a ∧ SqN K H1 a ys) ∧ t σ H1 fun xs H2 => rIxT K x xs H2 Q ∨ jVv K x xs H2 Q)
theorem jTa {pins : List (Addr × Obj)} {σ : L2.St} {H : Hp} {s : Shared} {a : Addr} {ys : List V} (I : Inv X pins σ H s) (q : SqN X.K H a ys) : s.TypeIs (.ref a) "tuple" ∧ ∀ b, Value.ref a = .ref b → ∃ ob, s.heap.get? b = some ob ∧ ob.dict = none := by
 obtain ⟨its, _, ⟨o, ho, hc, _⟩, _⟩ := I.tuple q.sq
 refine ⟨⟨o, ho, hc⟩, fun b e => ?_⟩
 cases e
 rcases q with ⟨o', e, d⟩ | ⟨_, o', e, d⟩
 ·exact ⟨o', (I.hok a _ e).1, d⟩
 ·exact ⟨o', I.kIn _ _ e, d⟩
theorem j0f {t : TA} {to : TE} (hu : X.A.units + 65 < cLine) (ho : PE X o to) (ha : PA X [e] t) (hbase : attributeBase o "index" X.env (eval o X.env) = eval o X.env) (hline : (apos.endLine == cpos.line) = true) (hs : starEach [e] X.env = (false, eval e X.env) :: starEach [] X.env) :
  PE X (.Call (.Attribute o "index" apos) [e] [] cpos) (tIx X.K to t) := by
 refine ⟨fun pins s σ H Q I h => wpAny_Call_method_late hbase (jLo hs) hline rfl (thn (ho.run pins s σ H _ I h) fun v s1 ⟨x, H1, I1, r1, q1⟩ => ?_)⟩
 have go : ∀ {id : String} {r : V → List V → Hp → VK → Prop}, MtR X id r → (t σ H1 fun xs H2 => r x xs H2 Q) → wpAny (model X.prog X.w) X.A (callWith cpos (.builtin id) [v] (backTo cpos (starEach [e] X.env)) []) (EP X pins σ Q) X.xe s1 := fun {id r} hm q => by
  have hA := ha.run cpos pins s1 σ H1 _ I1 q
  rw [hs] at hA ⊢
  exact Calls.callWith_builtin rfl (Calls.evalArgs_plain (thn hA fun us s2 ⟨vs, H2, I2, r2, q2⟩ => hm pins s2 σ H2 x vs v us Q I2 r1 r2 q2))
 rcases q1 with ⟨ty, q⟩ | ⟨⟨a, ys, rfl, hn⟩, q⟩
 ·obtain ⟨h1, h2⟩ := tyV_is I1 r1 ty
  exact ⟨"list", "list.index", PySem.F.plainAttrs_list, PySem.F.slot_list_index, PySem.F.type_list_index, h1, h2, go (mt_indexD hu) q⟩
 ·obtain rfl : v = .ref a := r1
  obtain ⟨h1, h2⟩ := jTa I1 hn
  exact ⟨"tuple", "tuple.index", PySem.F.plainAttrs_tuple, PySem.F.slot_tuple_index, PySem.F.type_tuple_index, h1, h2, go (r := fun x xs H Q => rIxT X.K x xs H Q ∨ jVv X.K x xs H Q) (fun pins s σ H x xs v us Q I r rs h => h.elim (mt_tup_index pins s σ H x xs v us Q I r rs) (jV4 hu pins s σ H x xs v us Q I r rs)) q⟩
theorem jDl {K : PySem.W.Frag} {S : Hp} {as : List Addr} : ∀ {vs : List V} {ts : List T} {ys : List Str}, Reps K S as vs ts → mapO strT ts = some ys → vs = ys.map V.str
 | _, _, ys, .nil, h => by cases h; rfl
 | _, _, ys, .cons r rs, h => by
  rename_i v t vs ts
  simp only [mapO] at h
  obtain ⟨y, h1, h⟩ := wal.mp h
  obtain ⟨zs, h2, e⟩ := wae.mp h
  subst e
  cases r <;> simp only [strT] at h1 <;> cases h1
  rw [jDl rs h2]
  rfl
theorem jG6 (hu : X.A.units + 65 < cLine) (ho : PE X o (DW X.K rx W Φ xo)) (he : PE X e (DW X.K rx W Φ xe)) (hbase : attributeBase o "index" X.env (eval o X.env) = eval o X.env) (hline : (apos.endLine == cpos.line) = true) (hs : starEach [e] X.env = (false, eval e X.env) :: starEach [] X.env) :
  PE X (.Call (.Attribute o "index" apos) [e] [] cpos) (DE X.K rx W Φ (.bm .index xo (.cons xe .nil))) := by
 refine jAq (j0f hu ho (pa_cons he pa_nil hs) hbase hline hs) fun σ H Q ⟨F, S, as, E, C, sim, no, out⟩ => ?_
 rw [jFo] at out
 refine ⟨F, S, as, E, C, sim, no.left, out.bind fun v t S1 as1 H1 C1 l1 p1 sim1 r1 out1 => ?_⟩
 obtain ⟨hk, out2⟩ := out1.needB
 have rv := r1.vw sim1
 cases rv with
 | @lst p vs ts q z rs =>
  refine .inl ⟨.inl ⟨rfl, vs, .inl q⟩, F, S1, as1, E, C1, sim1, no.right.left, out2.bind fun w u S2 as2 H2 C2 l2 p2 sim2 r2 out3 => ?_⟩
  obtain ⟨t3, ht, out4⟩ := out3.lift
  have rv2 := (r1.mono l2 p2 (H1 := H2)).vw sim2
  cases rv2 with
  | @lst p vs2 ts q2 z2 rs2 =>
   simp only [bmT] at ht
   split at ht
   ·rename_i hd
    rw [wab] at hd
    obtain ⟨i, hi, e⟩ := wae.mp ht
    subst e
    obtain ⟨n, rfl, y, h1, h2, h3⟩ := jEx hi
    obtain ⟨g1, g2, g3, g4⟩ := jY9 sim2 q2 rs2 (r2.vw sim2) hd.1 hd.2
    refine ⟨p, w, toD u, toDs ts, 0 + n, toD y, rfl, rfl, g2, g1, g4, g3, by rw [Nat.zero_add]; exact jJx h1, h2, fun m z hm hz => ?_, out4.here sim2 (.int _)⟩
    rw [Nat.zero_add] at hm
    rw [jCt, wba] at hz
    obtain ⟨z', hz', e⟩ := wae.mp hz
    subst e
    exact h3 m hm z' hz'
   ·cases ht
 | @tup p vs ts q z rs =>
  refine .inr ⟨⟨p, vs, rfl, sim1.sqN q⟩, F, S1, as1, E, C1, sim1, no.right.left, out2.bind fun w u S2 as2 H2 C2 l2 p2 sim2 r2 out3 => ?_⟩
  obtain ⟨t3, ht, out4⟩ := out3.lift
  have r2 := r2.vw sim2
  have r2' := r2
  cases r2 with
  | str g =>
   rename_i x
   simp only [bmT] at ht
   obtain ⟨ys, hy, ht⟩ := wal.mp ht
   split at ht
   ·rename_i hc
    cases ht
    have hm : x ∈ ys := waT.mp hc
    have hl := List.idxOf_lt_length_of_mem hm
    have hv := jDl rs hy
    subst hv
    refine .inl ⟨p, ys, x, ys.idxOf x, rfl, rfl, sim2.sqT (jMk l2 q), by rw [wad hl, List.getElem_idxOf hl], fun m hm2 e => ?_, out4.here sim2 (.int _)⟩
    have h2 := List.not_of_lt_findIdx (p := (· == x)) (xs := ys) (show m < ys.findIdx (· == x) from hm2)
    obtain ⟨_, e⟩ := waf.mp e
    rw [e, wa6 x] at h2
    cases h2
   ·cases ht
  | @tup b ws us q2 z2 rs2 =>
   simp only [bmT] at ht
   split at ht
   ·rename_i hd
    rw [wab] at hd
    obtain ⟨i, hi, e⟩ := wae.mp ht
    subst e
    obtain ⟨n, rfl, y, h1, h2, h3⟩ := jEx hi
    obtain ⟨g1, g2, g3, g4⟩ := j92 sim2 (jMk l2 q) (rs.mono l2 p2) r2' hd.1 hd.2
    refine .inr ⟨p, .ref b, _, toDs ts, 0 + n, toD y, rfl, rfl, g2, g1, g4, g3, by rw [Nat.zero_add]; exact jJx h1, h2, fun m z hm hz => ?_, out4.here sim2 (.int _)⟩
    rw [Nat.zero_add] at hm
    rw [jCt, wba] at hz
    obtain ⟨z', hz', e⟩ := wae.mp hz
    subst e
    exact h3 m hm z' hz'
   ·cases ht
  | _ => cases ht
 | _ => cases hk
def jXq (K : PySem.W.Frag) : V → List V → Hp → VK → Prop := fun x xs H Q => ∃ (a : Addr) (y : V) (d : PyData) (ds : List PyData), x = V.ref a ∧ xs = [y] ∧ Dp K H (V.ref a) (.list ds) ∧ Dp K H y d ∧
 SeqAt.shaped (.list ds) = true ∧ SeqAt.shaped d = true ∧ Q (.int (ds.countP fun z => PyData.eqv z d : Nat)) H
theorem jKf (hu : X.A.units + 65 < cLine) : MtR X "list.count" (jXq X.K) := by
 rintro pins s σ H x xs v us Q I rx rxs ⟨a, y, d, ds, rfl, rfl, hl, hy, sl, sd, q⟩
 cases rx
 cases rxs with
 | cons ry rt =>
  rename_i uy ut
  cases rt
  obtain ⟨bs, r1⟩ := Dp.reads I d y uy hy ry
  have lay : PyData.canLayAll0 ds = true := waO sl
  have room : X.A.units + 1 + min (PyData.depthAll ds) d.depth < cLine := room_in_shaped sd hu
  cases hl with
  | lst hs ha =>
   obtain ⟨its, rv, hlist, hlen⟩ := I.list hs
   obtain ⟨⟨cls, dd, data, sls⟩, n, ho, hc, hdd, hdt⟩ := id hlist
   simp only at hc hdd hdt
   subst hc hdd hdt
   obtain ⟨as, h4⟩ := Dp.readsAll I ds _ its ha rv
   have hmap : its.map (SeqAt.readOf s.heap) = ds := SeqAt.readsAll_map ds its as lay h4
   have hcnt : its.toArray.toList.countP (fun u => PyData.eqv (SeqAt.readOf s.heap u) d) = ds.countP fun z => PyData.eqv z d := by
    rw [← hmap, List.countP_map]
    rfl
   refine wbd PySem.F.slot_list_count ⟨_, ho, rfl⟩ PySem.F.entry_list_count (PySem.F.args_list_count_2 _ _)
    (SeqAt.list_countAt a its.toArray n none sls uy (fun u => PyData.eqv (SeqAt.readOf s.heap u) d))
    ⟨ho, SeqAt.items_eqAt (vs := its.toArray) (show ReadsAll s.heap its.toArray.toList ds as from h4) r1 lay (waO sd) room, ?_⟩
   rw [hcnt]
   exact ⟨.int _, H, I.tok _, ⟨_, rfl⟩, q⟩
theorem jEy (d : PyData) : ∀ xs : List T, (toDs xs).countP (fun z => PyData.eqv z d) = xs.countP fun y => PyData.eqv (toD y) d
 | [] => rfl
 | x :: xs => by rw [toDs, List.countP_cons, List.countP_cons, jEy d xs]
theorem jHe (hu : X.A.units + 65 < cLine) (ho : PE X o (DW X.K rx W Φ xo)) (he : PE X e (DW X.K rx W Φ xe)) (hbase : attributeBase o "count" X.env (eval o X.env) = eval o X.env) (hline : (apos.endLine == cpos.line) = true) (hs : starEach [e] X.env = (false, eval e X.env) :: starEach [] X.env) :
  PE X (.Call (.Attribute o "count" apos) [e] [] cpos) (DE X.K rx W Φ (.bm .count xo (.cons xe .nil))) := by
 have both : MtR X "list.count" (fun x xs H Q => rCntI X.K x xs H Q ∨ jXq X.K x xs H Q) := fun pins s σ H x xs v us Q I r rs h => h.elim (mt_lcount pins s σ H x xs v us Q I r rs) (jKf hu pins s σ H x xs v us Q I r rs)
 refine jAq (pe_bm PySem.F.plainAttrs_list PySem.F.slot_list_count PySem.F.type_list_count both ho (pa_cons he pa_nil hs) hbase (jLo hs) hline hs (by rfl)) fun σ H Q ⟨F, S, as, E, C, sim, no, out⟩ => ?_
 rw [jFo] at out
 refine ⟨F, S, as, E, C, sim, no.left, out.bind fun v t S1 as1 H1 C1 l1 p1 sim1 r1 out1 => ?_⟩
 obtain ⟨hk, out2⟩ := out1.needB
 have rv := r1.vw sim1
 cases rv with
 | @lst p vs ts q z rs =>
  refine ⟨.inl ⟨rfl, vs, .inl q⟩, F, S1, as1, E, C1, sim1, no.right.left, out2.bind fun w u S2 as2 H2 C2 l2 p2 sim2 r2 out3 => ?_⟩
  obtain ⟨t3, ht, out4⟩ := out3.lift
  have rv2 := (r1.mono l2 p2 (H1 := H2)).vw sim2
  cases rv2 with
  | @lst p vs2 ts q2 z2 rs2 =>
   have ht : cntT ts u = some t3 := ht
   unfold cntT at ht
   split at ht
   ·rename_i ns k hn hk2
    cases ht
    have rw_ := r2.vw sim2
    cases rw_ <;> simp only [intT] at hk2 <;> first | (cases hk2; done) | skip
    cases hk2
    exact .inl ⟨p, ns, k, rfl, rfl, .inl (by rw [← jEj rs2 hn]; exact q2), out4.here sim2 (.int _)⟩
   ·split at ht
    ·rename_i hd
     cases ht
     rw [wab] at hd
     obtain ⟨d1, d2, d3, d4⟩ := jY9 sim2 q2 rs2 (r2.vw sim2) hd.1 hd.2
     exact .inr ⟨p, w, _, _, rfl, rfl, d2, d1, d4, d3, by rw [jEy]; exact out4.here sim2 (.int _)⟩
    ·cases ht
 | _ => cases hk
end
section
variable (Φ : Calls) (n : Nat) (E : Env)
theorem jZ4 (x y : Nat) (e : Ex) : ex Φ n (.appPop x y e) E = M.bind (need "appPop" (decide (x ≠ y))) fun _ => M.bind (lift "appPop" (ownL E x)) fun xs => M.bind (lift "appPop" (ownL E y)) fun ys => M.bind (ev Φ e E) fun k => M.bind (lift "appPop" (intT k)) fun i =>
  M.bind (lift "appPop" (L2.ixN ys.length i)) fun m => M.bind (lift "appPop" ys[m]?) fun t => M.bind (need "size" (szOk (xs.length + 1))) fun _ => M.pure (.nx ((E.set y (.ow (.lst (ys.eraseIdx m)))).set x (.ow (.lst (xs ++ [t]))))) := rfl
end
def dcF (Φ : Calls) (ws : List Nat) (tg : Tg) (cond k v : Ex) (E : Env) (x : T) : M (List T) :=
 M.bind (lift "bind" (jAz tg x (jAr ws E))) fun E' => M.bind (ev Φ cond E') fun c => M.bind (truM Φ c) fun b => if b = true then M.bind (ev Φ k E') fun a => M.bind (ev Φ v E') fun t => M.pure [.tup [a, t]] else M.pure []
def dcE (ps : List T) : M T := M.bind (need "size" (szOk ps.length)) fun _ => lift "dc" ((jB4 ps).map fun p => let d := jAi p.1 p.2 ([], []); .dic d.1 d.2)
theorem j6p (Φ : Calls) (E : Env) (ws : List Nat) (tg : Tg) (src : Src) (cond k v : Ex) : ev Φ (.dc ws tg src cond k v) E = M.bind (evR Φ src E) fun xs => M.bind (jAh (jA1 (dcF Φ ws tg cond k v E) xs)) dcE := rfl
theorem jZ0 {Φ : Calls} {ws : List Nat} {tg : Tg} {cond k v : Ex} {E : Env} {x : T} {C C' : jAa} {r : List T} (h : dcF Φ ws tg cond k v E x C = .ok r C') :
  ∃ E' b C1, jAz tg x (jAr ws E) = some E' ∧ tst Φ cond E' C = .ok b C1 ∧ ((b = true ∧ ∃ a t C2, ev Φ k E' C1 = .ok a C2 ∧ ev Φ v E' C2 = .ok t C' ∧ r = [.tup [a, t]]) ∨ (b = false ∧ r = [] ∧ C' = C1)) := by
 obtain ⟨E', C1, h1, h2⟩ := jA3 h
 obtain ⟨e1, rfl⟩ := jH6 h1
 obtain ⟨c, C2, h3, h4⟩ := jA3 h2
 obtain ⟨b, C3, h5, h6⟩ := jA3 h4
 refine ⟨E', b, C3, e1, ?_, ?_⟩
 ·show M.bind (ev Φ cond E') (truM Φ) _ = _
  unfold M.bind
  rw [h3]
  exact h5
 ·rcases jTg h6 with ⟨e, h7⟩ | ⟨e, h7⟩
  ·obtain ⟨a, C4, h8, h9⟩ := jA3 h7
   obtain ⟨t, C5, h10, h11⟩ := jA3 h9
   obtain ⟨rfl, rfl⟩ := jBr h11
   exact .inl ⟨e, a, t, C4, h8, h10, rfl⟩
  ·obtain ⟨rfl, rfl⟩ := jBr h7
   exact .inr ⟨e, rfl, rfl⟩
theorem jEi {kvs : List (Key × V)} : Mut (.dK kvs) := ⟨fun _ _ e => (nomatch e), fun _ e => (nomatch e), fun _ e => (nomatch e)⟩
theorem j0q {K : PySem.W.Frag} {rx : RX} {W : WX} {F S : Hp} {as : List Addr} {σ : L2.St} {E : Env} {C : jAa} {Q : VK} {R : Hp → List Addr → Hp → V → T → Prop} {m : M (List T)} (out : Out K rx W F σ E (M.bind (jAh m) dcE C) R S as Q) :
  ∃ r C' p, m C = .ok r C' ∧ r.length ≤ sizeLine ∧ jB4 r = some p ∧ Out K rx W F σ E (.ok (.dic (jAi p.1 p.2 ([], [])).1 (jAi p.1 p.2 ([], [])).2) C') R S as Q := by
 unfold M.bind jAh at out
 cases e : m C with
 | ok r C' =>
  rw [e] at out
  have out : Out K rx W F σ E (M.bind (need "size" (szOk r.length)) (fun _ => lift "dc" ((jB4 r).map fun p => let d := jAi p.1 p.2 ([], []); T.dic d.1 d.2)) C') R S as Q := out
  obtain ⟨h, out2⟩ := out.needB
  obtain ⟨t, ht, out3⟩ := out2.lift
  obtain ⟨p, hp, e2⟩ := wae.mp ht
  subst e2
  exact ⟨r, C', p, rfl, jAp h, hp, out3⟩
 | exc => rw [e] at out; exact False.elim out
 | stuck => rw [e] at out; exact False.elim out
section
variable {X : Cx} {rx : RX} {W : WX} {Φ : Calls}
theorem jIf {a t : T} {r : List T} {p : List Key × List T} (h : jB4 (.tup [a, t] :: r) = some p) : ∃ k q, keyT a = some k ∧ jB4 r = some q ∧ p = (k :: q.1, t :: q.2) := by
 simp only [jB4] at h
 obtain ⟨k, hk, h⟩ := wal.mp h
 obtain ⟨q, hq, e⟩ := wae.mp h
 exact ⟨k, q, hk, hq, e.symm⟩
theorem jIp {k : Key} {t : T} {ks : List Key} {vs : List T} {d : List Key × List T} : jAi (k :: ks) (t :: vs) d = jAi ks vs (putK k t d.1 d.2) := rfl
theorem jN6 {js ws : List Nat} {tgt : Tg} {src : Src} {cond xk xv : Ex} {σ : L2.St} {H : Hp} {Q : VK} (hsub : ∀ j ∈ tgS tgt, j ∈ ws) (h : (Dn X.K rx W (ws ++ (js ++ (trE cond ++ (escE xk ++ escE xv)))) (ev Φ (.dc ws tgt src cond xk xv)) (rF X.K)) σ H Q) :
  tDc (Dn X.K rx W js (evR Φ src) (rJ X.K tgt)) (gT X.K tgt) (DT X.K rx WF Φ cond) (DE X.K rx WF Φ xk) (DE X.K rx WF Φ xv) ws σ H Q := by
 obtain ⟨F, S, as, E, C, sim, no, out⟩ := h
 rw [j6p] at out
 refine ⟨F, S, as, E, C, sim, no.right.left, out.bind fun J xs S1 as1 H1 C1 l1 p1 sim1 r1 out1 => ?_⟩
 intro D hD
 obtain ⟨r, C2, pp, hwalk, hz, hpp, out2⟩ := j0q out1
 have noWs : NoOw ws E := no.left
 have noB : NoOw (trE cond ++ (escE xk ++ escE xv)) E := no.right.right
 have r1 : rJ X.K tgt F σ E S1 as1 H1 J xs := r1
 have nS := sim1.newS hD
 have nF := sim1.newF hD
 have nC := sim1.newC hD
 have nO : ∀ (j : Nat) t', E[j]? = some (.ow t') → σ[j]? ≠ some (some (.ref D)) := fun j t' e q => by
  obtain ⟨b, u, x, y, _⟩ := sim1.ow j t' e
  rw [x] at q
  cases q
  rw [hD] at y
  cases y
 have simD : Sim X.K (upd F D (.dK [])) S1 as1 (wipe σ ws) (upd H1 D (.dK [])) (jAr ws E) C1 := ((sim1.laid hD).guard way jEi nS nC nO).wipe ws
 refine ⟨fun i m H => m = xs.length - i ∧ i ≤ xs.length ∧ ∃ S' as' C' kvs ts r' q, Le S1 S' ∧ as1 <+: as' ∧ Sim X.K (upd F D (.dK kvs)) S' as' (wipe σ ws) H (jAr ws E) C' ∧ Reps X.K S' as' (kvs.map (·.2)) ts ∧ (∀ p ∈ kvs, KG p.1) ∧ kvs.length + r'.length ≤ r.length ∧ jA1 (dcF Φ ws tgt cond xk xv E) (xs.drop i) C' = .ok r' C2 ∧ jB4 r' = some q ∧ jAi q.1 q.2 (kvs.map (·.1), ts) = jAi pp.1 pp.2 ([], []),
  ⟨xs.length, by omega, wa4 _, S1, as1, C1, [], [], r, pp, Le.refl _, was _, simD, .nil, (fun p hp => nomatch hp), by simp, hwalk, hpp, rfl⟩, ?_⟩
 rintro i m H2 ⟨hm, hi', S2, as2, C3, kvs, ts, r', pq, l2, p2, sim2, ra, hkg, hlen2, hr, hpq, hmg⟩
 have wa := r1 _ S2 as2 _ H2 _ C3 l2 p2 sim2 noWs.wipe
 rcases Nat.lt_or_eq_of_le hi' with hlt | heq
 ·refine .inr ⟨wa.goes i hlt, fun H' => ∃ m', m' < m ∧ m' = xs.length - (i + 1) ∧ i + 1 ≤ xs.length ∧ ∃ S' as' C' kvs ts r' q, Le S1 S' ∧ as1 <+: as' ∧ Sim X.K (upd F D (.dK kvs)) S' as' (wipe σ ws) H' (jAr ws E) C' ∧ Reps X.K S' as' (kvs.map (·.2)) ts ∧ (∀ p ∈ kvs, KG p.1) ∧ kvs.length + r'.length ≤ r.length ∧ jA1 (dcF Φ ws tgt cond xk xv E) (xs.drop (i + 1)) C' = .ok r' C2 ∧ jB4 r' = some q ∧ jAi q.1 q.2 (kvs.map (·.1), ts) = jAi pp.1 pp.2 ([], []),
   fun H' ⟨m', h1, h2⟩ => ⟨m', h1, h2⟩, fun x H' hy => ?_⟩
  obtain ⟨S3, t, l3, sim3, hx, rt⟩ := wa.yields i x H' hlt hy
  have hxi : xs[i] = t := by rw [wad hlt] at hx; exact waA hx
  rw [waF hlt, hxi] at hr
  obtain ⟨a, b, C4, hf, hrest, rfl⟩ := jCs hr
  obtain ⟨E', k, C5, hb, hk, hcase⟩ := jZ0 hf
  refine ⟨_, S3, as2, _, C3, t, E', sim3, rt, hb, fun σ2 sim4 hout hlen => ⟨?_, ?_⟩⟩
  ·have : wipe (wipe σ ws) ws = wipe σ ws := jBm (wbt _ _) fun j hj => jA0 hj
   rw [← this]
   exact jBm hlen fun j hj => hout j fun z => hj (hsub j z)
  have own' : ∀ (i : Nat) (t : T), E'[i]? = some (.ow t) → E[i]? = some (.ow t) := fun i t e => (jAv (jDh hb i t e) fun z => nomatch z).2
  have keep : jCf (wipe σ ws) (jAr ws E) σ2 E' := fun i t e => by
   obtain ⟨h1, h2⟩ := jCq hsub hb e
   exact ⟨h1, hout i h2⟩
  refine ⟨_, S3, as2, E', C3, sim4, jCf.noOw own' noB.left, ?_⟩
  rw [hk]
  rintro k' S5 as5 H5 l5 p5 sim5 rfl
  rcases hcase with ⟨rfl, tk, tv, C6, hk2, hv2, rfl⟩ | ⟨rfl, rfl, rfl⟩
  ·rw [if_pos rfl]
   refine ⟨_, S5, as5, E', C5, sim5, jCf.noOw own' noB.right.left, ?_⟩
   rw [hk2]
   intro y S6 as6 H6 l6 p6 sim6 r6
   refine ⟨_, S6, as6, E', C6, sim6, jCf.noOw own' noB.right.right, ?_⟩
   rw [hv2]
   intro z S7 as7 H7 l7 p7 sim7 r7
   obtain ⟨key, q', hkey, hq', epq⟩ := jIf hpq
   have hD7 := (sim7.frm D _ (by rw [way]; rfl)).1
   have lall := l3.trans (l5.trans (l6.trans l7))
   have pall := p5.trans (p6.trans p7)
   have ra' := ra.mono lall pall
   obtain ⟨ey, gk⟩ := jH7 ((r6.mono l7 p7).vw sim7) hkey
   rw [wav, List.length_singleton] at hlen2
   have hpl := jPl (kvs := kvs) (k := key) (v := z)
   obtain ⟨m1, m2⟩ := jOz (k := key) ra' r7
   refine ⟨kvs, key, ey, hD7, by omega, _, by omega, rfl, hlt, S7, as7, C4, L2.putK kvs key z, _, b, q', l2.trans lall, p2.trans pall, ?_, m2, jP3 hkg gk, by omega, hrest, hq', ?_⟩
   ·exact (sim2.swap (σ := wipe σ ws) sim7 lall pall keep).setF jEi jEi
   ·rw [m1, ← hmg, epq, jIp]
  ·rw [if_neg (by simp)]
   exact ⟨_, by omega, rfl, hlt, S5, as5, C4, kvs, ts, b, pq, l2.trans (l3.trans l5), p2.trans p5, sim2.swap sim5 (l3.trans l5) p5 keep, ra.mono (l3.trans l5) p5, hkg, hlen2, hrest, hpq, hmg⟩
 ·subst heq
  refine .inl ⟨wa.stops, ?_⟩
  rw [List.drop_length] at hr
  obtain ⟨rfl, rfl⟩ := jBr hr
  obtain rfl := waA hpq
  have hmg : (kvs.map (·.1), ts) = jAi pp.1 pp.2 ([], []) := hmg
  rw [← hmg] at out2
  have hD2 := sim2.frm D _ (by rw [way]; rfl)
  have sim3 : Sim X.K F S2 as2 σ H2 E _ := (sim1.swap (sim2.unguard nF) l2 p2 noWs.wipe)
  exact out2 (.ref D) S2 as2 H2 l2 p2 sim3 ⟨D, _, rfl, hD2.1, hD2.2.1, hD2.2.2, nF, nO, .dic (by simp at hlen2; omega) hkg ra⟩
section
variable {kx vx tg iter : Expr} {ifs : List Expr} {scope : Scope} {own : List (Str × Nat)} {pos : Pos} {js ws : List Nat} {tgt : Tg} {src : Src} {cond xk xv : Ex}
theorem j1l (hc : X.calm = true) (hN : X.N.Nodup) (hi : PI X tg iter (Dn X.K rx W js (evR Φ src) (rJ X.K tgt))) (ok : BlkOk X.N X.env.scope scope own) (hw : own.map (·.2) = ws) (hsub : ∀ j ∈ tgS tgt, j ∈ ws)
  (hg : ∀ (s : Shared) (H : Hp) (C : Addr) (cl : List (Str × Addr)) (fp : List Addr), PG (X.blk s H scope (compEnvC scope cl C X.env) fp) tg (gT X.K tgt)) (ht : ∀ (s : Shared) (H : Hp) (C : Addr) (cl : List (Str × Addr)) (fp : List Addr), PTs (X.blk s H scope (compEnvC scope cl C X.env) fp) ifs (DT X.K rx WF Φ cond))
  (hk : ∀ (s : Shared) (H : Hp) (C : Addr) (cl : List (Str × Addr)) (fp : List Addr), PE (X.blk s H scope (compEnvC scope cl C X.env) fp) kx (DE X.K rx WF Φ xk)) (hv : ∀ (s : Shared) (H : Hp) (C : Addr) (cl : List (Str × Addr)) (fp : List Addr), PE (X.blk s H scope (compEnvC scope cl C X.env) fp) vx (DE X.K rx WF Φ xv))
  (hs : ∀ x, foldedSetIterable iter X.env x = pure x) : PE X (.DictComp kx vx [⟨tg, iter, ifs, 0⟩] scope pos) (Dn X.K rx W (ws ++ (js ++ (trE cond ++ (escE xk ++ escE xv)))) (ev Φ (.dc ws tgt src cond xk xv)) (rF X.K)) := by
 refine jAq (pe_dc hc hN hi ok hg ht hk hv hs) fun σ H Q h => ?_
 rw [hw]
 exact jN6 hsub h
theorem jNx {i : Nat} {y : Str} {py spos : Pos} {wi : TI} {g : TG} {tt : TT} {tk tv : TE} (hc : X.calm = true) (hN : X.N.Nodup) (hy : X.N[i]? = some y) (hyl : X.env.scope.names.lookup y = some .local)
  (hsw : swapsWith (.DictComp kx vx [⟨tg, iter, ifs, 0⟩] scope pos) (some (.Name y py)) spos.line X.env = pure true) (hi : PI X tg iter wi) (ok : BlkOk X.N X.env.scope scope own)
  (hg : ∀ (s : Shared) (H : Hp) (C : Addr) (cl : List (Str × Addr)) (fp : List Addr), PG (X.blk s H scope (compEnvC scope cl C X.env) fp) tg g) (ht : ∀ (s : Shared) (H : Hp) (C : Addr) (cl : List (Str × Addr)) (fp : List Addr), PTs (X.blk s H scope (compEnvC scope cl C X.env) fp) ifs tt)
  (hk : ∀ (s : Shared) (H : Hp) (C : Addr) (cl : List (Str × Addr)) (fp : List Addr), PE (X.blk s H scope (compEnvC scope cl C X.env) fp) kx tk) (hv : ∀ (s : Shared) (H : Hp) (C : Addr) (cl : List (Str × Addr)) (fp : List Addr), PE (X.blk s H scope (compEnvC scope cl C X.env) fp) vx tv)
  (hs : ∀ x, foldedSetIterable iter X.env x = pure x) : PS X (.Assign [.Name y py] (.DictComp kx vx [⟨tg, iter, ifs, 0⟩] scope pos) spos) (tAsg (tDc wi g tt tk tv (own.map (·.2))) (gName i)) := by
 refine ⟨fun pins s σ H D I h => ?_⟩
 rw [exec_Assign_Name_used _ _ _ _ hsw]
 have h : tDc wi g tt tk tv (own.map (·.2)) σ H (fun x H1 => gName i x σ H1 D.nx) := h
 refine wao (wpAny_standAt (wao ?_))
 show wpAny _ X.A (comprehension (.DictComp kx vx [⟨tg, iter, ifs, 0⟩] scope pos) scope X.env (firstIterPos [⟨tg, iter, ifs, 0⟩] pos) newDict false (eval iter X.env) (some (assign (.Name y py) X.env)) >>= fun _ => pure ()) _ _ s
 refine wao (thn (dc_core (Qf := fun _ t => SP X pins D .next t) hc hN I hi ok hg ht hk hv hs h fun a b t m H' I' q hn f => ?_) fun _ t hq => waH (waH hq))
 show wpAny _ _ (assign (.Name y py) X.env (.ref a)) _ _ _
 obtain ⟨f0, f1, f2, f3, f4, f5⟩ := f
 refine wpAny_assign_Name (store_ok2 (v := V.ref a) I' hN hy (.inl hyl) rfl (fun t2 I2 ⟨d, sb, hd⟩ => ?_) (.inr hyl))
 have ne : b ≠ d := hd.elim (fun z => by rw [z]; exact f1) fun z e => f4 y d z e.symm
 exact ⟨m, hn.sameBut sb ne, fun h3 sb3 => ⟨_, H', I2.turned (t' := t2.toks) (fun u o hu e => (sb3.2 u hu).trans e) f0 f1 f3 f4 f5, q⟩⟩
end
end
theorem HasK.congr {P : Program} {w : World} {h : Heap} {S : Addr} {f : Key → Bool} {n : Nat} {l : List Key} (q : h.SetOf (mixKind P w) S f n) (e : ∀ k, f k = (jE7 l).any fun j => decide (j = k)) (en : n = (jE7 l).length) : HasK P w h S l := by
 obtain rfl : f = fun k => (jE7 l).any fun j => decide (j = k) := funext e
 subst en
 exact q
section
variable {P : Program} {w : World} {A : Around} {E : Value → Shared → Prop} {s : Shared}
abbrev newS (led : Bool) : Obj := { cls := .type "set", dict := none, data := .set #[] 0 (.fresh 0 0 led) }
end
theorem jZ7 {P : Program} {w : World} {fr : List PySem.Env} {H : Hp} {s s' : Shared} {e : Value} (h : L2.CX P w fr H s X0 e s') : False := by
 obtain ⟨a, B, H', cls, d, rfl, fl, hok, ub, na, os, ag, hE⟩ := h
 exact hE
section
open Builtin Builtin.ObjectAttr
abbrev setF (x : Addr) (f : Str) (k : Tok) (v : Value) : Code := .call (.builtin "object.__setattr__") ⟨[.ref x, .str f k, v], []⟩
abbrev exO (C : Addr) (d : Option Addr) (w : Array Value) : Obj := { cls := .ref C, dict := d, data := .fields w }
variable {P : Program} {w : World} {A : Around} {R : Result → Shared → Prop} {u : Shared} {B : String} {bm : List Value} {K : PySem.W.Frag} {f : Str} {k : Tok} {v : Value} {x C : Addr} {fv : Array Value}
theorem j1i (SF : StoreFacts B bm "object.__setattr__" "object") (X : K.In u.heap) (at_ : u.heap.get? x = some (exO C none fv)) (ov : PySem.W.excOver K C bm = true) (tk : PySem.W.takerIn K C f = some none) (hd : PySem.W.hasDictIn K C = true)
  (next : ∀ t d, (∀ b o, b ≠ x → u.heap.get? b = some o → t.heap.get? b = some o) → u.heap.objs.size ≤ d → d ≠ x → t.heap.get? x = some (exO C (some d) fv) → (t.heap.Ns1 d fun y => if y = f then some v else none) → t.gens = u.gens → t.os = u.os → R (.ok (.ret .none)) t) :
  codeAny (model P w) A (setF x f k v) R u := by
 have new : x ≠ u.heap.objs.size := waY (waX at_)
 refine PySem.W.osa_openX (od := none) SF X ⟨at_, rfl, rfl, trivial⟩ ov tk fun b => ?_
 obtain ⟨cd, ec, ed⟩ := PySem.W.any_some hd
 have lk := PySem.W.looks_clsIn (M := model P w) X ec
 show wpAny _ _ (storeInOwnDict (.ref x) (.ref C) (.str f k) f v b) _ _ _
 rcases cd with ⟨_, _, _, _, _, c6, _, _, _, _, _⟩
 obtain rfl : c6 = true := ed
 obtain ⟨h, g, dr, tt, os⟩ := u
 unfold storeInOwnDict ownDictForStores
 repeat (first | with_reducible refine HandSPX.store_in_new ?_ ?_ | with_reducible refine wbb at_ ?_ | with_reducible refine lk.at ?_ | wp_step)
 ·exact ⟨_, #[], _, (Heap.get?_update_ne _ _ _ _ new.symm).trans (Heap.get?_push_at rfl rfl), rfl, fun e he => absurd he (by simp), fun _ => rfl⟩
 ·intro h2 k2 n2 sb
  refine next ⟨h2, g, dr, k2, os⟩ h.objs.size (fun b o nb eb => ?_) (waK _) new.symm ?_ n2 rfl rfl
  ·rw [sb.2 b (waY (waX eb)), Heap.get?_update_ne _ _ _ _ nb]
   exact wap _ eb
  ·rw [sb.2 x new]
   exact Heap.get?_update_self _ (wap _ at_) rfl
theorem jX3 {d : Addr} {m : Str → Option Value} {l : List Str} (SF : StoreFacts B bm "object.__setattr__" "object") (X : K.In u.heap) (at_ : u.heap.get? x = some (exO C (some d) fv)) (ns : u.heap.Ns1 d m) (wi : Within m l) (sz : l.length ≤ 1000)
  (ov : PySem.W.excOver K C bm = true) (tk : PySem.W.takerIn K C f = some none) (hd : PySem.W.hasDictIn K C = true)
  (next : ∀ t, (∀ b o, b ≠ d → u.heap.get? b = some o → t.heap.get? b = some o) → (t.heap.Ns1 d fun y => if y = f then some v else m y) → t.gens = u.gens → t.os = u.os → R (.ok (.ret .none)) t) : codeAny (model P w) A (setF x f k v) R u := by
 obtain ⟨od, _, _, eo, _, _⟩ := ns.count wi
 refine PySem.W.osa_openX (od := some od) SF X ⟨at_, rfl, rfl, eo⟩ ov tk fun b => ?_
 obtain ⟨cd, ec, ed⟩ := PySem.W.any_some hd
 have lk := PySem.W.looks_clsIn (M := model P w) X ec
 show wpAny _ _ (storeInOwnDict (.ref x) (.ref C) (.str f k) f v b) _ _ _
 rcases cd with ⟨_, _, _, _, _, c6, _, _, _, _, _⟩
 obtain rfl : c6 = true := ed
 obtain ⟨h, g, dr, tt, os⟩ := u
 unfold storeInOwnDict ownDictForStores
 repeat (first | with_reducible refine OEX.store_in_old ns wi sz ?_ | with_reducible refine wbb at_ ?_ | with_reducible refine lk.at ?_ | wp_step)
 intro h2 k2 n2 sb
 exact next ⟨h2, g, dr, k2, os⟩ (fun b o nb eb => by rw [sb.2 b nb]; exact eb) n2 rfl rfl
end
structure Md (hp : Heap) (L e C : Addr) (m : Str → Option Value) (dv : Option (Addr × List (Str × V))) (h : Heap) : Prop where
 keep : ∀ b o, hp.get? b = some o → h.get? b = some o
 loc : h.Ns L m
 ob : ∃ t, h.get? e = some (PySem.W.excObj C t (dv.map (·.1)) .none)
 dc : ∀ dx fs, dv = some (dx, fs) → (∃ mA, h.Ns1 dx mA ∧ ∀ f, RelO (fs.lookup f) (mA f)) ∧ hp.objs.size ≤ dx ∧ dx ≠ L ∧ dx ≠ e
 en : hp.objs.size ≤ e
 eL : e ≠ L
 Ln : hp.objs.size ≤ L
section
variable {prog : Program} {w : World} {A : Around} {E : Value → Shared → Prop} {s : Shared} {B initId newId : String} {bmB : List Value} {K : PySem.W.Frag} {hp : Heap} {L e C : Addr} {m : Str → Option Value}
def jEe (dv : Option (Addr × List (Str × V))) : List (Str × V) := match dv with
 | none => []
 | some (_, fs) => fs
theorem j0z {dv : Option (Addr × List (Str × V))} {f : Str} {y : V} {u : Value} {Q : Unit → Shared → Prop} (SF : StoreFacts B bmB "object.__setattr__" "object") (X : K.In hp) (ho : PySem.W.excOver K C bmB = true) (hh : PySem.W.hasDictIn K C = true)
  (hs : PySem.W.findIn K (.ref C) "__setattr__" = some (some (.builtin "object.__setattr__"))) (ht : PySem.W.takerIn K C f = some none) (M : Md hp L e C m dv s.heap) (hl : (jEe dv).length ≤ 900) (r : RelV y u)
  (h : ∀ dx s', Md hp L e C m (some (dx, (f, y) :: jEe dv)) s'.heap → s'.gens = s.gens → s'.os = s.os → Q () s') : wpAny (model prog w) A (setAttr (.ref e) f u) Q E s := by
 obtain ⟨hh1, g, d, t, os⟩ := s
 have XK : K.In hh1 := X.keeps M.keep
 obtain ⟨t1, hob⟩ := M.ob
 have hob' : hh1.get? e = some (PySem.W.excObj C t1 (dv.map (·.1)) .none) := hob
 have neE : ∀ {b o}, hp.get? b = some o → b ≠ e := fun {b o} z => waY (waW (waX z) M.en)
 cases dv with
 | none =>
  refine PySem.W.set_plain (od := none) XK ⟨hob', rfl, rfl, trivial⟩ hs (j1i SF XK hob' ho ht hh fun s2 dx k dn dne hx hn g2 o2 => ?_)
  have nd : ∀ {b : Addr} {o : Obj}, hh1.get? b = some o → b ≠ dx := fun {b o} q => waY (waW (waX q) dn)
  refine h dx s2 ⟨fun b o z => k b o (neE z) (M.keep b o z), ?_, ⟨t1, hx⟩, fun dx' fs' z => ?_, M.en, M.eL, M.Ln⟩ g2 o2
  ·obtain ⟨o, es, ep, e1, e2⟩ := M.loc
   exact ⟨o, es, ep, k _ _ (Ne.symm M.eL) e1, e2⟩
  ·cases z
   refine ⟨⟨_, hn, relO_put (fs := []) r fun g => True.intro⟩, ?_, ?_, dne⟩
   ·exact wau M.en (Nat.le_of_lt (waW (waX hob') dn))
   ·obtain ⟨o, es, ep, e1, e2⟩ := M.loc
    exact Ne.symm (nd e1)
 | some p =>
  obtain ⟨dx, fs⟩ := p
  obtain ⟨⟨mA, hns, rel⟩, h1, h2, h3⟩ := M.dc dx fs rfl
  have hns' : hh1.Ns1 dx mA := hns
  have hw := within_of rel
  obtain ⟨oD, _, _, hoD, _, _⟩ := hns'.count hw
  refine PySem.W.set_plain (od := some oD) XK ⟨hob', rfl, rfl, hoD⟩ hs (jX3 SF XK hob' hns' hw (by rw [waw]; exact wau hl (by decide)) ho ht hh fun s2 k hn g2 o2 => ?_)
  have neD : ∀ {b o}, hp.get? b = some o → b ≠ dx := fun {b o} z => waY (waW (waX z) h1)
  refine h dx s2 ⟨fun b o z => k b o (neD z) (M.keep b o z), ?_, ⟨t1, k _ _ (Ne.symm h3) hob'⟩, fun dx' fs' z => ?_, M.en, M.eL, M.Ln⟩ g2 o2
  ·obtain ⟨o, es, ep, e1, e2⟩ := M.loc
   exact ⟨o, es, ep, k _ _ (Ne.symm h2) e1, e2⟩
  ·cases z
   exact ⟨⟨_, hn, relO_put r rel⟩, h1, h2, h3⟩
theorem jJj {env : PySem.Env} {vs : Str → V} {Q : Flow → Shared → Prop} (SF : StoreFacts B bmB "object.__setattr__" "object") (X : K.In hp) (ho : PySem.W.excOver K C bmB = true) (hh : PySem.W.hasDictIn K C = true)
  (hs : PySem.W.findIn K (.ref C) "__setattr__" = some (some (.builtin "object.__setattr__"))) (hL : env.locals = L) (hk : env.scope.kind = .function) (hse : env.kindOf "self" = some .local) (hm : m "self" = some (.ref e)) :
  ∀ (fl : List (Str × Str)) (ss : List Stmt) (dv : Option (Addr × List (Str × V))) (s : Shared), sets fl ss = true → (∀ p ∈ fl, PySem.W.takerIn K C p.1 = some none ∧ env.kindOf p.2 = some .local ∧ (p.2 == ("__debug__" : Str)) = false ∧ ∃ u, m p.2 = some u ∧ RelV (vs p.2) u) →
  Md hp L e C m dv s.heap → (jEe dv).length + fl.length ≤ 900 →
  (∀ dv' s', (fl ≠ [] ∨ dv.isSome = true → dv'.isSome = true) → Md hp L e C m dv' s'.heap → jEe dv' = (fl.map fun p => (p.1, vs p.2)).reverse ++ jEe dv → s'.gens = s.gens → s'.os = s.os → Q .next s') → wpAny (model prog w) A (execs ss env) Q E s
 | [], ss, dv, s, h, hf, M, hl, hq => by
  cases ss with
  | nil => exact wpAny_execs_nil (hq dv s (fun z => z.elim (fun q => absurd rfl q) id) M rfl rfl rfl)
  | cons _ _ => cases h
 | (f, a) :: fl, ss, dv, s, h, hf, M, hl, hq => by
  unfold sets at h
  split at h
  ·cases ‹_ :: _ = []›
  ·rename_i f1 a1 fl1 o p1 f' p2 a' p3 p4 ss' e0
   cases e0
   simp only [wab, waj] at h
   obtain ⟨rfl, rfl, rfl, h⟩ := h
   obtain ⟨h1, h2, h3, u, hu, ru⟩ := hf _ wah
   refine wpAny_execs_cons (plainObj_wpAny_Assign_Attribute ?_ (by rfl))
   refine ESX.ldL (m := m) (v := u) (by rw [hL]; exact M.loc) hu ?_ hk h2 h3
   refine ESX.ldL (m := m) (v := .ref e) (by rw [hL]; exact M.loc) hm ?_ hk hse (by decide)
   refine j0z SF X ho hh hs h1 M (by rw [waq] at hl; omega) ru fun dx s' M' g' o' => ?_
   refine jJj SF X ho hh hs hL hk hse hm fl ss' _ s' h (fun p hp => hf p (wak _ hp)) M' (by rw [waq] at hl; show ((f, vs a) :: jEe dv).length + _ ≤ _; rw [waq]; omega) fun dv' s2 z M2 e2 g2 o2 => ?_
   refine hq dv' s2 (fun _ => z (.inr rfl)) M2 ?_ (g2.trans g') (o2.trans o')
   rw [e2]
   show _ ++ ((f, vs a) :: jEe dv) = _
   simp
  ·cases h
end
theorem jHc {β : Type} {l : List (Str × β)} {a : Str} {u : β} (hn : (l.map (·.1)).Nodup) (h : (a, u) ∈ l) : l.lookup a = some u := by
 induction l with
 | nil => cases h
 | cons p l ih =>
  obtain ⟨x, v⟩ := p
  rw [war, List.nodup_cons] at hn
  rcases waE.mp h with e | h
  ·cases e
   simp [List.lookup]
  ·have : (a == x) = false := by
    refine beq_false_of_ne fun z => hn.1 ?_
    rw [← z]
    exact List.mem_map_of_mem (f := (·.1)) h
   simp only [List.lookup, this]
   exact ih hn.2 h
theorem jC0 {β : Type} : ∀ {ps : List Str} {us : List β}, List.Sublist ((ps.zip us).map (·.1)) ps
 | [], _ => by simp
 | _ :: _, [] => by simp
 | p :: ps, u :: us => by
  show List.Sublist (p :: (ps.zip us).map (·.1)) (p :: ps)
  exact List.Sublist.cons_cons p jC0
theorem jK3 {ps : List Str} {us : List Value} {a : Str} {u : Value} (hn : ps.Nodup) (h : (a, u) ∈ ps.zip us) : (ps.zip us).reverse.lookup a = some u := by
 refine jHc ?_ (List.mem_reverse.mpr h)
 rw [List.map_reverse]
 exact (List.reverse_perm _).nodup_iff.mpr (List.Nodup.sublist jC0 hn)
theorem jPy {p0 p1 p2 p3 : Pos} {env : PySem.Env} (h : (p2.endLine == p3.line) = true) : eval (.Call (.Attribute (.Call (.Name "super" p0) [] [] p1) "__init__" p2) [] [] p3) env = (do
   let ov ← attributeBase (.Call (.Name "super" p0) [] [] p1) "__init__" env (eval (.Call (.Name "super" p0) [] [] p1) env)
   standAt p2.atName
   let (f, first) ← holding [ov] (getMethod ov "__init__" (do return (← importBound (.Call (.Name "super" p0) [] [] p1) env).getD true))
   callWith p3 f first (backTo p3 (starEach [] env)) []) := by
 have e1 : eval (.Call (.Attribute (.Call (.Name "super" p0) [] [] p1) "__init__" p2) [] [] p3) env = (do
   let ov ← attributeBase (.Call (.Name "super" p0) [] [] p1) "__init__" env (eval (.Call (.Name "super" p0) [] [] p1) env)
   standAt p2.atName
   methodCall (.Call (.Name "super" p0) [] [] p1) "__init__" p2 p3 env ov 0 (backTo p3 (starEach [] env)) []) := by rfl
 have e2 : (methodCallForm 0 (backTo p3 (starEach [] env)) ([] : List (Option Str × Sem Value))) = true := by rfl
 have e3 : methodCallPos true (.Call (.Name "super" p0) [] [] p1) env p2 p3 = pure p3 := by
  unfold methodCallPos
  rw [h] <;> rfl
 rw [e1]
 unfold methodCall calleeOf
 simp only [e2, e3, wbu, if_true]
theorem jNu {as : List Str} {vs : List V} {i : Nat} (hn : as.Nodup) (h1 : i < as.length) (h2 : i < vs.length) : ((as.zip vs).lookup as[i]).getD .non = vs[i] := by
 have e : (as.zip vs).lookup as[i] = some vs[i] := by
  refine jHc (List.Nodup.sublist jC0 hn) ?_
  have : (as.zip vs)[i]'(by rw [List.length_zip]; omega) = (as[i], vs[i]) := List.getElem_zip
  rw [← this]
  exact List.getElem_mem _
 rw [e] <;> rfl
theorem jMy : ∀ {vs : List V} {us : List Value}, Vals vs us → ∀ (i : Nat) (h1 : i < vs.length) (h2 : i < us.length), RelV vs[i] us[i]
 | _, _, .nil, i, h1, _ => by simp at h1
 | _, _, .cons r rs, 0, _, _ => r
 | _, _, .cons r rs, i + 1, h1, h2 => jMy rs i (by simpa using h1) (by simpa using h2)
section
variable {prog : Program} {w : World} {A : Around} {R : Result → Shared → Prop} {K : PySem.W.Frag} {mg : Str → Option Value} {base hp h2 : Heap} {g : Array GenState} {d : Drawn} {t : Nat} {os : OsState} {B newId initId : String} {bmB : List Value} {C fI e t0 : Addr} {fs as : List Str} {fd : FuncData} {us : List Value} {vs : List V}
theorem jDv {args : Args} (T : XIn prog K mg B newId initId bmB C fI fs as fd) (M : Mod K mg base) (bk : ∀ b o, base.get? b = some o → hp.get? b = some o) (keep : ∀ b o, hp.get? b = some o → h2.get? b = some o) (he : h2.get? e = some (PySem.W.excObj C t0 none .none)) (en : hp.objs.size ≤ e) (hroom : A.depth < recursionLimit)
  (hbind : BindsTo ⟨h2, g, d, t, os⟩ fd args ((("self" : Str) :: as).zip (.ref e :: us))) (hv : Vals vs us) (hl : vs.length = as.length)
  (h : ∀ dx s', (∀ b o, hp.get? b = some o → s'.heap.get? b = some o) → (∃ t1, s'.heap.get? e = some (PySem.W.excObj C t1 (some dx) .none)) → (∃ mA, s'.heap.Ns1 dx mA ∧ ∀ f, RelO (((fs.zip vs).reverse).lookup f) (mA f)) → hp.objs.size ≤ dx → dx ≠ e → s'.gens = g → s'.os = os → R (.ok (.ret .none)) s') :
  codeAny (model prog w) A (.call (.ref fI) args) R ⟨h2, g, d, t, os⟩ := by
 obtain ⟨name, qual, params, rest, scope, dV, kV, doc, pm, ct, oc, ccl, cl, an, od, cdd, cld, cda, cc, osl, ccs, csl, vc, file, tf, cdD, ar, p0, p1, p2, p3, p4, rfl, lk, hcd, hst, hpar, har, hcode, hvs, hfile, hcell, hD, hks, hkc, hse, hkf, hco, hgen, hnc, hloc, htk, hline, hb⟩ := T.ex
 have X : K.In hp := M.kin.keeps bk
 have X2 : K.In h2 := X.keeps keep
 have lim2 : h2.NoLimit := (M.nolimit.keeps bk).keeps keep
 have hmem : ∀ {a : Str} {u : Value}, (a, u) ∈ (("self" : Str) :: as).zip (.ref e :: us) → (((("self" : Str) :: as).zip (.ref e :: us)).reverse).lookup a = some u := fun z => jK3 T.nd z
 refine PySem.ks_codeAny_call_defAt (fd := PySem.W.ksFn name qual params (.Expr (.Call (.Attribute (.Call (.Name "super" p0) [] [] p1) "__init__" p2) [] [] p3) p4 :: rest) scope dV kV doc pm an (.ref cda) ct cc) hroom (X2 _ _ lk) rfl lim2 (PySem.W.codeRec_of X2 hcd) rfl hbind hnc (fun x hx => ?_) (fun h1 hns k1 => ?_) hco hgen hkf
 ·rcases waE.mp (List.of_mem_zip hx).1 with q | q
  ·rw [q]; exact hse
  ·exact (hloc _ q).1
 show PySem.wpAt _ (A.deeper (PySem.W.ksEnv qual scope h2.objs.size fI (.ref cda) cc)) (.func _ (PySem.W.ksEnv qual scope h2.objs.size fI (.ref cda) cc)) (execs _ (PySem.W.ksEnv qual scope h2.objs.size fI (.ref cda) cc)) _ _ _
 have e2 : e < h2.objs.size := waX he
 have M1 : Md hp h2.objs.size e C (fun x => (((("self" : Str) :: as).zip (.ref e :: us)).reverse).lookup x) none h1 :=
  ⟨fun b o z => k1 b o (keep b o z), hns, ⟨t0, k1 _ _ he⟩, fun _ _ z => (nomatch z), en, waY e2, wau en (Nat.le_of_lt e2)⟩
 have hself : (((("self" : Str) :: as).zip (.ref e :: us)).reverse).lookup ("self" : Str) = some (.ref e) := hmem wah
 have hpL : hp.get? h2.objs.size = none := by
  cases z : hp.get? h2.objs.size with
  | none => rfl
  | some o => exact absurd (waX (keep _ _ z)) (Nat.lt_irrefl _)
 have hpe : hp.get? e = none := Heap.get?_none_of_le en
 have hint : interactive (PySem.W.ksEnv qual scope h2.objs.size fI (.ref cda) cc) = false := by
  unfold interactive
  rw [show (PySem.W.ksEnv qual scope h2.objs.size fI (.ref cda) cc).scope.kind = .function from hkf]
  rfl
 have X1 : K.In h1 := X.keeps M1.keep
 obtain ⟨t1, ho1⟩ := M1.ob
 have ho1' : h1.get? e = some (PySem.W.excObj C t1 none .none) := ho1
 have F1 : Fr hp h2.objs.size h1 (fun x => ((("self" : Str) :: as).zip (.ref e :: us)).reverse.lookup x) := ⟨hns, M1.keep, M1.Ln⟩
 have N1 : News hp h2.objs.size h1 [(e, PySem.W.excObj C t1 none .none)] := fun p hp' => by
  rcases waE.mp hp' with rfl | z
  ·exact ⟨ho1', M1.eL, hpe⟩
  ·cases z
 obtain ⟨oD, hD1, hD2⟩ : ∃ oD, h1.get? C = some oD ∧ oD.data = .cls cdD := by
  unfold PySem.W.clsIn at hD
  split at hD
  ·rename_i c dd cd' sl ho
   cases hD
   exact ⟨_, X1 _ _ ho, rfl⟩
  ·cases hD
 obtain ⟨mb, hb1, hb2⟩ := M.blt
 have kb : ∀ b o, base.get? b = some o → h1.get? b = some o := fun b o z => M1.keep b o (bk b o z)
 refine PySem.ks_wpAt_execs_cons (PySem.ks_wpAt_Expr_any (PySem.ks_wpAt_MethodCall (M := model prog w) ?_ (jPy hline)) hint)
 refine PySem.ks_wpAt_super_base hks hkc (by decide) rfl (X1 _ _ lk) rfl hpar rfl (X1 _ _ hcode) rfl hvs hfile T.top ?_
 refine PySem.W.ks_loadName_global hkf hks (Calls.loadGlobal_builtin (M.glob.keeps kb) T.mgs (hb1.keeps kb) ((hb2 _ (by decide)).trans PyProof.Rows.Boot.«super») ⟨rfl, ?_⟩)
 refine wpAny_loadName_free hkf hkc rfl ⟨_, X1 _ _ hcell, rfl⟩ ?_
 rw [har]
 refine wpAny_loadName_local hkf hse hns hself ?_
 refine PySem.ks_wpAny_isType_cls hD1 hD2 ⟨rfl, ?_⟩
 refine PySem.ks_wpAny_call_super hD1 hD2 ho1' rfl (fun c z => nomatch z) (PySem.W.looks_mroIn X1 T.mro) (fun h3 e3 k3 => ?_)
 obtain ⟨F3, N3, l3⟩ := PySem.W.ks_newsPush (s := ⟨h1, g, d, t, os⟩) (q := h1.objs.size) F1 N1 rfl e3 k3
 refine PySem.W.kxs_method T.KF F3 X N3 wah (PySem.W.InstAt.of_exc0 N3 (wak _ wah)) T.opq T.sup T.sB (by decide) fun q h4 F4 N4 l4 => ?_
 have eq : e ≠ q := waY (l4 (e, _) (wak _ wah))
 have es : e ≠ h1.objs.size := waY (l3 (e, _) wah)
 refine PySem.W.kxs_callWith0 N4 wah ?_
 refine PySem.W.kxs_call (x := e) (t := t1) (dv := none) (c2 := .none) F4 X N4 T.FB T.ini wah (.tail (Ne.symm eq) (.tail (Ne.symm es) (.head (fun p z => nomatch z)))) (by rw [waN]; exact wa4 _) fun t5 h5 F5 N5 l5 => ?_
 have M5 : Md hp h2.objs.size e C (fun x => ((("self" : Str) :: as).zip (.ref e :: us)).reverse.lookup x) none h5 :=
  ⟨F5.keep, F5.ns, ⟨t5, (N5 (e, PySem.W.excObj C t5 none .none) (by simp)).1⟩, fun _ _ z => (nomatch z), en, waY e2, wau en (Nat.le_of_lt e2)⟩
 show PySem.wpAt _ (A.deeper (PySem.W.ksEnv qual scope h2.objs.size fI (.ref cda) cc)) (.func _ (PySem.W.ksEnv qual scope h2.objs.size fI (.ref cda) cc)) (execs rest (PySem.W.ksEnv qual scope h2.objs.size fI (.ref cda) cc)) _ _ _
 refine PySem.wpAt_of_wpAny ?_
 have hnd : as.Nodup := (List.nodup_cons.mp T.nd).2
 have hfz : ∀ p ∈ fs.zip as, p.1 ∈ fs ∧ p.2 ∈ as := fun p hp => List.of_mem_zip hp
 refine jJj (env := PySem.W.ksEnv qual scope h2.objs.size fI (.ref cda) cc) (vs := fun a => ((as.zip vs).lookup a).getD .non) T.SF X T.ovr T.hd T.sa (L := h2.objs.size) rfl hkf hse hself (fs.zip as) rest none _ hst (fun p hp => ?_) M5 (by show 0 + _ ≤ _; rw [List.length_zip]; have := T.le; omega) (fun dv' s' z M' e' g' o' => ?_)
 ·obtain ⟨z1, z2⟩ := hfz p hp
  refine ⟨htk _ z1, (hloc _ z2).1, (hloc _ z2).2, ?_⟩
  obtain ⟨i, hi, ei⟩ := List.getElem_of_mem z2
  have hi1 : i < vs.length := by rw [hl]; exact hi
  have hi2 : i < us.length := by rw [← hv.length]; exact hi1
  refine ⟨us[i], hmem (wak _ ?_), ?_⟩
  ·rw [← ei]
   have : (as.zip us)[i]'(by rw [List.length_zip]; omega) = (as[i], us[i]) := List.getElem_zip
   rw [← this]
   exact List.getElem_mem _
  ·rw [← ei]
   show RelV (((as.zip vs).lookup as[i]).getD .non) us[i]
   rw [jNu hnd hi hi1]
   exact jMy hv i hi1 hi2
 ·have hds : dv'.isSome = true := z (.inl fun q => by
   have l1 := wbe List.length q
   rw [List.length_zip, T.len, Nat.min_self] at l1
   have l2 := T.len
   have l3 := T.ne
   have : fs = [] := wat (by rw [l2]; exact l1)
   exact l3 this)
  cases dv' with
  | none => cases hds
  | some p =>
   obtain ⟨dx, fx⟩ := p
   obtain ⟨q1, q2, _, q4⟩ := M'.dc dx fx rfl
   have ef : fx = (fs.zip vs).reverse := by
    have z1 : fx = ((fs.zip as).map fun p => (p.1, ((as.zip vs).lookup p.2).getD .non)).reverse ++ [] := e'
    rw [z1, waL]
    congr 1
    refine List.ext_getElem (by simp [T.len, hl]) fun i h1 h2 => ?_
    rw [waw, List.length_zip] at h1
    rw [List.getElem_map, List.getElem_zip, List.getElem_zip]
    exact wbe _ (jNu hnd (by omega) (by omega))
   rw [ef] at q1
   exact h dx s' M'.keep M'.ob q1 q2 q4 g' o'
theorem jL7 (T : XIn prog K mg B newId initId bmB C fI fs as fd) (M : Mod K mg base) (bk : ∀ b o, base.get? b = some o → hp.get? b = some o) (keep : ∀ b o, hp.get? b = some o → h2.get? b = some o) (he : h2.get? e = some (PySem.W.excObj C t0 none .none)) (en : hp.objs.size ≤ e) (hroom : A.depth < recursionLimit)
  (hv : Vals vs us) (hl : vs.length = as.length)
  (h : ∀ dx s', (∀ b o, hp.get? b = some o → s'.heap.get? b = some o) → (∃ t1, s'.heap.get? e = some (PySem.W.excObj C t1 (some dx) .none)) → (∃ mA, s'.heap.Ns1 dx mA ∧ ∀ f, RelO (((fs.zip vs).reverse).lookup f) (mA f)) → hp.objs.size ≤ dx → dx ≠ e → s'.gens = g → s'.os = os → R (.ok (.ret .none)) s') :
  codeAny (model prog w) A (.call (.ref fI) ⟨.ref e :: us, []⟩) R ⟨h2, g, d, t, os⟩ := by
 have hbind : BindsTo ⟨h2, g, d, t, os⟩ fd ⟨.ref e :: us, []⟩ ((("self" : Str) :: as).zip (.ref e :: us)) := by
  obtain ⟨name, qual, params, rest, scope, dV, kV, doc, pm, ct, oc, ccl, cl, an, od, cdd, cld, cda, cc, osl, ccs, csl, vc, file, tf, cdD, ar, p0, p1, p2, p3, p4, rfl, lk, hcd, hst, hpar, har, hcode, hvs, hfile, hcell, hD, hks, hkc, hse, hkf, hco, hgen, hnc, hloc, htk, hline, hb⟩ := T.ex
  have hlen : (.ref e :: us : List Value).length = (("self" : Str) :: as).length := by rw [waq, waq, ← hl, hv.length]
  have hbind := hb ⟨h2, g, d, t, os⟩ (.ref e :: us) ((M.kin.keeps bk).keeps keep) (by rw [waL]; exact hlen)
  rw [waL] at hbind
  exact hbind
 exact jDv T M bk keep he en hroom hbind hv hl h
end
def tMkX (C : Addr) (fs : List Str) (ta : TA) : L2.St → Hp → XK → Prop := fun σ H Q => ta σ H fun vs H1 => vs.length = fs.length ∧ ∀ d, H1 d = none → Q (.ref C) (some d) (upd H1 d (.xd ((fs.zip vs).reverse)))
section
variable {X : Cx} {B newId initId : String} {bmB : List Value} {C fI : Addr} {fs as : List Str} {fd : FuncData}
theorem jVa {x : Str} {k : Nat} {ta : TA} {e : Expr} {es : List Expr} {p pos : Pos} (T : XIn X.prog X.K X.mg B newId initId bmB C fI fs as fd) (hr : Room (k + 1) X.A) (hg : Gl X x) (hm : X.mg x = some (.ref C)) (ha : PA X (e :: es) ta)
  (hdb : (x == ("__debug__" : Str)) = false := by decide) (he : starEach (e :: es) X.env = (false, eval e X.env) :: starEach es X.env := by rfl) (hpl : (backTo pos (starEach es X.env)).any (·.1) = false := by rfl) :
  PMk X (.Call (.Name x p) (e :: es) [] pos) (tMkX C fs ta) := by
 intro pins s σ H Q I h
 refine wpAny_Call_Name_kw (ld_glob I hg hm ?_ hdb)
 refine PySem.W.callWith_K (h₀ := X.base) I.ok.mod.kin T.kpC (thn (ha.run pos pins s σ H _ I h) fun us s1 ⟨vs, H1, I1, r1, hz, q1⟩ => ⟨I1.kIn, ?_⟩) he hpl
 show wpAny _ _ (PySem.call (Value.ref C) us) _ _ _
 obtain ⟨hp, g, dr, tk, os⟩ := s1
 obtain ⟨nm, N', qn, bs, bm, hdct, sn, sub, ab, col, dd, k0, k1, k2, k3, k5, hC, hT⟩ := PySem.W.excInit_of I1.kIn T.ini
 have hlv : vs.length = as.length := hz.trans T.len
 have hus : us.length ≤ sizeLine := by
  rw [← Paired.length r1, hz, waN]
  exact wau T.le (by decide)
 have kk : ∀ b o, hp.get? b = some o → ((hp.push (PySem.W.kdv_tup us)).push (PySem.HandSPX.excO C hp.objs.size)).get? b = some o := fun b o e => wap _ (wap _ e)
 have hget : ((hp.push (PySem.W.kdv_tup us)).push (PySem.HandSPX.excO C hp.objs.size)).get? (hp.objs.size + 1) = some (PySem.HandSPX.excO C hp.objs.size) := by heap_get
 refine wbs (PySem.HandSPX.call_own T.FB hT hC (wbl I1.kIn T.fnd) (fun self => PySem.W.bind_fn I1.kIn self T.typ) hus
  (jL7 (base := X.base) (mg := X.mg) (hp := hp) (t0 := hp.objs.size) T I.ok.mod I1.bk kk hget (Nat.le_succ _) (hr.make C us []).depth r1 hlv fun dx s' k he hn hd hde hgs hos => ?_))
 obtain ⟨h2, g2, d2, t2, os2⟩ := s'
 obtain ⟨t1, he⟩ := he
 obtain ⟨mA, hns, rel⟩ := hn
 obtain ⟨G, g1', g2'⟩ := restrict h2 fun b => decide (b ≠ hp.objs.size + 1)
 have gk : ∀ b, b ≠ hp.objs.size + 1 → G.get? b = h2.get? b := fun b hb => g1' b (waU hb)
 have ge : G.get? (hp.objs.size + 1) = none := g2' _ (by simp)
 have kG : ∀ b o, G.get? b = some o → h2.get? b = some o := fun b o z => by
  by_cases hb : b = hp.objs.size + 1
  ·rw [hb, ge] at z
   cases z
  ·rw [← gk b hb]
   exact z
 have kp : ∀ b o, hp.get? b = some o → G.get? b = some o := fun b o z => by
  rw [gk b (waY (Nat.lt_succ_of_lt (waX z)))]
  exact k b o z
 have hnG : G.Ns1 dx mA := hns.at fun o z => (gk dx hde).trans z
 have hnone : H1 dx = none := I1.hok.fresh hd
 have hok : ObjOk X.prog X.w (upd H1 dx (.xd ((fs.zip vs).reverse))) G dx (.xd ((fs.zip vs).reverse)) := ⟨mA, hnG, rel⟩
 have J := I1.laid (t' := t2) (a := dx) (o := .xd ((fs.zip vs).reverse)) (h' := G) kp hd hok
 subst hgs
 subst hos
 refine ⟨rfl, hp.objs.size + 1, _, _, ⟨G, g2, d2, t2, os2⟩, _, .ref C, some dx, rfl, ?_, kG, ge, he, ⟨rfl, rfl⟩, rfl, rfl, ?_, rfl, I1.bare, raises_own T.exC T.tyC, q1 dx hnone⟩
 ·exact ⟨J.ok, J.os, J.bare, J.base, J.loc, J.cell, J.free, J.freeC, J.pin, J.hok, J.len⟩
 ·rw [upd_ne (Ne.symm hde)]
  exact I1.hok.fresh (Nat.le_succ _)
end
theorem jPv {L : List (Str × List Str)} {K : PySem.W.Frag} {S S' : Hp} {as as' : List Addr} {cls : Value} {d : Option Addr} {x : T} {H H' : Hp} (h : rxE L K S as cls d x H) (l : Le S S') (p : as <+: as') : rxE L K S' as' cls d x H' := by
 obtain ⟨c, ns, fs, ts, h1, h2, h3, h4, h5, h6⟩ := h
 refine ⟨c, ns, fs, ts, h1, h2, h3, h4, h5.mono l p, h6.imp id fun ⟨dd, e1, e2⟩ => ⟨dd, e1, (l _ _ e2).resolve_right fun ⟨_, _, f⟩ => f⟩⟩
theorem jJk {env : PySem.Env} {pos : Pos} : ∀ {es : List Expr}, es.all noStar = true → (backTo pos (starEach es env)).all (fun x => !x.1) = true
 | [], _ => rfl
 | a :: es, h => by
  rw [waR, wab] at h
  rw [jAd h.1]
  exact jJk h.2
section
variable {X : Cx} {rx : RX} {W : WX} {Φ : Calls} {k n : Nat} {c : Str} {ns : List Str} {xs : Exs}
theorem jZh {B newId initId : String} {bmB : List Value} {C : Addr} {x : Str} {p pos : Pos} (T : XNo X.K B newId initId bmB C) (hg : Gl X x) (hm : X.mg x = some (.ref C)) (hdb : (x == ("__debug__" : Str)) = false) :
  PMk X (.Call (.Name x p) [] [] pos) (fun _ H Q => Q (.ref C) none H) := by
 intro pins s σ H Q I h
 refine wpAny_Call_Name_kw (ld_glob I hg hm ?_ hdb)
 refine PySem.W.callWith_K0 I.kIn T.kpC ?_
 show wpAny _ _ (PySem.call (Value.ref C) []) _ _ _
 obtain ⟨bm, N, nm, qn, bs, hdct, sn, sub, ab, col, dd, k0, k1, k2, k3, k5, mN, hC, hN, hni, T2⟩ := exc_obj I.kIn T.xin
 refine wpAny_call_exc_subT T.FB T2 hC hN hni (fun h' e hm => ?_) (by rw [waN]; exact wa4 _)
 exact mk_of I hm (raises_own T.exC T.tyC) h (I.hok.gone hm.new)
theorem jGn {E : Env} : ex Φ n (.raise c ns xs) E = M.bind (evS Φ xs E) fun ts => M.bind (need "raise" (decide (ts.length = ns.length))) fun _ => fun C => .exc (.obj c ns.reverse ts.reverse) C := rfl
theorem jIk {ns : List Str} {vs : List V} (h : vs.length = ns.length) : ((ns.zip vs).reverse).map (·.1) = ns.reverse ∧ ((ns.zip vs).reverse).map (·.2) = vs.reverse := by
 rw [List.map_reverse, List.map_reverse]
 have e1 : (ns.zip vs).map (·.1) = ns := by
  rw [show (fun x : Str × V => x.1) = Prod.fst from rfl, List.map_fst_zip]
  omega
 have e2 : (ns.zip vs).map (·.2) = vs := by
  rw [show (fun x : Str × V => x.2) = Prod.snd from rfl, List.map_snd_zip]
  omega
 rw [e1, e2]
 exact ⟨rfl, rfl⟩
end
theorem jEs {base h h' : Heap} {l : List PySem.Env} {a : Addr} {Z : Obj → Prop} (x : HandSPX.FlyingZ base l a Z h) (k : ∀ b o, h.get? b = some o → h'.get? b = some o) : HandSPX.FlyingZ base l a Z h' := by
 obtain ⟨k1, k2, k3, oe, vs, T, oT, ts, he, hz, hd, h1, hn, hne, hT, hdT, h3⟩ := x
 exact ⟨fun b o e => k b o (k1 b o e), k2, k3.of_keeps fun b o e _ => ⟨o, k b o e, rfl⟩, oe, vs, T, oT, ts, k _ _ he, hz, hd, h1, hn, hne, k _ _ hT, hdT, h3⟩
theorem jD8 {X : Cx} {x : Str} {c : Value} {p : Pos} {a : Addr} {pn : List (Addr × Obj)} {s : Shared} {σ : L2.St} {H : Hp} {Q : Value → Shared → Prop} {E : Value → Shared → Prop} (hc : Names X x c) (I : Inv (X.suite a pn) [] σ H s) (q : Q c s) : wpAny (model X.prog X.w) (X.A.mark (some (.ref a))) (eval (.Name x p) X.env) Q E s := by
 obtain ⟨hg, hdbg, hm | ⟨hm, hv, hnn⟩⟩ := hc
 ·exact ld_glob (X := X.suite a pn) I hg hm q hdbg
 ·exact ld_blt (X := X.suite a pn) I hg hm hv q hnn hdbg
theorem jP2 {X : Cx} {x : Str} {c : Value} {p : Pos} (hc : Names X x c) : CExp X (.Name x p) [c] := by
 intro a pn s σ H cls b Q E I LT hb hq
 obtain ⟨b1, d1, e1, e2, e3⟩ := PySem.W.exmAny_cons hb
 have e2 : some false = some d1 := e2
 cases e2
 rw [Bool.or_false] at e3
 subst e3
 exact jD8 hc I (hq c s.heap (fun _ _ z => z) (PySem.W.exm_one I.kIn LT e1))
theorem jKq {X : Cx} {x1 x2 x3 : Str} {c1 c2 c3 : Value} {p1 p2 p3 p : Pos} {kk : Nat} (h1 : Names X x1 c1) (h2 : Names X x2 c2) (h3 : Names X x3 c3) : CExp X (.Tuple [.Name x1 p1, .Name x2 p2, .Name x3 p3] kk p) [c1, c2, c3] := by
 intro a pn s σ H cls b Q E I LT hb hq
 refine wpAny_Tuple ?_
 refine wbh (jD8 h1 I ?_)
 refine wbh (jD8 h2 I ?_)
 refine wbh (jD8 h3 I ?_)
 refine Calls.spliced_nil ?_
 refine ⟨by show 3 ≤ sizeLine; rw [waN]; omega, ?_⟩
 have k : ∀ b o, s.heap.get? b = some o → (s.heap.push { cls := .type "tuple", data := .seq [c1, c2, c3].toArray }).get? b = some o := fun b o e => wap _ e
 exact hq _ _ k (PySem.W.exm_tup3 (I.kIn.keeps k) (LT.keeps k) (waS _ rfl) hb)
def unN (i : Option Nat) (D : Ends) : Ends := match i with
 | none => D
 | some i => { nx := fun σ' H' => D.nx (σ'.set i none) H', rt := D.rt, bk := fun σ' H' => D.bk (σ'.set i none) H', ct := fun σ' H' => D.ct (σ'.set i none) H' }
def atN (i : Option Nat) (a : Addr) (σ : L2.St) : L2.St := match i with
 | none => σ
 | some i => σ.set i (some (.ref a))
def wC (K : PySem.W.Frag) (D : Ends) : List Cl → WX
 | [] => fun _ _ _ _ => False
 | c :: r => fun cls d σ H => ∃ b, PySem.W.exmAny K cls c.vs = some b ∧ (b = true → ∀ a, H a = none → c.ts a cls d (unN c.i D) (atN c.i a σ) H) ∧ (b = false → wC K D r cls d σ H)
theorem jTo {X Y : Cx} {p q : List (Addr × Obj)} {D : Ends} {f : Flow} {s : Shared} (k : ∀ σ H, Inv Y q σ H s → Inv X p σ H s) (z : SP Y q D f s) : SP X p D f s := by
 match f, z with
 | .next, ⟨a, b, c, d⟩ => exact ⟨a, b, k _ _ c, d⟩
 | .brk, ⟨a, b, c, d⟩ => exact ⟨a, b, k _ _ c, d⟩
 | .cont, ⟨a, b, c, d⟩ => exact ⟨a, b, k _ _ c, d⟩
 | .ret _, ⟨v, a, b, c, d⟩ => exact ⟨v, a, b, k _ _ c, d⟩
theorem jTn {X : Cx} {Y : Cx} {pins : List (Addr × Obj)} {D : Ends} {f : Flow} {s : Shared} {i : Nat} {n : Str} {p : Pos} {M : Model} {A : Around} {E : Value → Shared → Prop} (nd : X.N.Nodup) (hi : X.N[i]? = some n) (hl : X.env.kindOf n = some .local) (k : ∀ σ H, Inv Y [] σ H s → Inv X pins σ H s)
  (z : SP Y [] (unN (some i) D) f s) : wpAny M A (do bindName X.env n .none; unbindBehindTheSuite X.env n p) (fun _ t => SP X pins D f t) E s := by
 match f, z with
 | .next, ⟨_, _, c, d⟩ => exact gone_ok (k _ _ c) nd hi hl fun _ c' => ⟨_, _, c', d⟩
 | .brk, ⟨_, _, c, d⟩ => exact gone_ok (k _ _ c) nd hi hl fun _ c' => ⟨_, _, c', d⟩
 | .cont, ⟨_, _, c, d⟩ => exact gone_ok (k _ _ c) nd hi hl fun _ c' => ⟨_, _, c', d⟩
 | .ret _, ⟨_, _, _, c, r, d⟩ => exact gone_ok (k _ _ c) nd hi hl fun _ c' => ⟨_, _, _, c', r, d⟩
def j93 (X : Cx) (pins : List (Addr × Obj)) (D : Ends) (p : Pos) (n : Option Str) (f : Flow) (s : Shared) : Prop := match n with
 | none => SP X pins D f s
 | some n => wpAny (model X.prog X.w) X.A (do bindName X.env n .none; unbindBehindTheSuite X.env n p) (fun _ t => SP X pins D f t) X.xe s
section
variable {X : Cx} {pins : List (Addr × Obj)} {σ : L2.St} {H : Hp} {g : Heap} {ss t : Shared} {a : Addr} {cls : Value} {d : Option Addr}
theorem Fly.su (hf : X.env.frame = some X.env.locals) (F : Fly X pins σ H g ss a cls d t) : ∃ oe : Obj, Zc cls d oe ∧ (∃ vs, oe.data = .fields vs) ∧ t.heap.get? a = some oe ∧ Inv (X.suite a ((a, oe) :: (X.pn ++ pins))) [] σ H t := by
 obtain ⟨oe, w, e1, e2, e3⟩ := F.fl.there
 have away : ∀ e ∈ X.env :: X.outer, e.frame ≠ some a := fun e he z => by
  obtain ⟨_, o, eo, nf⟩ := F.fl.2.2.1.mem (waZ.mpr ⟨e, he, z⟩)
  rw [e1] at eo
  cases eo
  exact nf w e3
 refine ⟨oe, e2, ⟨w, e3⟩, e1, F.here.suite e1 e3 F.na (fun z => away X.env wah (by rw [hf, z])) fun z => ?_⟩
 obtain ⟨e, he, q⟩ := waZ.mp z
 exact away e (wak _ he) q
theorem jGw {D : Ends} {c : Cl} {n : Option Str} {b₀ : Stmt} {suite : List Stmt} {p : Pos} (hf : X.env.frame = some X.env.locals) (nd : X.N.Nodup) (hn : NmOk X n c.i)
  (hsu : ∀ (a : Addr) (oe : Obj) (cls : Value) (d : Option Addr) (pn : List (Addr × Obj)), Zc cls d oe → (∃ vs, oe.data = .fields vs) → PSs (X.suite a ((a, oe) :: pn)) (b₀ :: suite) (c.ts a cls d))
  (F : Fly X pins σ H g ss a cls d t) (w : c.ts a cls d (unN c.i D) (atN c.i a σ) H) :
  codeAny (model X.prog X.w) (X.A.mark (some (.ref a))) (.handlers (.ref a) [.ExceptHandler none n (b₀ :: suite) p] X.env) (fun r s₂ => match r with
   | .ok f => j93 X pins D p n f s₂
   | .error x => cameBackBy (model X.prog X.w) X.A X.env X.xe x s₂) t := by
 have ok := F.inv.ok
 cases n with
 | none =>
  have e0 : c.i = none := by
   cases q : c.i with
   | none => rfl
   | some i => rw [q] at hn; exact (show False from hn).elim
  rw [e0] at w
  refine codeAny_handlers_suite (HandSPX.lands_againZ F.fl fun h fl up => ?_)
  obtain ⟨oe, z1, z2, _, I⟩ := (F.on fl up).su hf
  exact wpAny_mono ((hsu a oe cls d (X.pn ++ pins) z1 z2).run [] _ _ H _ I w) (fun f u q => jTo (fun _ _ J => J.unsuite ok) q) fun _ _ z => z.elim
 | some n =>
  cases q : c.i with
  | none => rw [q] at hn; exact (show False from hn).elim
  | some i =>
   rw [q] at hn w
   obtain ⟨hi, hl⟩ := (show X.N[i]? = some n ∧ X.env.kindOf n = some .local from hn)
   refine codeAny_handlers_suite_as (HandSPX.lands_againZ F.fl fun h fl up => ?_)
   obtain ⟨oe, z1, z2, _, I⟩ := (F.on fl up).su hf
   refine store_ok (X := X.suite a ((a, oe) :: (X.pn ++ pins))) (v := .ref a) I nd hi (.inl hl) rfl (fun u J => ?_) (.inr hl)
   exact wpAny_mono ((hsu a oe cls d (X.pn ++ pins) z1 z2).run [] u _ H _ J w) (fun f u2 q2 => jTn nd hi hl (fun _ _ J => J.unsuite ok) q2) fun _ _ z => z.elim
theorem jRr {D : Ends} (hf : X.env.frame = some X.env.locals) (nd : X.N.Nodup) : ∀ {hds : List ExceptHandler} {l : List Cl}, HdsC X hds l → ∀ {t : Shared}, Fly X pins σ H g ss a cls d t → wC X.K D l cls d σ H → wpAny (model X.prog X.w) X.A (handleBy (.ref a) X.env hds) (SP X pins D) X.xe t
 | _, _, .nil, _, _, w => w.elim
 | _, _, .cons hc hn hsu r, t, F, w => by
  obtain ⟨b, e1, yes, no⟩ := w
  obtain ⟨oe, z1, _, z3, I⟩ := F.su hf
  have ty : PySem.W.Looks (model X.prog X.w) t.heap (typeOf (.ref a)) cls := fun _ _ _ _ k q => wpAny_typeOf_ref (k _ _ z3) (by rw [z1.1]; exact q)
  refine wpAny_handleBy_cons (codeAny_handlers_test (hc a _ t σ H cls b _ _ I ty e1 fun cv h kp lk => lk.here ?_)) (fun q => by cases q)
  have F2 := F.on (jEs F.fl kp) (Heap.UpToSlots.of_keeps kp)
  cases b with
  | true =>
   refine wa9 (jGw hf nd hn hsu F2 (yes rfl a F.na)) fun r u q => ?_
   rcases r with e | f <;> exact q
  | false => exact jRr hf nd r F2 (no rfl)
end
def jJd (X : Cx) (pins : List (Addr × Obj)) (D : Ends) (hds : List ExceptHandler) (e : Value) (t : Shared) : Prop :=
 wpAny (model X.prog X.w) X.A (noteFrame e X.env) (fun _ u => wpAny (model X.prog X.w) X.A (setFlight e none) (fun _ v => wpAny (model X.prog X.w) X.A (handleBy e X.env hds) (SP X pins D) X.xe v) X.xe u) X.xe t
theorem jLe {X : Cx} {body : List Stmt} {h0 : ExceptHandler} {hds : List ExceptHandler} {l : List Cl} {pos : Pos} {tb : WX → TS} (hs : X.stack = X.env :: X.outer) (hf : X.env.frame = some X.env.locals) (nd : X.N.Nodup)
  (hb : ∀ (W : WX) (pn : List (Addr × Obj)) (xe : Value → Shared → Prop), Takes (X.tr pn xe) W → PassesOwn (model X.prog X.w) X.A X.env xe → PSs (X.tr pn xe) body (tb W)) (hh : HdsC X (h0 :: hds) l) : PS X (.Try body (h0 :: hds) [] [] pos) (fun D σ H => tb (wC X.K D l) D σ H) := by
 constructor
 intro pins s σ H D I z
 have ok := I.ok
 have run := (hb (wC X.K D l) (X.pn ++ pins) (jJd X pins D (h0 :: hds)) ?c1 (by unfold jJd; exact PassesOwn.looking)).run [] s σ H D (I.toTry _) z
 case c1 =>
  rintro u t ⟨a, g, ss, pins', σ', H', cls, d, rfl, J, gr, up, sky, na, os, ag, w⟩
  show wpAny (model X.prog X.w) X.A (noteFrame (.ref a) X.env) _ _ t
  have sky : Sky g (X.env :: X.outer) a (Zc cls d) X.env.locals t.heap := hs ▸ sky
  exact Sky.land Zc.steady (by rw [ok.frames, hs]) hf sky fun h fl up2 => jRr (ss := ss) (t := { t with heap := h }) hf nd hh ⟨J.ofTry ok, gr, fl, up.trans up2, os, ag, na⟩ w
 refine wpAny_Try_except (wpAny_mono run (fun f t q => ?_) fun _ _ q => q)
 have q2 : SP X pins D f t := jTo (fun _ _ J => J.ofTry ok) q
 cases f with
 | next => exact wpAny_execs_nil q2
 | _ => exact q2
def wCW (K : PySem.W.Frag) (D : Ends) (W0 : WX) : List Cl → WX
 | [] => W0
 | c :: r => fun cls d σ H => ∃ b, PySem.W.exmAny K cls c.vs = some b ∧ (b = true → ∀ a, H a = none → c.ts a cls d (unN c.i D) (atN c.i a σ) H) ∧ (b = false → wCW K D W0 r cls d σ H)
section
variable {X : Cx} {pins : List (Addr × Obj)} {σ : L2.St} {H : Hp} {g : Heap} {ss t : Shared} {a : Addr} {cls : Value} {d : Option Addr}
theorem jZf {Qz : Flow → Shared → Prop} {Ez : Value → Shared → Prop} (hf : X.env.frame = some X.env.locals) (F : Fly X pins σ H g ss a cls d t)
  (go : ∀ hz, HandSPX.HeldZ g (X.env :: X.outer) a (Zc cls d) X.env.locals hz → t.heap.UpToSlots hz → Ez (.ref a) { t with heap := hz }) : wpAny (model X.prog X.w) X.A (handleBy (.ref a) X.env []) Qz Ez t := by
 have fl := F.fl
 have last : wpAny (model X.prog X.w) X.A (setFlight (.ref a) X.env.frame) (fun _ v => wpAny (model X.prog X.w) X.A (throw (.ref a) : Sem Flow) Qz Ez v) Ez t := by
  rw [hf]
  exact HandSPX.setFlight_upZ fl fun hz held up => wpAny_throw (go hz held up)
 obtain ⟨_, _, _, o1, us, tb, _, _, at1, _, dat1, tb1, _⟩ := fl
 refine wpAny_handleBy_nil ?_
 unfold PySem.passOn
 refine wao (wpAny_field at1 dat1 tb1 ?_)
 have ne : ¬ ((Value.ref tb == Value.none) = true) := by simp
 rw [if_neg ne]
 first
  | exact wao (waH (wao last))
  | exact wao last
theorem jL9 {D : Ends} {W0 : WX} (hs : X.stack = X.env :: X.outer) (hf : X.env.frame = some X.env.locals) (nd : X.N.Nodup) (tk : Takes X W0) : ∀ {hds : List ExceptHandler} {l : List Cl}, HdsC X hds l → ∀ {t : Shared}, Fly X pins σ H g ss a cls d t → wCW X.K D W0 l cls d σ H → wpAny (model X.prog X.w) X.A (handleBy (.ref a) X.env hds) (SP X pins D) X.xe t
 | _, _, .nil, t, F, w => jZf hf F fun h' held up => tk _ _ ⟨a, g, ss, pins, σ, H, cls, d, rfl, F.inv, F.gr, F.up.trans up, .inr (.inr (by rw [hs]; exact held)), F.na, F.os, F.ag, w⟩
 | _, _, .cons hc hn hsu r, t, F, w => by
  obtain ⟨b, e1, yes, no⟩ := w
  obtain ⟨oe, z1, _, z3, I⟩ := F.su hf
  have ty : PySem.W.Looks (model X.prog X.w) t.heap (typeOf (.ref a)) cls := fun _ _ _ _ k q => wpAny_typeOf_ref (k _ _ z3) (by rw [z1.1]; exact q)
  refine wpAny_handleBy_cons (codeAny_handlers_test (hc a _ t σ H cls b _ _ I ty e1 fun cv h kp lk => lk.here ?_)) (fun q => by cases q)
  have F2 := F.on (jEs F.fl kp) (Heap.UpToSlots.of_keeps kp)
  cases b with
  | true =>
   refine wa9 (jGw hf nd hn hsu F2 (yes rfl a F.na)) fun r u q => ?_
   rcases r with e | f <;> exact q
  | false => exact jL9 hs hf nd tk r F2 (no rfl)
end
theorem jV3 {X : Cx} {body : List Stmt} {h0 : ExceptHandler} {hds : List ExceptHandler} {l : List Cl} {pos : Pos} {tb : WX → TS} {W0 : WX} (hs : X.stack = X.env :: X.outer) (hf : X.env.frame = some X.env.locals) (nd : X.N.Nodup) (tk0 : Takes X W0)
  (hb : ∀ (W : WX) (pn : List (Addr × Obj)) (xe : Value → Shared → Prop), Takes (X.tr pn xe) W → PassesOwn (model X.prog X.w) X.A X.env xe → PSs (X.tr pn xe) body (tb W)) (hh : HdsC X (h0 :: hds) l) : PS X (.Try body (h0 :: hds) [] [] pos) (fun D σ H => tb (wCW X.K D W0 l) D σ H) := by
 constructor
 intro pins s σ H D I z
 have ok := I.ok
 have run := (hb (wCW X.K D W0 l) (X.pn ++ pins) (jJd X pins D (h0 :: hds)) ?c1 (by unfold jJd; exact PassesOwn.looking)).run [] s σ H D (I.toTry _) z
 case c1 =>
  rintro u t ⟨a, g, ss, pins', σ', H', cls, d, rfl, J, gr, up, sky, na, os, ag, w⟩
  show wpAny (model X.prog X.w) X.A (noteFrame (.ref a) X.env) _ _ t
  have sky : Sky g (X.env :: X.outer) a (Zc cls d) X.env.locals t.heap := hs ▸ sky
  exact Sky.land Zc.steady (by rw [ok.frames, hs]) hf sky fun h fl up2 => jL9 (ss := ss) (t := { t with heap := h }) hs hf nd tk0 hh ⟨J.ofTry ok, gr, fl, up.trans up2, os, ag, na⟩ w
 refine wpAny_Try_except (wpAny_mono run (fun f t q => ?_) fun _ _ q => q)
 have q2 : SP X pins D f t := jTo (fun _ _ J => J.ofTry ok) q
 cases f with
 | next => exact wpAny_execs_nil q2
 | _ => exact q2
section
variable (L : List (Str × List Str)) (K : PySem.W.Frag) (i : Option Nat)
def tX {α β : Type} (a : Addr) (cls : Value) (d : Option Addr) (o : T → Option α) (R : Hp → List Addr → Hp → β → α → Prop) (σ : L2.St) (H : Hp) (Q : β → Hp → Prop) : Prop :=
 AtX i a σ ∧ ∃ F S as E C x t, Sim K F S as σ H E C ∧ rxE L K S as cls d x H ∧ o x = some t ∧ Out K (fun _ _ _ _ _ _ _ => False) (fun _ _ _ _ => False) F σ E (.ok t C) R S as Q
def hiO (h : Hi) : T → Option T
 | .obj _ ns vs => hiT ns vs h
 | _ => none
def hbO (b : Hb) : T → Option T
 | .obj _ ns vs => hbT ns vs b
 | _ => none
end
section
variable {X : Cx} {L : List (Str × List Str)} {i : Option Nat} {a : Addr} {oe : Obj} {cls : Value} {d : Option Addr} {pn : List (Addr × Obj)} {e : Expr} {es : List Expr} {pos : Pos}
theorem jZn {t : T} {v : V} (h : PE (X.suite a ((a, oe) :: pn)) e (tC v)) (r : ∀ S as, Rep X.K S as v t) : PE (X.suite a ((a, oe) :: pn)) e (tX L X.K i a cls d (hiO (.con t)) (RepR X.K)) :=
 jAq h fun σ H Q ⟨_, F, S, as, E, C, x, t', sim, rx, ho, out⟩ => by
  obtain ⟨c, ns, fs, ts, _, _, rfl, _⟩ := rx
  cases ho
  exact out.here sim (r S as)
theorem jS5 {β : Type} (f g : Str) (y : β) (fs : List (Str × β)) : ((f, y) :: fs).lookup g = if g = f then some y else fs.lookup g := by
 by_cases h : g = f
 ·subst h
  simp [List.lookup]
 ·have e : (g == f) = false := by simpa using h
  rw [if_neg h]
  simp [List.lookup, e]
theorem jFw {S : Hp} {as : List Addr} {K : PySem.W.Frag} {f : Str} {t : T} : ∀ {fs : List (Str × V)} {ts : List T}, Reps K S as (fs.map (·.2)) ts → ((fs.map (·.1)).zip ts).lookup f = some t → ∃ v, fs.lookup f = some v ∧ Rep K S as v t
 | [], _, _, h => by simp at h
 | (g, v) :: fs, _, .cons (t := u) r rs, h => by
  have h : ((g, u) :: (fs.map (·.1)).zip _).lookup f = some t := h
  rw [jS5] at h
  rw [jS5]
  by_cases e : f = g
  ·rw [if_pos e] at h ⊢
   cases h
   exact ⟨v, rfl, r⟩
  ·rw [if_neg e] at h ⊢
   exact jFw rs h
theorem j09 {j : Nat} {y f : Str} {p p' : Pos} (hcs : ∀ q ∈ L, XfC X.K (ca X.K q.1) ∧ PySem.W.findIn X.K (.ref (ca X.K q.1)) f = some none) (hi : i = some j) (hN : X.N[j]? = some y) (hv : Vis X.env.scope y) (hd : (y == ("__debug__" : Str)) = false) (hcd : (y == ("__classdict__" : Str)) = false)
  (hz : Zc cls d oe) (hf : ∃ vs, oe.data = .fields vs) : PE (X.suite a ((a, oe) :: pn)) (.Attribute (.Name y p) f p') (tX L X.K i a cls d (hiO (.fld f)) (RepR X.K)) := by
 by_cases h : ∃ q ∈ L, cls = .ref (ca X.K q.1)
 ·obtain ⟨q, hq, ec⟩ := h
  obtain ⟨h1, h2⟩ := hcs q hq
  refine jAq (pe_xf (X := X) (a := a) (d := d) (cls := cls) (pn := pn) h1 h2 hz hf (pe_var (X := X.suite a ((a, oe) :: pn)) hN hv hd hcd)) fun σ H Q ⟨hat, F, S, as, E, C, x, t, sim, rx, ho, out⟩ => ?_
  obtain ⟨c, ns, fs, ts, _, hfs, rfl, _, r, hdd⟩ := rx
  refine ⟨_, hat j hi, rfl, ec, ?_⟩
  have ho : (ns.reverse.zip ts).lookup f = some t := ho
  rw [← hfs] at ho
  obtain ⟨v, e1, e2⟩ := jFw r ho
  rcases hdd with ⟨e0, _⟩ | ⟨dd, e3, e4⟩
  ·subst e0
   cases e1
  ·refine ⟨dd, fs, v, e3, ?_, e1, out.here sim e2⟩
   rcases sim.sub' dd _ e4 with z | ⟨o, _, z⟩
   ·exact z
   ·exact z.elim
 ·refine ⟨fun pins s σ H Q I hh => ?_⟩
  obtain ⟨_, F, S, as, E, C, x, t, sim, rx, _⟩ := hh
  obtain ⟨c, ns, fs, ts, hL, _, _, ec, _⟩ := rx
  exact absurd ⟨(c, ns), hL, ec⟩ h
def hisO (is : List Hi) : T → Option (List T)
 | .obj _ ns vs => mapO (hiT ns vs) is
 | _ => none
theorem jUb : PA (X.suite a ((a, oe) :: pn)) [] (tX L X.K i a cls d (hisO []) (jK0 X.K)) := jGt pa_nil fun σ H Q ⟨_, F, S, as, E, C, x, t, sim, rx, ho, out⟩ => by
 obtain ⟨c, ns, fs, ts, _, _, rfl, _⟩ := rx
 cases ho
 exact out.here sim .nil
theorem jP7 {h : Hi} {is : List Hi} (h1 : PE (X.suite a ((a, oe) :: pn)) e (tX L X.K i a cls d (hiO h) (RepR X.K))) (h2 : PA (X.suite a ((a, oe) :: pn)) es (tX L X.K i a cls d (hisO is) (jK0 X.K)))
  (hs : starEach (e :: es) X.env = (false, eval e X.env) :: starEach es X.env) : PA (X.suite a ((a, oe) :: pn)) (e :: es) (tX L X.K i a cls d (hisO (h :: is)) (jK0 X.K)) :=
 jGt (pa_cons h1 h2 hs) fun σ H Q ⟨hat, F, S, as, E, C, x, t, sim, rx, ho, out⟩ => by
  obtain ⟨c, ns, fs, ts, q1, q2, rfl, q3⟩ := rx
  have ho : (hiT ns.reverse ts h).bind (fun y => (mapO (hiT ns.reverse ts) is).map (y :: ·)) = some t := ho
  obtain ⟨u, e1, ho⟩ := wal.mp ho
  obtain ⟨us, e2, e3⟩ := wae.mp ho
  subst e3
  refine ⟨hat, F, S, as, E, C, _, u, sim, ⟨c, ns, fs, ts, q1, q2, rfl, q3⟩, e1, fun v S1 as1 H1 l1 p1 sim1 r1 => ?_⟩
  refine ⟨hat, F, S1, as1, E, C, _, us, sim1, jPv (H := H) ⟨c, ns, fs, ts, q1, q2, rfl, q3⟩ l1 p1, e2, fun vs S2 as2 H2 l2 p2 sim2 r2 => ?_⟩
  exact out (v :: vs) S2 as2 H2 (l1.trans l2) (p1.trans p2) sim2 (.cons (r1.mono l2 p2) r2)
theorem jGq {α β : Type} {f : α → Option β} : ∀ {l : List α} {r : List β}, mapO f l = some r → r.length = l.length
 | [], r, h => by cases h; rfl
 | x :: l, r, h => by
  have h : (f x).bind (fun y => (mapO f l).map (y :: ·)) = some r := h
  obtain ⟨y, _, h⟩ := wal.mp h
  obtain ⟨ys, e, rfl⟩ := wae.mp h
  simp [jGq e]
theorem jDc {n : Nat} (h : n ≤ 100) : n ≤ sizeLine := by rw [waN]; omega
theorem jYz {is : List Hi} (hl : is.length ≤ 100) (h : PA (X.suite a ((a, oe) :: pn)) es (tX L X.K i a cls d (hisO is) (jK0 X.K))) : PE (X.suite a ((a, oe) :: pn)) (.List es pos) (tX L X.K i a cls d (hbO (.lst is)) (RepR X.K)) := by
 refine jAq (pe_lst h) fun σ H Q ⟨hat, F, S, as, E, C, x, t, sim, rx, ho, out⟩ => ?_
 obtain ⟨c, ns, fs, ts, q1, q2, rfl, q3⟩ := rx
 have ho : (mapO (hiT ns.reverse ts) is).map .lst = some t := ho
 obtain ⟨us, e1, rfl⟩ := wae.mp ho
 refine ⟨hat, F, S, as, E, C, _, us, sim, ⟨c, ns, fs, ts, q1, q2, rfl, q3⟩, e1, fun vs S1 as1 H1 l1 p1 sim1 r1 => ?_⟩
 have z : vs.length ≤ sizeLine := by rw [r1.length, jGq e1]; exact jDc hl
 refine ⟨z, fun p hp => ?_⟩
 have out1 : Out X.K (fun _ _ _ _ _ _ _ => False) (fun _ _ _ _ => False) F σ E (.ok (.lst us) C) (RepR X.K) S1 as1 Q := fun v S2 as2 H2 l2 p2 => out v S2 as2 H2 (l1.trans l2) (p1.trans p2)
 exact (Out.settle out1).newL sim1 hp z r1
theorem jYa {is : List Hi} {kk : Nat} (hl : is.length ≤ 100) (h : PA (X.suite a ((a, oe) :: pn)) es (tX L X.K i a cls d (hisO is) (jK0 X.K))) : PE (X.suite a ((a, oe) :: pn)) (.Tuple es kk pos) (tX L X.K i a cls d (hbO (.tup is)) (RepR X.K)) := by
 refine jAq (jK9 h) fun σ H Q ⟨hat, F, S, as, E, C, x, t, sim, rx, ho, out⟩ => ?_
 obtain ⟨c, ns, fs, ts, q1, q2, rfl, q3⟩ := rx
 have ho : (mapO (hiT ns.reverse ts) is).map .tup = some t := ho
 obtain ⟨us, e1, rfl⟩ := wae.mp ho
 refine ⟨hat, F, S, as, E, C, _, us, sim, ⟨c, ns, fs, ts, q1, q2, rfl, q3⟩, e1, fun vs S1 as1 H1 l1 p1 sim1 r1 => ?_⟩
 have z : vs.length ≤ sizeLine := by rw [r1.length, jGq e1]; exact jDc hl
 have out1 : Out X.K (fun _ _ _ _ _ _ _ => False) (fun _ _ _ _ => False) F σ E (.ok (.tup us) C) (RepR X.K) S1 as1 Q := fun v S2 as2 H2 l2 p2 => out v S2 as2 H2 (l1.trans l2) (p1.trans p2)
 exact ⟨z, (Out.settle (σ := σ) out1).newT sim1 z r1⟩
theorem jYw {t : T} {v : V} (h : PE (X.suite a ((a, oe) :: pn)) e (tC v)) (r : ∀ S as, Rep X.K S as v t) : PE (X.suite a ((a, oe) :: pn)) e (tX L X.K i a cls d (hbO (.con t)) (RepR X.K)) :=
 jAq h fun σ H Q ⟨_, F, S, as, E, C, x, t', sim, rx, ho, out⟩ => by
  obtain ⟨c, ns, fs, ts, _, _, rfl, _⟩ := rx
  cases ho
  exact out.here sim (r S as)
def tSu (L : List (Str × List Str)) (K : PySem.W.Frag) (i : Option Nat) (o : T → Option T) : Addr → Value → Option Addr → TS := fun a cls d D σ H => tX L K i a cls d o (RepR K) σ H D.rt
theorem jYi {o : T → Option T} (h : PE (X.suite a ((a, oe) :: pn)) e (tX L X.K i a cls d o (RepR X.K))) : PSs (X.suite a ((a, oe) :: pn)) [.Return (some e) pos] (tSu L X.K i o a cls d) := jJ0 (pss_one (ps_ret h)) fun D σ H q => q
end
theorem Sim.anyS {K : PySem.W.Frag} {F S : Hp} {as : List Addr} {H : Hp} {C : jAa} (s : Sim K F S as [] H [] C) (σ : L2.St) : Sim K F S as σ H [] C :=
 ⟨s.sub', s.nof, s.frm, fun i t e => by simp at e, fun i t e => by simp at e, fun i j t t' a e => by simp at e, s.cl, s.ce, s.nd, wa4 _, fun a q w e => ⟨(s.pn a q w e).1, fun i t e => by simp at e⟩, s.tb⟩
theorem jN8 {K : PySem.W.Frag} {F S : Hp} {as : List Addr} {σ : L2.St} {H : Hp} {E : Env} {C : jAa} (s : Sim K F S as σ H E C) : Sim K F S as [] H [] C :=
 ⟨s.sub', s.nof, s.frm, fun i t e => by simp at e, fun i t e => by simp at e, fun i j t t' a e => by simp at e, s.cl, s.ce, s.nd, waK _, fun a q w e => ⟨(s.pn a q w e).1, fun i t e => by simp at e⟩, s.tb⟩
section
variable {L : List (Str × List Str)} {K : PySem.W.Frag}
theorem jZ8 {i : Option Nat} {o : T → Option T} {a : Addr} {cls : Value} {d : Option Addr} {D : Ends} {σ : L2.St} {H : Hp} (h : tSuX L K i o a cls d D σ H) : tSu L K i o a cls d D σ H := by
 obtain ⟨hat, F, S, as, C, x, t, sim, rx, ho, out⟩ := h
 exact ⟨hat, F, S, as, [], C, x, t, sim.anyS _, rx, ho, fun v S1 as1 H1 l1 p1 sim1 r1 => out v S1 as1 H1 l1 p1 (jN8 sim1) r1⟩
theorem jQ7 {h1 hs : List Hd} {c : Str} {ns : List Str} {vs : List T} : hdsO (h1 ++ hs) (.obj c ns vs) = if (h1.any fun h => h.cs.contains c) = true then hdsO h1 (.obj c ns vs) else hdsO hs (.obj c ns vs) := by
 induction h1 with
 | nil => rfl
 | cons h r ih =>
  show (if h.cs.contains c then hbT ns vs h.b else hdsO (r ++ hs) (.obj c ns vs)) = if (h.cs.contains c || r.any fun h => h.cs.contains c) = true then (if h.cs.contains c then hbT ns vs h.b else hdsO r (.obj c ns vs)) else _
  by_cases e : h.cs.contains c = true
  ·rw [if_pos e, if_pos (by rw [e]; rfl), if_pos e]
  ·rw [if_neg e, ih]
   have e' : h.cs.contains c = false := by simpa using e
   simp only [e', Bool.false_or, wa2, if_false]
theorem jU1 {h1 hs : List Hd} {c : Str} : ((h1 ++ hs).any fun h => h.cs.contains c) = ((h1.any fun h => h.cs.contains c) || hs.any fun h => h.cs.contains c) := List.any_append
theorem j1n {n : Nat} {l : List Cl} {hs : List Hd} {S : Hp} {as : List Addr} {cls : Value} {d : Option Addr} {x : T} {H : Hp} {D : Ends} {σ : L2.St} {W0 : WX} (k : CLnk L K n l hs) (rx : rxE L K S as cls d x H) (hx : jJy hs x = false) (w : W0 cls d σ H) : wCW K D W0 l cls d σ H := by
 induction k with
 | nil => exact w
 | @blk c l h1 hs o hc ht ho hi r ih =>
  obtain ⟨q, ns, fs, ts, hL, hfs, rfl, rfl, rr, dd⟩ := rx
  have hx : ((h1 ++ hs).any fun h => h.cs.contains q) = false := hx
  rw [jU1, Bool.or_eq_false_iff] at hx
  refine ⟨_, hc _ hL, fun hb => ?_, fun _ => ih hx.2⟩
  rw [hx.1] at hb
  cases hb
theorem j06 {n : Nat} {l : List Cl} {hs : List Hd} {S F : Hp} {as : List Addr} {cls : Value} {d : Option Addr} {x t : T} {H : Hp} {C : jAa} {D : Ends} {Q : VK} {σ : L2.St} {W0 : WX} (hn : σ.length = n) (k : CLnk L K n l hs) (hD : D.rt = Q) (rx : rxE L K S as cls d x H) (hx : hdsO hs x = some t) (sim : Sim K F S as [] H [] C)
  (out : Out K (fun _ _ _ _ _ _ _ => False) (fun _ _ _ _ => False) F [] [] (.ok t C) (RepR K) S as Q) : wCW K D W0 l cls d σ H := by
 induction k with
 | nil => cases hx
 | @blk c l h1 hs o hc ht ho hi r ih =>
  have rx0 := rx
  obtain ⟨q, ns, fs, ts, hL, hfs, rfl, rfl, rr, dd⟩ := rx
  rw [jQ7] at hx
  refine ⟨_, hc _ hL, fun hb a ha => ?_, fun hb => ?_⟩
  ·rw [if_pos hb] at hx
   have hrt : (unN c.i D).rt = Q := by
    unfold unN
    split <;> exact hD
   refine ht ?_
   show tSuX L K c.i o a _ d (unN c.i D) _ H
   unfold tSuX
   rw [hrt]
   refine ⟨fun j e => ?_, F, S, as, C, _, t, sim, rx0, ?_, out⟩
   ·rw [e]
    show (σ.set j (some (.ref a)))[j]? = _
    rw [wan (by rw [hn]; exact hi j e)]
   ·rw [ho _ hL ts hb]
    exact hx
  ·rw [if_neg (by rw [hb]; decide)] at hx
   exact ih hx
end
section
variable {X : Cx} {s : Shared} {H : Hp} {σ : L2.St} {pins : List (Addr × Obj)}
theorem evT {hs : List Hd} {f : Str} {e : Ex} {Φ : Calls} {E : Env} : ev Φ (.told f hs e) E = jVk hs (ev Φ e E) fun t => Φ ("!", f) [t] := rfl
variable {L : List (Str × List Str)} {W : WX} {Φ : Calls} {k : Nat}
end
def minF (Φ : Calls) (i : Nat) (xb : Ex) (E : Env) (t : T) : M (List T) := M.bind (ev Φ xb (E.set i (.sh t))) fun n => M.pure [n]
theorem j17 (Φ : Calls) (E : Env) (xa : Ex) (i : Nat) (xb : Ex) : ev Φ (.minBy xa i xb) E = M.bind (ev Φ xa E) fun x => M.bind (lift "minBy" (lstT x)) fun xs => M.bind (jAh (jA1 (minF Φ i xb E) xs)) fun ns => lift "minBy" (minT xs ns) := rfl
section
variable {X : Cx} {o e : Expr} {apos cpos pos : Pos} {rx : RX} {W : WX} {Φ : Calls} {xo xe : Ex}
theorem jJ1 (ho : PE X o (DW X.K rx W Φ xo)) (he : PE X e (DW X.K rx W Φ xe)) (hbase : attributeBase o "join" X.env (eval o X.env) = eval o X.env) (hline : (apos.endLine == cpos.line) = true) (hs : starEach [e] X.env = (false, eval e X.env) :: starEach [] X.env) :
  PE X (.Call (.Attribute o "join" apos) [e] [] cpos) (DE X.K rx W Φ (.bm .join xo (.cons xe .nil))) := by
 refine jAq (pe_join ho he hs hbase hline) fun σ H Q ⟨F, S, as, E, C, sim, no, out⟩ => ?_
 rw [jFo] at out
 refine ⟨F, S, as, E, C, sim, no.left, out.bind fun v t S1 as1 H1 C1 l1 p1 sim1 r1 out1 => ?_⟩
 obtain ⟨hk, out2⟩ := out1.needB
 have rv := r1.vw sim1
 cases rv with
 | @str a g =>
  refine ⟨⟨a, rfl⟩, F, S1, as1, E, C1, sim1, no.right.left, out2.bind fun w u S2 as2 H2 C2 l2 p2 sim2 r2 out3 => ?_⟩
  obtain ⟨t3, ht, out4⟩ := out3.lift
  simp only [bmT] at ht
  obtain ⟨ts, hts, ht⟩ := wal.mp ht
  obtain ⟨ys, hys, ht⟩ := wal.mp ht
  split at ht
  ·rename_i hz
   cases ht
   simp only [wab, wac] at hz
   obtain ⟨⟨z1, z2⟩, z3⟩ := hz
   have rw_ := r2.vw sim2
   have hz : (ys.map (·.length)).sum + ys.length * a.length ≤ 16777216 := by omega
   have gj : SG (Txt.join a ys) := ⟨jAp z2, z3⟩
   cases rw_ with
   | @lst p vs ts' q z rs =>
    cases hts
    exact ⟨a, p, ys, rfl, rfl, .inl (.inl (by rw [← jDl rs hys]; exact q)), hz, out4.here sim2 (.str gj)⟩
   | @tup p vs ts' q z rs =>
    cases hts
    exact ⟨a, p, ys, rfl, rfl, .inr (by rw [← jDl rs hys]; exact sim2.sqT q), hz, out4.here sim2 (.str gj)⟩
   | _ => cases hts
  ·cases ht
 | _ => first | (cases hk; done) | (simp only [bmK] at hk; cases hk; done)
end
theorem j39 (Φ : Calls) (E : Env) (o : Ex) (c m : Str) (pl : List PArg) (es : Exs) : ev Φ (.methk o c m pl es) E = M.bind (ev Φ o E) fun x => M.bind (deref x) fun y => M.bind (need "meth" (isM c m y)) fun _ => M.bind (evS Φ es E) fun ts => M.bind (lift "pick" (pick ts pl)) fun us => Φ (c, m) (x :: us) := rfl
theorem jVi (Φ : Calls) (E : Env) (c m : Str) (e : Ex) : ev Φ (.own1 c m e) E = M.bind (ev Φ e E) fun x => jK6 Φ c m x := rfl
theorem j6w (Φ : Calls) (E : Env) (es : Exs) : ev Φ (.fstr es) E = M.bind (evF Φ es E Str.empty) fun x => M.bind (need "fstr" (PyData.strOk x)) fun _ => M.pure (.str x) := rfl
theorem Room.in2 {k : Nat} {A : Around} (r : Room (k + 1) A) : Room k A.in1.in1 :=
 ⟨r.hd, by have := r.dp; show A.depth + 3 * k + 5 < _; omega, by have := r.un; show A.units + 1 + 1 + 16 * k + 200 < _; omega⟩
section
variable {prog : Program} {w : World} {A : Around} {E : Value → Shared → Prop} {s : Shared}
theorem jK8 {v : Value} {Q : Value → Shared → Prop} (h : wpAny (model prog w) A.in1.in1 (Builtin.Str.strOf v) (fun r s' => ∃ m tk, r = .str m tk ∧ Q (.str m tk) s') E s) : wpAny (model prog w) A (PySem.call (.type "str") [v]) Q E s := by
 have gN : ∀ R : Result → Shared → Prop, (∀ m tk s', Q (.str m tk) s' → R (.ok (.ret (.str m tk))) s') → (∀ e s', E e s' → R (.error e) s') →
   wpAny (model prog w) A.in1.in1 (Builtin.«str.__new__» ⟨[.type "str", v], []⟩) (fun fin s' => match fin with | .done f => R (.ok f) s' | .again c' => c'.quiet = true ∧ codeAny (model prog w) A.in1 c' R s') (fun e s' => R (.error e) s') s := fun R k1 k2 => by
  rw [str_new_tree v]
  refine wao (waH ?_)
  refine wao (wpAny_of_eq isSubtype_str_str ?_)
  exact wao (wpAny_mono h (fun r s' ⟨m, tk, e, q⟩ => by subst e; exact waH (k1 m tk s' q)) fun e s' z => k2 e s' z)
 obtain ⟨c0, l0, m0⟩ := wbi.mro
 have g1 := wbi.made
 have g2 := wbi.sub
 have g3 := wbi.notType
 have g4 := wbi.canCreate
 have g5 := F.typeCall_str_1 v
 refine wbs (codeAny_of_tree (show wpAny _ _ (callAny (.type "str") _) _ _ _ from waH ⟨Code.quiet_builtin _ (by decide +kernel), codeAny_builtin F.entry_type_call ?_⟩))
 rw [Around.under_plain (weight_type_call_type "str" [v] []) (units_type_call_type "str" [v] [])]
 repeat (any_goals (first | wp_step | assumption))
 refine wa9 (codeAny_call_builtin (R := fun r s' => (∃ m tk, r = .ok (.ret (.str m tk)) ∧ Q (.str m tk) s') ∨ ∃ e, r = .error e ∧ E e s') wbi.plain F.entry_str_new (wpAny_of_eq (F.newCall_str_1 v) (gN (fun r s' => (∃ m tk, r = .ok (.ret (.str m tk)) ∧ Q (.str m tk) s') ∨ ∃ e, r = .error e ∧ E e s') (fun m tk s' q => .inl ⟨m, tk, rfl, q⟩) fun e s' z => .inr ⟨e, rfl, z⟩))) fun r s' hr => ?_
 rcases hr with ⟨m, tk, rfl, q⟩ | ⟨e, rfl, z⟩
 case inr => exact z
 have g6 := wbi.init.lookup
 have g7 := wbi.init.bind (.str m tk)
 have g8 : s'.TypeIs (.str m tk) "str" := typeIs_str _ _ _
 repeat (any_goals (first | wp_step | assumption))
 refine wa9 (codeAny_call_builtin (R := fun r s2 => r = .ok (.ret .none) ∧ Q (.str m tk) s2) wbi.init.plain F.entry_object_init (wbi.init.check _ _ _ _ _ _ _ _ g8 (F.args_object_init_2 _ v) (object_init_meets g6 g1 (by decide) prog w A.in1 (fun r s2 => r = .ok (.ret .none) ∧ Q (.str m tk) s2) s' ⟨g8, rfl, q⟩))) fun r2 s2 hr2 => ?_
 obtain ⟨rfl, q2⟩ := hr2
 repeat (any_goals (first | wp_step | assumption))
end
section
variable {X : Cx} {rx : RX} {W : WX} {Φ : Calls} {CX : CXT} {k : Nat} {ps : List Str} {c : Str} {a : Expr} {xa : Ex} {pos p : Pos}
theorem jWf {fa : Addr} {dT : List T} {x : Str} {pins : List (Addr × Obj)} {σ : L2.St} {H : Hp} {s : Shared} {Q : VK} {us : List Value} {vs : List V} (Fn : jB6 X.prog X.w X.K X.mg X.base CX k fa ps dT (spM X.K rx ps.length (Φ (c, x)))) (hr : Room (k + 1) X.A) (hgd : X.A.guards = some [])
  (hx : ∀ σ, PassesAt CX X σ fun _ _ _ => False) (ok : plOk ps ps.length [] dT.length (idPl ps.length) = true) (I : Inv X pins σ H s) (hl : us.length = ps.length) (r : Vals vs us) (h : spM X.K rx ps.length (Φ (c, x)) vs H Q fun _ _ _ => False) :
  wpAny (model X.prog X.w) X.A.in1.in1 (PySem.call (.ref fa) us) (EP X pins σ Q) X.xe s := by
 obtain ⟨fd, dvs, dl, fn, rd, rT, hb⟩ := Fn.ex
 refine wbs (wa9 (fn.run X.A.in1.in1 X.stack s H ⟨us, []⟩ us vs Q (fun _ _ _ => False) (Room.in2 hr) hgd I.env0.in1.in1 ?_ r h) fun r s' hq => ?_)
 ·refine hb s us [] us ps.length [] (idPl ps.length) I.kIn hl rfl ok ?_
  have h : ∀ (m k : Nat), k + m = us.length → jAt us dl ((List.range' k m).map .arg) = some (us.drop k) := by
   intro m
   induction m with
   | zero =>
    intro k e
    rw [wbc (by omega)]
    rfl
   | succ m ih =>
    intro k e
    have hk : k < us.length := by omega
    rw [List.range'_succ, war, jAt, ih (k + 1) (by omega), wad hk, waF hk]
    rfl
  have := h us.length 0 (by omega)
  rw [← List.range_eq_range', List.drop_zero] at this
  rw [waL, ← hl]
  exact this
 ·rcases jLi I (hx σ) hq with ⟨u, e, q⟩ | ⟨e, e1, q⟩
  ·subst e; exact q
  ·subst e1; exact q
theorem jLd (hM : MtOk X.prog X.w X.K X.mg X.base CX k rx Φ c "__str__" ps) (hl : ps.length = 1) (hr : Room (k + 1) X.A) (hgd : X.A.guards = some []) (hx : ∀ σ, PassesAt CX X σ fun _ _ _ => False) :
  CallR X (.type "str") (fun vs H Q => ∃ (a dx : Addr) (fs : List (Str × V)), vs = [.ref a] ∧ H a = some (.ins (ca X.K c) dx fs) ∧ spM X.K rx ps.length (Φ (c, "__str__")) [.ref a] H (fun v H1 => ∃ x : Str, v = .str x ∧ Q (.str x) H1) fun _ _ _ => False) := by
 obtain ⟨⟨fa, dT, cl, hm, ok, ht, Fn⟩, _, _⟩ := hM
 intro pins s σ H xs us Q I rv h
 obtain ⟨a, dx, fs, rfl, ea, q⟩ := h
 obtain ⟨u, rfl, ru⟩ := vals1 rv
 cases ru
 obtain ⟨mA, O, _, _, _, _⟩ := ins_get I.hok ea
 obtain ⟨od, J, _⟩ := O.look
 refine jK8 ?_
 unfold Builtin.Str.strOf
 rw [show Builtin.Str.isExactStr (Value.ref a) = false from rfl]
 refine wao (m := cRoomFor _ _) (wpAny_cRoomFor (by have := hr.un; show X.A.units + 1 + 1 < cLine; omega) ?_)
 refine wao (m := callSpecial? (.ref a) (Str.ofString "__str__")) (jKi I.kIn J hm.at_ ht (wpAny_mono (jWf Fn hr hgd hx ok I (by rw [hl]; rfl) (.cons (show RelV (V.ref a) (Value.ref a) from rfl) .nil) q) (fun v s' hv => ?_) fun _ _ z => z))
 obtain ⟨z, H1, I1, rz, x, rfl, q1⟩ := hv
 obtain ⟨t, rfl⟩ := rz
 exact waH ⟨x, t, rfl, .str x, H1, I1, ⟨t, rfl⟩, q1⟩
end
theorem zBe (Φ : Calls) (E : Env) (cs : List Str) (a b : Ex) : ev Φ (.eqo cs a b) E = M.bind (ev Φ a E) fun x => M.bind (ev Φ b E) fun y => eqoM Φ cs x y := rfl
theorem zA9 (Φ : Calls) (E : Env) (ne : Bool) (c : Str) (ks : List Str) (a b : Ex) : ev Φ (.eqc ne c ks a b) E = M.bind (ev Φ a E) fun x => M.bind (ev Φ b E) fun y => eqcM Φ ne c ks x y := rfl
theorem j4y (Φ : Calls) (E : Env) (c : Str) (e : Ex) : ev Φ (.ownb c e) E = M.bind (ev Φ e E) fun x => jZ1 Φ c x := rfl
theorem j65 (Φ : Calls) (E : Env) (c : Str) (e : Ex) : ev Φ (.ownr c e) E = M.bind (ev Φ e E) fun x => j0b Φ c x := rfl
theorem j6s (Φ : Calls) (E : Env) (c : Str) (e : Ex) : ev Φ (.ownl c e) E = M.bind (ev Φ e E) fun x => jXz Φ c x := rfl
section
variable {X : Cx} {rx : RX} {W : WX} {Φ : Calls} {CX : CXT} {k : Nat} {ps : List Str} {c : Str} {a : Expr} {xa : Ex} {pos p : Pos}
theorem jHu {i : Int} (h : i.natAbs.log2 < 1920) : (Str.ofString (toString i)).length ≤ sizeLine := by
 have hb : i.natAbs < 10 ^ 600 := by
  by_cases z : i.natAbs = 0
  ·rw [z]; exact Nat.pow_pos (by decide)
  ·exact waW ((Nat.log2_lt z).mp h) (by decide +kernel)
 have hs : 601 ≤ sizeLine := by rw [waN]; decide
 have hp : ((10 ^ 600 : Nat) : Int) = (10 : Int) ^ 600 := Int.natCast_pow 10 600
 have h2 := PyProof.Rows.toString_length_le (v := (i.natAbs : Int)) (Int.natCast_nonneg _) (k := 600) (by decide) (by rw [← hp]; exact Int.ofNat_lt.mpr hb)
 cases i with
 | ofNat n => exact wau h2 (wau (by decide) hs)
 | negSucc n =>
  have e : toString (Int.negSucc n) = "-" ++ toString ((Int.negSucc n).natAbs : Int) := rfl
  rw [e]
  refine wau ?_ hs
  rw [PyProof.Rows.ofString_length] at h2 ⊢
  rw [String.toList_append, wav]
  have : ("-" : String).toList.length = 1 := by decide
  omega
theorem jWm : CallR X (.type "str") (rBi X.K rx W .str) := by
 refine jIm (crOr L2.call_str_int SkE.call_str_str) fun vs H Q h => ?_
 obtain ⟨F, S, as, σ, E, C, ts, t, sim, r, ht, out⟩ := h
 cases r with
 | nil => cases ht
 | cons r1 rs =>
  cases rs with
  | cons => cases r1 <;> cases ht
  | nil =>
   cases r1 <;> first | (cases ht; done) | skip
   ·rename_i i
    have ht : (if decide (i.natAbs.log2 < 1920) then some (T.str (toString i : String)) else none) = some t := ht
    split at ht
    ·rename_i hz
     cases ht
     have hz := waC hz
     exact .inl ⟨_, rfl, hz, out.old sim (.str ⟨jHu hz, jAb _⟩) (fun _ e => nomatch e) fun _ _ e => nomatch e⟩
    ·cases ht
   ·rename_i g
    cases ht
    exact .inr ⟨_, rfl, out.old sim (.str g) (fun _ e => nomatch e) fun _ _ e => nomatch e⟩
end
theorem j8v (Φ : Calls) (E : Env) (c m : Str) (pl : List PArg) (es : Exs) : ev Φ (.clsm c m pl es) E = M.bind (evS Φ es E) fun ts => M.bind (lift "pick" (pick ts pl)) fun us => Φ (c, m) (.cls c :: us) := rfl
theorem j44 (Φ : Calls) (E : Env) (i : Nat) (c : Str) (pl : List PArg) (es : Exs) : ev Φ (.newv i c pl es) E = M.bind (need "newv" (jN7 E i c)) fun _ => ev Φ (.new c pl es) E := rfl
section
variable {X : Cx} {rx : RX} {W : WX} {Φ : Calls} {CX : CXT} {k : Nat} {fa : Addr} {ps ks : List Str} {dT : List T} {es : List Expr} {kws : List Keyword} {xs : Exs} {x : Str} {p pos : Pos} {plm : List PArg}
theorem j64 (Φ : Calls) (E : Env) (x : Str) (D : List (Str × Int)) (e : Ex) : ev Φ (.getc x D e) E = M.bind (ev Φ e E) fun t => M.bind (lift "getc" (strT t)) fun k => M.pure (jY6 D k) := rfl
end
theorem jEo {K : PySem.W.Frag} {S : Hp} {as : List Addr} : ∀ {ys : List Str}, (ys.all fun y => szOk y.length && PyData.strOk y) = true → Reps K S as (ys.map V.str) (ys.map T.str)
 | [], _ => .nil
 | y :: ys, h => by
  rw [waR, wab, wab] at h
  exact .cons (.str ⟨jAp h.1.1, h.1.2⟩) (jEo h.2)
section
variable {X : Cx} {o e : Expr} {apos cpos pos : Pos} {rx : RX} {W : WX} {Φ : Calls} {xo xe : Ex}
theorem jG5 (ho : PE X o (DW X.K rx W Φ xo)) (he : PE X e (DW X.K rx W Φ xe)) (hbase : attributeBase o "split" X.env (eval o X.env) = eval o X.env) (hline : (apos.endLine == cpos.line) = true) (hs : starEach [e] X.env = (false, eval e X.env) :: starEach [] X.env) :
  PE X (.Call (.Attribute o "split" apos) [e] [] cpos) (DF X.K rx W Φ (.bm .split xo (.cons xe .nil))) := by
 refine jAq (pe_split ho he hs hbase hline) fun σ H Q ⟨F, S, as, E, C, sim, no, out⟩ => ?_
 rw [jFo] at out
 refine ⟨F, S, as, E, C, sim, no.left, out.bind fun v t S1 as1 H1 C1 l1 p1 sim1 r1 out1 => ?_⟩
 obtain ⟨hk, out2⟩ := out1.needB
 have rv := r1.vw sim1
 cases rv with
 | @str a g =>
  refine ⟨⟨a, rfl⟩, F, S1, as1, E, C1, sim1, no.right.left, out2.bind fun w u S2 as2 H2 C2 l2 p2 sim2 r2 out3 => ?_⟩
  obtain ⟨t3, ht, out4⟩ := out3.lift
  have rw_ := r2.vw sim2
  cases rw_ with
  | @str b gb =>
   simp only [bmT] at ht
   split at ht
   ·rename_i hz
    cases ht
    simp only [wab, wac] at hz
    obtain ⟨⟨z1, z2⟩, z3, z4⟩ := hz
    refine ⟨a, b, rfl, rfl, by simp; omega, jAp z2, fun p hp => ?_⟩
    exact out4.newL sim2 hp (by rw [waw]; exact jAp z3) (jEo z4)
   ·cases ht
  | _ => first | (cases ht; done) | (simp only [bmT] at ht; cases ht; done)
 | _ => first | (cases hk; done) | (simp only [bmK] at hk; cases hk; done)
theorem jFr (ho : PE X o (DW X.K rx W Φ xo)) (he : PE X e (DW X.K rx W Φ xe)) (hbase : attributeBase o "count" X.env (eval o X.env) = eval o X.env) (hline : (apos.endLine == cpos.line) = true) (hs : starEach [e] X.env = (false, eval e X.env) :: starEach [] X.env) :
  PE X (.Call (.Attribute o "count" apos) [e] [] cpos) (DE X.K rx W Φ (.bm .countS xo (.cons xe .nil))) := by
 refine jAq (pe_m1 PySem.F.slot_str_count PySem.F.type_str_count mt_count ho he hs hbase hline) fun σ H Q ⟨F, S, as, E, C, sim, no, out⟩ => ?_
 rw [jFo] at out
 refine ⟨F, S, as, E, C, sim, no.left, out.bind fun v t S1 as1 H1 C1 l1 p1 sim1 r1 out1 => ?_⟩
 obtain ⟨hk, out2⟩ := out1.needB
 have rv := r1.vw sim1
 cases rv with
 | @str a g =>
  refine ⟨⟨a, rfl⟩, F, S1, as1, E, C1, sim1, no.right.left, out2.bind fun w u S2 as2 H2 C2 l2 p2 sim2 r2 out3 => ?_⟩
  obtain ⟨t3, ht, out4⟩ := out3.lift
  have rw_ := r2.vw sim2
  cases rw_ with
  | @str b gb =>
   simp only [bmT] at ht
   cases ht
   exact ⟨a, b, rfl, rfl, out4.here sim2 (.int _)⟩
  | _ => first | (cases ht; done) | (simp only [bmT] at ht; cases ht; done)
 | _ => first | (cases hk; done) | (simp only [bmK] at hk; cases hk; done)
theorem jG0 (ho : PE X o (DW X.K rx W Φ xo)) (hbase : attributeBase o "upper" X.env (eval o X.env) = eval o X.env) (hline : (apos.endLine == cpos.line) = true) :
  PE X (.Call (.Attribute o "upper" apos) [] [] cpos) (DE X.K rx W Φ (.bm .upper xo .nil)) := by
 refine jAq (pe_upper ho hbase hline) fun σ H Q ⟨F, S, as, E, C, sim, no, out⟩ => ?_
 rw [jZl] at out
 refine ⟨F, S, as, E, C, sim, no.left, out.bind fun v t S1 as1 H1 C1 l1 p1 sim1 r1 out1 => ?_⟩
 obtain ⟨hk, out2⟩ := out1.needB
 have rv := r1.vw sim1
 cases rv with
 | @str a g =>
  obtain ⟨t3, ht, out4⟩ := out2.lift
  simp only [bmT] at ht
  split at ht
  ·rename_i hz
   cases ht
   simp only [wab, wac] at hz
   exact ⟨⟨a, rfl⟩, a, rfl, rfl, by omega, out4.here sim1 (.str ⟨jAp hz.1.2, hz.2⟩)⟩
  ·cases ht
 | _ => first | (cases hk; done) | (simp only [bmK] at hk; cases hk; done)
end
theorem zBo (Φ : Calls) (E : Env) (ne : Bool) (c r : Str) (a b : Ex) : ev Φ (.eqi ne c r a b) E = M.bind (ev Φ a E) fun x => M.bind (ev Φ b E) fun y => eqiM Φ ne c r x y := rfl
theorem jYq (Φ : Calls) (n : Nat) (E : Env) (x : Nat) (ks : List Nat) (es : Exs) : ex Φ n (.setIxs x ks es) E = M.bind (evS Φ es E) fun ts => M.bind (atX E x) fun p => M.bind (lift "setIxs" (lstT p.1)) fun xs => M.bind (need "setIxs" (decide (ks.length = ts.length) && ks.all (fun k => decide (k < xs.length)))) fun _ => M.bind (p.2 (.lst ((ks.zip ts).foldl (fun a p => a.set p.1 p.2) xs))) fun E' => M.pure (.nx E') := rfl
def jX0 : T → M (List T)
 | .dic ks _ => M.pure (ks.map keyU)
 | _ => stuck "keys"
theorem j7x (Φ : Calls) (E : Env) (e : Ex) : evR Φ (.kys e) E = M.bind (ev Φ e E) jX0 := by
 show M.bind (ev Φ e E) _ = _
 congr 1
theorem j5s (Φ : Calls) (E : Env) (c : Str) (a b : Ex) : ev Φ (.own2 c a b) E = M.bind (ev Φ a E) fun x => M.bind (ev Φ b E) fun y => j0a Φ c x y := rfl
theorem j29 (Φ : Calls) (E : Env) (ne : Bool) (c : Str) (a b : Ex) : ev Φ (.ownin ne c a b) E = M.bind (ev Φ a E) fun x => M.bind (ev Φ b E) fun y => jTc Φ ne c x y := rfl
theorem jYv (Φ : Calls) (n : Nat) (E : Env) (c : Str) (o i e : Ex) : ex Φ n (.setOwn c o i e) E = M.bind (ev Φ e E) fun t => M.bind (ev Φ o E) fun x => M.bind (ev Φ i E) fun k => M.bind (deref x) fun y => M.bind (need "setOwn" (isC c y)) fun _ => M.bind (Φ (c, "__setitem__") [x, k, t]) fun _ => M.pure (.nx E) := rfl
section
variable {X : Cx} {rx : RX} {W : WX} {Φ : Calls} {CX : CXT} {k : Nat} {c : Str} {a b e : Expr} {xa xb xe : Ex} {pos p spos : Pos} {n : Nat}
theorem jQ8 {us dl : List Value} : jAt us dl (idPl us.length) = some us := by
 have h : ∀ (m k : Nat), k + m = us.length → jAt us dl ((List.range' k m).map .arg) = some (us.drop k) := by
  intro m
  induction m with
  | zero =>
   intro k e
   rw [wbc (by omega)]
   rfl
  | succ m ih =>
   intro k e
   have hk : k < us.length := by omega
   rw [List.range'_succ, war, jAt, ih (k + 1) (by omega), wad hk, waF hk]
   rfl
 have := h us.length 0 (by omega)
 rw [← List.range_eq_range', List.drop_zero] at this
 exact this
structure zD3 (K : PySem.W.Frag) (C : Addr) : Prop where
 sq : PySem.W.noSeq K C = true
end
open PySem.SeqAt PySem.MeetsSeq PySem.Builtin
section
variable {A : Around} {s : Shared}
theorem jFv {l : Addr} {o : Obj} (ho : s.heap.get? l = some o) (hc : o.cls = .type "dict") (hd : ∃ es n, o.data = .dict es n) (b : Str) (u : Tok) (hu : A.units < cLine) : EqAt A s (.ref l) (.str b u) false := fun prog w E Q h => by
 unfold eqBool
 refine wpAny_holding ?_
 refine wpAny_ite_split (fun hab => absurd (eq_of_beq hab) nofun) (fun _ => ?_)
 refine wao (rc_eq_decline_or (k := false) ⟨_, ho, hc⟩ (typeIs_str s b u) (by decide) F.sub_str_dict F.slot_dict_eq F.slot_str_eq_refl
  (fun _ hq => wbd F.slot_dict_eq ⟨_, ho, hc⟩ F.entry_dict_eq (jIy _ _) (jS6 l o hc b u) ⟨ho, hq⟩)
  (fun _ hq => wbd F.slot_str_eq_refl (typeIs_str s b u) F.entry_str_eq (F.args_str_eq_2 _ _) (jRy l o hc hd b u) ⟨ho, hq⟩)
  (fun _ hq => wpAny_of_eq (rfl : isSame (.ref l) (.str b u) = pure false) hq) (.inr hu) (wpAny_truthy_bool h))
end
def jK2 (b : Str) : Value → Bool
 | .str z _ => z == b
 | _ => false
section
variable {X : Cx} {rx : RX} {W : WX} {Φ : Calls} {o e : Expr} {xo xe : Ex} {apos cpos : Pos} {F S : Hp} {as : List Addr} {σ : L2.St} {H : Hp} {E : Env} {C : jAa} {pins : List (Addr × Obj)} {s : Shared} {σ0 : L2.St}
theorem jZ3 (I : Inv X pins σ0 H s) (sim : Sim X.K F S as σ H E C) (hu : X.A.units + 2 < cLine) (b : Str) (u : Tok) {v : V} {t : T} {y : Value} (r : Rep X.K S as v t) (k : plnT t = true) (q : RelV v y) : EqAt X.A.in1 s y (.str b u) (jK2 b y) ∧ jK2 b y = jFi b t := by
 have hu' : X.A.in1.units < cLine := by show X.A.units + 1 < _; omega
 cases r with
 | non => cases q; exact ⟨EqAt.none_str b u, rfl⟩
 | bl a => cases q; exact ⟨EqAt.bool_str a b u, rfl⟩
 | int i => obtain ⟨tk, rfl⟩ := (show ∃ t, y = Value.int i t from q); exact ⟨EqAt.int_str i tk b u, rfl⟩
 | str g => obtain ⟨tk, rfl⟩ := q; exact ⟨EqAt.str_str _ tk b u, rfl⟩
 | tup q0 z rs =>
  cases q
  obtain ⟨its, rv, ht, _⟩ := I.tuple (sim.sqT q0)
  exact ⟨EqAt.tuple_str b u ht hu', rfl⟩
 | lst q0 z rs =>
  cases q
  obtain ⟨its, rv, hl, _⟩ := I.list (.inl (sim.rd q0))
  exact ⟨EqAt.list_str b u hl.isList hu', rfl⟩
 | @dic a kvs ts q0 z g rs =>
  cases q
  cases kvs with
  | cons p r => simp [plnT] at k
  | nil =>
   cases rs
   have d := jJr (n := 1) I (sim.rd q0)
   have rx := d.rx
   have e : toD (.dic [] []) = .dict [] := by simp only [toD]
   rw [e] at rx
   cases rx with
   | dict h1 h2 h3 h4 => exact ⟨jFv h1 h2 ⟨_, _, h3⟩ b u hu', rfl⟩
 | obj => cases k
 | ref => cases k
 | exn => cases k
 | cls => cases k
 | exi => cases k
theorem jLf (I : Inv X pins σ0 H s) (sim : Sim X.K F S as σ H E C) (hu : X.A.units + 2 < cLine) (b : Str) (u : Tok) : ∀ {vs : List V} {ts : List T} {ys : List Value}, Reps X.K S as vs ts → ts.all plnT = true → Vals vs ys → (∀ y ∈ ys, EqAt X.A.in1 s y (.str b u) (jK2 b y)) ∧ ys.countP (jK2 b) = ts.countP (jFi b)
 | _, _, _, .nil, _, .nil => ⟨(fun _ h => nomatch h), rfl⟩
 | _, _, _, .cons r rs, k, .cons q qs => by
  rw [waR, wab] at k
  obtain ⟨a1, a2⟩ := jZ3 I sim hu b u r k.1 q
  obtain ⟨b1, b2⟩ := jLf I sim hu b u rs k.2 qs
  refine ⟨fun y hy => ?_, by rw [List.countP_cons, List.countP_cons, b2, a2]⟩
  rcases waE.mp hy with rfl | hy
  ·exact a1
  ·exact b1 y hy
theorem jMc (hu : X.A.units + 65 < cLine) : MtR X "tuple.count" (fun x xs H Q => ∃ (b : Str) (ts : List T), xs = [.str b] ∧ (∃ F S as σ E C, Sim X.K F S as σ H E C ∧ Vw X.K S as H x (.tup ts)) ∧ ts.all plnT = true ∧ Q (.int (ts.countP (jFi b) : Nat)) H) := by
 rintro pins s σ H x xs v us Q I rx rxs ⟨b, ts, rfl, ⟨F, S, as, σ1, E, C, sim, vw⟩, hp, q⟩
 cases vw with
 | @tup a vs _ q0 z rs =>
  cases rx
  cases rxs with
  | cons ry rt =>
   rename_i uy ut
   cases rt
   obtain ⟨tk, rfl⟩ := ry
   obtain ⟨its, rv, ⟨o, ho, hc, n, hd⟩, hlen⟩ := I.tuple (sim.sqT q0)
   obtain ⟨cls, dd, data, sls⟩ := o
   simp only at hc hd
   subst hc hd
   obtain ⟨k1, k2⟩ := jLf I sim (by omega) b tk rs hp rv
   refine wbd PySem.F.slot_tuple_count ⟨_, ho, rfl⟩ PySem.F.entry_tuple_count (PySem.F.args_tuple_count_2 _ _) (SeqAt.tuple_countAt a its.toArray n dd sls (.str b tk) (jK2 b)) ⟨ho, fun y hy => k1 y (by simpa using hy), ?_⟩
   have e : its.toArray.toList.countP (jK2 b) = ts.countP (jFi b) := k2
   rw [e]
   exact ⟨.int _, H, I.tok _, ⟨_, rfl⟩, q⟩
def tTc (K : PySem.W.Frag) (r : V → List V → Hp → VK → Prop) (to : TE) (t : TA) : TE := fun σ H Q => to σ H fun x H1 => (∃ a ys, x = .ref a ∧ SqN K H1 a ys) ∧ t σ H1 fun xs H2 => r x xs H2 Q
theorem j9v {r : V → List V → Hp → VK → Prop} {t : TA} {to : TE} (hm : MtR X "tuple.count" r) (ho : PE X o to) (ha : PA X [e] t) (hbase : attributeBase o "count" X.env (eval o X.env) = eval o X.env) (hline : (apos.endLine == cpos.line) = true) (hs : starEach [e] X.env = (false, eval e X.env) :: starEach [] X.env) :
  PE X (.Call (.Attribute o "count" apos) [e] [] cpos) (tTc X.K r to t) := by
 refine ⟨fun pins s σ H Q I h => wpAny_Call_method_late hbase (jLo hs) hline rfl (thn (ho.run pins s σ H _ I h) fun v s1 ⟨x, H1, I1, r1, ⟨a, ys, ex, hn⟩, q⟩ => ?_)⟩
 subst ex
 obtain rfl : v = .ref a := r1
 obtain ⟨h1, h2⟩ := jTa I1 hn
 refine ⟨"tuple", "tuple.count", PySem.F.plainAttrs_tuple, PySem.F.slot_tuple_count, PySem.F.type_tuple_count, h1, h2, ?_⟩
 have hA := ha.run cpos pins s1 σ H1 _ I1 q
 rw [hs] at hA ⊢
 exact Calls.callWith_builtin rfl (Calls.evalArgs_plain (thn hA fun us s2 ⟨vs, H2, I2, r2, q2⟩ => hm pins s2 σ H2 (.ref a) vs (.ref a) us Q I2 rfl r2 q2))
theorem jFd (hu : X.A.units + 65 < cLine) (ho : PE X o (DW X.K rx W Φ xo)) (he : PE X e (DW X.K rx W Φ xe)) (hbase : attributeBase o "count" X.env (eval o X.env) = eval o X.env) (hline : (apos.endLine == cpos.line) = true) (hs : starEach [e] X.env = (false, eval e X.env) :: starEach [] X.env) :
  PE X (.Call (.Attribute o "count" apos) [e] [] cpos) (DE X.K rx W Φ (.bm .countT xo (.cons xe .nil))) := by
 refine jAq (j9v (jMc hu) ho (pa_cons he pa_nil hs) hbase hline hs) fun σ H Q ⟨F, S, as, E, C, sim, no, out⟩ => ?_
 rw [jFo] at out
 refine ⟨F, S, as, E, C, sim, no.left, out.bind fun v t S1 as1 H1 C1 l1 p1 sim1 r1 out1 => ?_⟩
 obtain ⟨hk, out2⟩ := out1.needB
 have rv := r1.vw sim1
 cases rv with
 | @tup p vs ts q z rs =>
  refine ⟨⟨p, vs, rfl, sim1.sqN q⟩, F, S1, as1, E, C1, sim1, no.right.left, out2.bind fun w u S2 as2 H2 C2 l2 p2 sim2 r2 out3 => ?_⟩
  obtain ⟨t3, ht, out4⟩ := out3.lift
  have rv2 := (r1.mono l2 p2 (H1 := H2)).vw sim2
  have rw_ := r2.vw sim2
  cases u with
  | str b =>
  have hv : w = .str b := by cases rw_; rfl
  subst hv
  have ht : (if ts.all plnT then some (T.int (ts.countP (jFi b) : Nat)) else none) = some t3 := ht
  split at ht
  ·rename_i hp
   cases ht
   exact ⟨b, ts, rfl, ⟨_, _, _, _, _, _, sim2, rv2⟩, hp, out4.here sim2 (.int _)⟩
  ·cases ht
  | _ => cases ht
 | _ => cases hk
end
end SI
namespace SI
open PySem PySem.Spec PyProof.Rows L2
theorem jU5 {M : Model} {A : Around} {env : PySem.Env} {s : Shared} {a : Expr} {i : Int} {k : Nat} {p pos : Pos} {Q : Value → Shared → Prop} {Er : Value → Shared → Prop} (h : wpAny M A (eval (.Subscript a (.Constant (.int i) k p) pos) env) Q Er s) :
  wpAny M A (eval (.Subscript a (.Constant (.int i) k p) pos) env) (fun v s1 => 1 ≤ s1.toks ∧ Q v s1) Er s := fun Γ p0 hΓ => by
 have h1 := h Γ p0 hΓ
 rw [eval_Subscript, wbo] at h1 ⊢
 refine wbp M Γ _ (fun o p1 s1 h2 => ?_) (fun _ _ _ h => h) p0 s h1
 rw [wbo, Sem.wp_holding] at h2 ⊢
 have key := Sem.wp_toks M Γ 1 (do
  standAt pos
  let r ← subscripted (.Constant (.int i) k p) (← getitemInPython o) o (.int i s1.toks)
  letTemporaryGo a o r
  pure r) _ _ p1 { s1 with toks := s1.toks + 1 } (Nat.le_add_left 1 _) h2
 have k2 := wbp M Γ (do
  standAt pos
  let r ← subscripted (.Constant (.int i) k p) (← getitemInPython o) o (.int i s1.toks)
  letTemporaryGo a o r
  pure r) (post' := fun v _ s' => 1 ≤ s'.toks ∧ Q v s') (exc' := fun e _ s' => Er e s') (fun _ _ _ h => h) (fun _ _ _ h => h.2) _ _ key
 exact k2
section
variable {X : Cx} {a : Expr} {apos cpos p p1 c0 c1 : Pos} {rx : RX} {W : WX} {Φ : Calls} {xo : Ex} {i : Int} {k j0 j1 : Nat} {y z : Str}
theorem jQb (ho : PE X (.Subscript a (.Constant (.int i) k p) p1) (DW X.K rx W Φ xo)) (hyz : (y == z) = false) (hbase : attributeBase (.Subscript a (.Constant (.int i) k p) p1) "replace" X.env (eval (.Subscript a (.Constant (.int i) k p) p1) X.env) = eval (.Subscript a (.Constant (.int i) k p) p1) X.env)
  (hline : (apos.endLine == cpos.line) = true) :
  PE X (.Call (.Attribute (.Subscript a (.Constant (.int i) k p) p1) "replace" apos) [.Constant (.str y) j0 c0, .Constant (.str z) j1 c1] [] cpos) (DE X.K rx W Φ (.bm .repl xo (.cons (.con (.str y)) (.cons (.con (.str z)) .nil)))) := by
 refine ⟨fun pins s σ H Q I ⟨F, S, as, E, C, sim, no, out⟩ => ?_⟩
 rw [jU2] at out
 refine PySem.Call_method2 hbase rfl hline (L2.thn (jU5 (ho.run pins s σ H (fun v H1 => ∃ x, v = .str x ∧ x.length + (x.length + 1) * z.length ≤ 16777216 ∧ Q (.str (Txt.replace x y z)) H1) I ⟨F, S, as, E, C, sim, no.left, out.bind fun v t S1 as1 H1 C1 l1 p1 sim1 r1 out1 => ?_⟩)) fun u s1 h1 => ?_)
 ·obtain ⟨hk, out2⟩ := out1.needB
  have rv := r1.vw sim1
  cases rv with
  | @str x g =>
   have out3 : Out X.K rx W F σ E (lift "bm" (bmT .repl (.str x) [.str y, .str z]) C1) (RepR X.K) S1 as1 Q := out2
   obtain ⟨t3, ht, out4⟩ := out3.lift
   simp only [bmT] at ht
   split at ht
   ·rename_i hz
    cases ht
    simp only [wab, wac] at hz
    exact ⟨x, rfl, hz.1.1.2, out4.here sim1 (.str ⟨jAp hz.1.2, hz.2⟩)⟩
   ·cases ht
  | _ => first | (cases hk; done) | (simp only [bmK] at hk; cases hk; done)
 ·obtain ⟨hk, v, H1, I1, r1, x, rfl, hz, q⟩ := h1
  obtain ⟨tx, rfl⟩ := r1
  refine ⟨"str", _, PySem.F.plainAttrs_str, PySem.F.slot_str_replace, PySem.F.type_str_replace, typeIs_str _ _ _, (fun _ e => nomatch e), Calls.callWith_builtin rfl (Calls.evalArgs_plain (wbh (Calls.Constant_str (wbh (Calls.Constant_str (Calls.spliced_nil ?_))))))⟩
  exact PySem.SC.replace (Nat.ne_of_gt hk) (Nat.succ_ne_zero _) (waY (wa5 _)) hyz hz fun t' k => ⟨.str (Txt.replace x y z), H1, I1.tok k, ⟨t', rfl⟩, q⟩
end
section
variable {Y : Cx} {σ : L2.St} {H : Hp} {s : Shared} {y f c : Str} {a : Addr} {m : Str → Option Value} {E : Value → Shared → Prop} {C dx a1 : Addr} {fs : List (Str × V)} {vs : List V}
theorem jRw {Q : Value → Shared → Prop} {p2 p3 p4 p5 p6 : Pos} (J : Inv Y [] σ H s) (hk : Y.env.scope.kind = .function) (hl : Y.env.kindOf y = some .local) (hd : (y == ("__debug__" : Str)) = false) (hn : s.heap.Ns Y.env.locals m) (hm : m y = some (.ref a)) (hg : Gl Y "len") (hg2 : Y.mg "len" = none)
  (ea : H a = some (.ins C dx fs)) (cl : Cls Y.K C) (no : NoAttr Y.K C f) (lf : fs.lookup f = some (.ref a1)) (q1 : SqT Y.K H a1 vs) (hz : vs.length ≤ sizeLine)
  (h : ∀ u tk, Q (.str (toString (vs.length : Int) : String) u) { s with toks := tk }) : wpAny (model Y.prog Y.w) Y.A (eval (.FormattedValue (.Call (.Name "len" p2) [.Attribute (.Name y p3) f p4] [] p5) (-1) none p6) Y.env) Q E s := by
 have sz : sizeLine = 16777216 := waN
 refine wpAny_FormattedValue_plain ?_
 refine wpAny_Call_Name_kw (ld_blt J hg hg2 (show bootBuiltins "len" = some (.builtin "len") by kernel_rfl) ?_)
 refine PyProof.Rows.callWith_builtin1 ?_ rfl rfl
 show wpAny _ _ (spliced ((false, eval (.Attribute (.Name y p3) f p4) Y.env) :: [])) _ _ _
 refine wbh (attr_of rfl (wpAny_Name (wpAny_loadName_local hk hl hn hm ?_) hd))
 obtain ⟨mA, O, r, _, _, _⟩ := ins_get J.hok ea
 obtain ⟨u, hu, ru⟩ := RelO.some_of (v := .ref a1) (o := mA f) (by rw [← lf]; exact r f)
 refine get_map J.kIn O (cl.get f) cl.hd no hu (handed_of ru) ?_
 obtain rfl : u = Value.ref a1 := ru
 refine Calls.spliced_nil ?_
 obtain ⟨its, rv, ht, hz1⟩ := (J.tok (s.toks + 1)).tuple q1
 have hlen := rv.length
 refine len_tuple ht (by simp only [waI]; omega) ?_
 have e : (its.toArray.size : Int) = (vs.length : Int) := by rw [waI, hlen]
 rw [e]
 refine wpAny_formatField_int ?_ (h _ _)
 have : vs.length < 2 ^ 1920 := Nat.lt_of_le_of_lt hz (by rw [sz]; decide)
 show (vs.length : Int).natAbs.log2 < 1920
 rw [Int.natAbs_natCast]
 by_cases z : vs.length = 0
 ·rw [z]; decide
 ·exact (Nat.log2_lt z).mpr this
end
theorem jIu (a b : Str) : a.length ≤ (a ++ b).length := by rw [strLen_append]; omega
section
variable {Y : Cx} {σ : L2.St} {H : Hp} {s : Shared} {y f1 f2 c1 c2 c3 : Str} {a : Addr} {m : Str → Option Value} {E : Value → Shared → Prop} {C dx a1 a2 : Addr} {fs : List (Str × V)} {vs1 vs2 : List V} {n1 n2 n3 : Nat} {p0 p1 p2 p3 p4 p5 p6 p7 p8 p9 q0 q1 q2 q3 q4 : Pos}
theorem jM9 {Q : Value → Shared → Prop} (J : Inv Y [] σ H s) (hk : Y.env.scope.kind = .function) (hl : Y.env.kindOf y = some .local) (hd : (y == ("__debug__" : Str)) = false) (hn : s.heap.Ns Y.env.locals m) (hm : m y = some (.ref a)) (hg : Gl Y "len") (hg2 : Y.mg "len" = none)
  (ea : H a = some (.ins C dx fs)) (cl : Cls Y.K C) (no1 : NoAttr Y.K C f1) (l1 : fs.lookup f1 = some (.ref a1)) (t1 : SqT Y.K H a1 vs1) (z1 : vs1.length ≤ sizeLine) (no2 : NoAttr Y.K C f2) (l2 : fs.lookup f2 = some (.ref a2)) (t2 : SqT Y.K H a2 vs2) (z2 : vs2.length ≤ sizeLine)
  (fits : (jBv c1 c2 c3 vs1.length vs2.length).length ≤ sizeLine)
  (h : ∀ u tk, Q (.str (jBv c1 c2 c3 vs1.length vs2.length) u) { s with toks := tk }) :
  wpAny (model Y.prog Y.w) Y.A (eval (.JoinedStr [.Constant (.str c1) n1 p1, .FormattedValue (.Call (.Name "len" p2) [.Attribute (.Name y p3) f1 p4] [] p5) (-1) none p6, .Constant (.str c2) n2 p7, .FormattedValue (.Call (.Name "len" p8) [.Attribute (.Name y p9) f2 q0] [] q1) (-1) none q2, .Constant (.str c3) n3 q3] q4) Y.env) Q E s := by
 unfold jBv at fits h
 have e4 := wau (jIu _ _) fits
 have e3 := wau (jIu _ _) e4
 have e2 := wau (jIu _ _) e3
 have e1 := wau (jIu _ _) e2
 refine wpAny_JoinedStr ?_
 show wpAny _ _ (eval (.Constant (.str c1) n1 p1) Y.env) _ _ _
 refine wpAny_Constant_str ⟨_, _, rfl, e1, ?_⟩
 show wpAny _ _ (eval (.FormattedValue (.Call (.Name "len" p2) [.Attribute (.Name y p3) f1 p4] [] p5) (-1) none p6) Y.env) _ _ _
 refine jRw (J.tok _) hk hl hd hn hm hg hg2 ea cl no1 l1 t1 z1 fun u tk => ⟨_, _, rfl, e2, ?_⟩
 show wpAny _ _ (eval (.Constant (.str c2) n2 p7) Y.env) _ _ _
 refine wpAny_Constant_str ⟨_, _, rfl, e3, ?_⟩
 show wpAny _ _ (eval (.FormattedValue (.Call (.Name "len" p8) [.Attribute (.Name y p9) f2 q0] [] q1) (-1) none q2) Y.env) _ _ _
 refine jRw (J.tok _) hk hl hd hn hm hg hg2 ea cl no2 l2 t2 z2 fun u tk => ⟨_, _, rfl, e4, ?_⟩
 show wpAny _ _ (eval (.Constant (.str c3) n3 q3) Y.env) _ _ _
 refine wpAny_Constant_str ⟨_, _, rfl, fits, fits, ?_⟩
 exact h _ _
end
section
variable {P : Program} {w : World} {K : PySem.W.Frag} {mg : Str → Option Value} {base : Heap} {f : Addr} {name qual : Str} {params : Arguments} {scope : Scope}
 {dV kV doc pm cdv ct oc : Value} {an od : Option Addr} {osl : Array (Option Value)} {N : List Str} {A : Around} {outer : List PySem.Env} {s : Shared} {H : Hp}
 {y f1 f2 c1 c2 c3 : Str} {a : Addr} {C dx a1 a2 : Addr} {fs : List (Str × V)} {vs1 vs2 : List V} {n1 n2 n3 : Nat} {p0 p1 p2 p3 p4 p5 p6 p7 p8 p9 q0 q1 q2 q3 q4 : Pos}
theorem jTv (lk : K.lookup f = some ⟨oc, od, .func (PySem.W.fnOf name qual params (jFl y c1 f1 c2 f2 c3 n1 n2 n3 p0 p1 p2 p3 p4 p5 p6 p7 p8 p9 q0 q1 q2 q3 q4) scope dV kV doc pm an cdv ct), osl⟩) (hcd : PySem.W.codeIn K cdv qual = true) (Sg : FnScope N [y] scope) (hdp : A.depth < recursionLimit) (hd : A.handled = none)
  (e0 : Env0 P w K mg base A outer s H) (hb : BindsTo s (PySem.W.fnOf name qual params (jFl y c1 f1 c2 f2 c3 n1 n2 n3 p0 p1 p2 p3 p4 p5 p6 p7 p8 p9 q0 q1 q2 q3 q4) scope dV kV doc pm an cdv ct) ⟨[.ref a], []⟩ [(y, .ref a)])
  (hloc : scope.names.lookup y = some .local) (hdb : (y == ("__debug__" : Str)) = false) (hg : scope.names.lookup ("len" : Str) = some .globalImplicit) (hg2 : mg "len" = none)
  (ea : H a = some (.ins C dx fs)) (cl : Cls K C) (no1 : NoAttr K C f1) (l1 : fs.lookup f1 = some (.ref a1)) (t1 : SqT K H a1 vs1) (z1 : vs1.length ≤ sizeLine) (no2 : NoAttr K C f2) (l2 : fs.lookup f2 = some (.ref a2)) (t2 : SqT K H a2 vs2) (z2 : vs2.length ≤ sizeLine)
  (fits : (jBv c1 c2 c3 vs1.length vs2.length).length ≤ sizeLine) :
  codeAny (model P w) A (.call (.ref f) ⟨[.ref a], []⟩) (fun r s' => ∃ u h' tk, r = .ok (.ret (.str (jBv c1 c2 c3 vs1.length vs2.length) u)) ∧ s' = { s with heap := h', toks := tk } ∧ Grow s.heap h') s := by
 have up : ∀ b o, base.get? b = some o → s.heap.get? b = some o := fun b o e => (e0.bs b o e).1
 have KX := e0.mod.kin.keeps up
 refine codeAny_call_function hdp (KX _ _ lk) rfl Sg.co Sg.gen rfl (PySem.W.codeRec_of KX hcd) (hb _ _ _ _ (wpAny_newFunctionEnv_cells Sg.kind (fun z hz => ?_) fun env he s1 x => ?_))
 ·rw [waB.mp hz]
  exact .inl hloc
 ·subst he
  refine ⟨(e0.mod.nolimit.keeps up).keeps x.toInCall.keep, codeAny_func ?_⟩
  have I := inv_start (CX := L2.CX P w) (E := X0) (us := [.ref a]) (vs := [.ref a]) Sg hd e0 rfl (.cons rfl .nil) x
  have hns := x.toInCall.ns
  obtain ⟨h1, tk, rfl, hk⟩ := x.done
  refine wpAny_execs_cons (wpAny_Return_some ?_)
  refine jM9 (Y := cxOf (L2.CX P w) P w K mg base N qual scope f cdv A outer s H X0) I Sg.kind hloc hdb hns ?_ hg hg2 ea cl no1 l1 t1 z1 no2 l2 t2 z2 fits (fun u tk' => ?_)
  ·have hk2 : (envOfC qual scope s.heap.objs.size f cdv).kindOf y = some .local := hloc
   show (if (envOfC qual scope s.heap.objs.size f cdv).kindOf y = some .local then fun y_1 => if y_1 = y then some (Value.ref a) else none else fun x => none) y = some (Value.ref a)
   rw [if_pos hk2]
   simp
  ·exact ⟨u, h1, tk', rfl, rfl, hk⟩
theorem jQ9 {pn : Addr × Obj} (hpin : L2H.PinOk outer H s pn) (lk : K.lookup f = some ⟨oc, od, .func (PySem.W.fnOf name qual params (jFl y c1 f1 c2 f2 c3 n1 n2 n3 p0 p1 p2 p3 p4 p5 p6 p7 p8 p9 q0 q1 q2 q3 q4) scope dV kV doc pm an cdv ct), osl⟩) (hcd : PySem.W.codeIn K cdv qual = true) (Sg : FnScope N [y] scope) (hdp : A.depth < recursionLimit)
  (e0 : Env0 P w K mg base A outer s H) (hb : BindsTo s (PySem.W.fnOf name qual params (jFl y c1 f1 c2 f2 c3 n1 n2 n3 p0 p1 p2 p3 p4 p5 p6 p7 p8 p9 q0 q1 q2 q3 q4) scope dV kV doc pm an cdv ct) ⟨[.ref a], []⟩ [(y, .ref a)])
  (hloc : scope.names.lookup y = some .local) (hdb : (y == ("__debug__" : Str)) = false) (hg : scope.names.lookup ("len" : Str) = some .globalImplicit) (hg2 : mg "len" = none)
  (ea : H a = some (.ins C dx fs)) (cl : Cls K C) (no1 : NoAttr K C f1) (l1 : fs.lookup f1 = some (.ref a1)) (t1 : SqT K H a1 vs1) (z1 : vs1.length ≤ sizeLine) (no2 : NoAttr K C f2) (l2 : fs.lookup f2 = some (.ref a2)) (t2 : SqT K H a2 vs2) (z2 : vs2.length ≤ sizeLine)
  (fits : (jBv c1 c2 c3 vs1.length vs2.length).length ≤ sizeLine) :
  codeAny (model P w) A (.call (.ref f) ⟨[.ref a], []⟩) (fun r s' => ∃ u h' tk, r = .ok (.ret (.str (jBv c1 c2 c3 vs1.length vs2.length) u)) ∧ s' = { s with heap := h', toks := tk } ∧ Grow s.heap h') s := by
 have up : ∀ b o, base.get? b = some o → s.heap.get? b = some o := fun b o e => (e0.bs b o e).1
 have KX := e0.mod.kin.keeps up
 refine codeAny_call_function hdp (KX _ _ lk) rfl Sg.co Sg.gen rfl (PySem.W.codeRec_of KX hcd) (hb _ _ _ _ (wpAny_newFunctionEnv_cells Sg.kind (fun z hz => ?_) fun env he s1 x => ?_))
 ·rw [waB.mp hz]
  exact .inl hloc
 ·subst he
  refine ⟨(e0.mod.nolimit.keeps up).keeps x.toInCall.keep, codeAny_func ?_⟩
  have I := L2H.inv_startH (CX := L2.CX P w) (E := X0) (us := [.ref a]) (vs := [.ref a]) Sg hpin e0 rfl (.cons rfl .nil) x
  have hns := x.toInCall.ns
  obtain ⟨h1, tk, rfl, hk⟩ := x.done
  refine wpAny_execs_cons (wpAny_Return_some ?_)
  refine jM9 (Y := L2H.cxH (L2.CX P w) P w K mg base N qual scope f cdv A outer s H X0 pn) I Sg.kind hloc hdb hns ?_ hg hg2 ea cl no1 l1 t1 z1 no2 l2 t2 z2 fits (fun u tk' => ?_)
  ·have hk2 : (envOfC qual scope s.heap.objs.size f cdv).kindOf y = some .local := hloc
   show (if (envOfC qual scope s.heap.objs.size f cdv).kindOf y = some .local then fun y_1 => if y_1 = y then some (Value.ref a) else none else fun x => none) y = some (Value.ref a)
   rw [if_pos hk2]
   simp
  ·exact ⟨u, h1, tk', rfl, rfl, hk⟩
end
section
variable {prog : Program} {w : World} {A : Around} {E : Value → Shared → Prop} {s : Shared}
theorem jO8 {last : Value → List Value → Sem Value} {name : Str} {g self : Value} {Q : Option Value → Shared → Prop} (hsp : ∀ {Q' : Option Value → Shared → Prop} {E' : Value → Shared → Prop}, Q' (some g) s → wpAny (model prog w) A (specialOf self name) Q' E' s)
  (hb : ∀ {Q' : Value × List Value → Shared → Prop} {E' : Value → Shared → Prop}, Q' (g, [self]) s → wpAny (model prog w) A (bindSpecial g self) Q' E' s)
  (hc : wpAny (model prog w) A (last g [self]) (fun v s' => Q (some v) s') E s) : wpAny (model prog w) A (callSpecialIfBoundBy? last self name) Q E s := by
 simp only [callSpecialIfBoundBy?, bindSpecialIfBound?]
 refine wpAny_holding (wao (wao (hsp ?_)))
 refine wao (wpAny_askSetting (wpAny_ite ?_))
 have fin : wpAny (model prog w) A (last g [self] >>= fun v => pure (some v)) Q E s :=
  wao (wpAny_mono hc (fun v s' h' => waH h') fun _ _ h' => h')
 split
 ·exact wao (hb (waH (by exact fin)))
 ·exact wpAny_tryCatch (wao (hb (waH (by exact fin))))
end
section
variable {X : Cx} {pins : List (Addr × Obj)} {σ : L2.St} {H : Hp} {s : Shared} {fa : Addr} {c1 f1 c2 f2 c3 : Str} {a C dx a1 a2 : Addr} {fs : List (Str × V)} {vs1 vs2 : List V} {as : List Addr} {d : Nat}
theorem j11 {z : Bool} (I : Inv X pins σ H s) (hp : z = false → ∃ p, L2H.PinOk X.stack H s p) (R : jMl X.K fa c1 f1 c2 f2 c3) (hm : Meth X.K C "__repr__" fa) (ht : PySem.W.typeIn X.K (.ref fa) = some (.type "function")) (hml : X.mg "len" = none)
  (ea : H a = some (.ins C dx fs)) (cl : Cls X.K C) (no1 : NoAttr X.K C f1) (l1 : fs.lookup f1 = some (.ref a1)) (t1 : SqT X.K H a1 vs1) (z1 : vs1.length ≤ sizeLine) (no2 : NoAttr X.K C f2) (l2 : fs.lookup f2 = some (.ref a2)) (t2 : SqT X.K H a2 vs2) (z2 : vs2.length ≤ sizeLine)
  (fits : (jBv c1 c2 c3 vs1.length vs2.length).length ≤ sizeLine) : RpG X.prog X.w z X.stack as s.heap d (.ref a) (jBv c1 c2 c3 vs1.length vs2.length) := by
 intro base hb A g E s' Q gg clr rm bare gr q
 have I1 : Inv X pins σ H { s with heap := s'.heap, toks := s'.toks } := I.kept (t' := s'.toks) gr
 have e1 := I1.env0
 have e0 : Env0 X.prog X.w X.K X.mg X.base A X.stack s' H := ⟨rm.fr, e1.mod, e1.bs, e1.bsz, e1.funs, e1.frf, e1.hok, bare⟩
 obtain ⟨mA, O, _, _, _, _⟩ := ins_get I1.hok ea
 obtain ⟨od, J, _⟩ := O.look
 have kIn : X.K.In s'.heap := I1.kIn
 obtain ⟨name, qual, params, scope, dV, kV, doc, pm, cdv, ct, oc, an, od2, osl, N, y, n1, n2, n3, p0, p1, p2, p3, p4, p5, p6, p7, p8, p9, q0, q1, q2, q3, q4, lk, hcd, Sg, hloc, hdb, hgl, hbd⟩ := R.ex
 refine wpAny_pyReprUnder_ref (by omega) ?_
 unfold pyReprObjUnder pyReprObjBy
 refine wao (m := cRoomFor _ _) (wpAny_cRoomFor (by have := rm.un; omega) ?_)
 refine wao (m := specialOf (.ref a) (Str.ofString "__repr__")) (jFk kIn J hm.at_ ?_)
 simp only [Option.isNone_some, wa2, if_false]
 refine wao (jO8 (g := .ref fa) (jFk kIn J hm.at_) (bind_fn kIn ht) ?_)
 show wpAny _ _ (PySem.call (.ref fa) [.ref a]) _ _ _
 have key : codeAny (model X.prog X.w) A (.call (.ref fa) ⟨[.ref a], []⟩) (fun r s6 => ∃ u h' tk, r = .ok (.ret (.str (jBv c1 c2 c3 vs1.length vs2.length) u)) ∧ s6 = { s' with heap := h', toks := tk } ∧ Grow s'.heap h') s' := by
  cases z with
  | true => exact jTv lk hcd Sg (by have := rm.dp; omega) (rm.hd rfl) e0 (hbd _ [.ref a] kIn rfl) hloc hdb hgl hml ea cl no1 l1 t1 z1 no2 l2 t2 z2 fits
  | false =>
   obtain ⟨p, g1, g2, g3, g4⟩ := hp rfl
   exact jQ9 ⟨gr _ _ g1, g2, g3, g4⟩ lk hcd Sg (by have := rm.dp; omega) e0 (hbd _ [.ref a] kIn rfl) hloc hdb hgl hml ea cl no1 l1 t1 z1 no2 l2 t2 z2 fits
 refine wbs (wa9 key fun r s6 ⟨u, h', tk, er, es, hk⟩ => ?_)
 subst er
 subst es
 refine wao (wpAny_isInstance (T := "str") (b := true) rfl isSubtype_str_str (waH ⟨_, _, rfl, q h' tk hk⟩))
end
section
variable {X : Cx} {pins : List (Addr × Obj)} {σ : L2.St} {H : Hp} {s : Shared} {F S : Hp} {as : List Addr} {E : Env} {C : jAa}
theorem jJa (n : Nat) : PyData.strOk ((toString (n : Int) : String) : Str) = true := jAb _
theorem j83 {a b : Nat} : PyData.strOk (jBv "Order of " " places and " " steps" a b) = true := by
 unfold jBv
 exact jAf (jAf (jAf (jAf (jAf (by decide +kernel) (by decide +kernel)) (jJa a)) (by decide +kernel)) (jJa b)) (by decide +kernel)
mutual
theorem j90 {σ0 : L2.St} {zb : Bool} (I : Inv X pins σ0 H s) (hp : zb = false → ∃ p, L2H.PinOk X.stack H s p) (sim : Sim X.K F S as σ H E C) (R : RpO X.K X.mg) : ∀ {v : V} {t : T}, Rep X.K S as v t → ∀ {u : Value} {x : Str}, shN t = some x → RelV v u → RN X.prog X.w zb X.stack s.heap u x (dpT t) ∧ PyData.strOk x = true
 | _, _, .non, u, x, e, q => by
  cases q
  simp only [shN] at e
  cases e
  exact ⟨.leaf (fun _ z => nomatch z) fun _ => by simp only [PyData.shown]; exact ReprIs.none, by decide +kernel⟩
 | _, _, .bl b, u, x, e, q => by
  cases q
  simp only [shN] at e
  cases e
  exact ⟨.leaf (fun _ z => nomatch z) fun _ => by simp only [PyData.shown]; exact ReprIs.bool b, by cases b <;> decide +kernel⟩
 | _, _, .int i, u, x, e, q => by
  obtain ⟨tk, rfl⟩ := (show ∃ t, u = Value.int i t from q)
  simp only [shN] at e
  split at e
  ·rename_i hs
   cases e
   exact ⟨.leaf (fun _ z => nomatch z) fun _ => by simp only [PyData.shown]; exact ReprIs.int tk (by simpa [PyData.showable] using hs), by simp only [PyData.shown]; exact jAb _⟩
  ·cases e
 | _, _, .str g, u, x, e, q => by
  obtain ⟨tk, rfl⟩ := q
  simp only [shN] at e
  cases e
  exact ⟨.leaf (fun _ z => nomatch z) fun hz => by simp only [PyData.shown] at hz ⊢; exact ReprIs.str _ tk hz, by simp only [PyData.shown]; exact jBs g.ok⟩
 | _, _, .tup (a := a) (vs := vs) (ts := ts) q0 z rs, u, x, e, q => by
  cases q
  simp only [shN] at e
  obtain ⟨xs, ex, rfl⟩ := wae.mp e
  obtain ⟨its, rv, ⟨o, ho, hc, n', hd⟩, _⟩ := I.tuple (sim.sqT q0)
  obtain ⟨r1, r2⟩ := jN9 I hp sim R rs ex rv
  refine ⟨?_, ?_⟩
  ·simp only [dpT]
   exact .tup ho hc hd r1
  ·simp only [tupleText]
   exact jAf (jAf (jAb _) (jCl (jAb _) _ r2)) (jAb _)
 | _, _, .lst (a := a) (vs := vs) (ts := ts) q0 z rs, u, x, e, q => by
  cases q
  simp only [shN] at e
  obtain ⟨xs, ex, rfl⟩ := wae.mp e
  obtain ⟨its, rv, ⟨o, n', ho, hc, _, hd⟩, _⟩ := I.list (.inl (sim.rd q0))
  obtain ⟨r1, r2⟩ := jN9 I hp sim R rs ex rv
  refine ⟨?_, ?_⟩
  ·simp only [dpT]
   exact .list ho hc hd r1
  ·simp only [listText]
   exact jAf (jBa _ _ _ (jAb _) r2) (jAb _)
 | _, _, .dic (a := a) (kvs := kvs) q0 z g rs, u, x, e, q => by
  cases q
  cases kvs with
  | cons p kvs =>
   simp [shN] at e
  | nil =>
   cases rs
   simp only [List.map_nil, shN] at e
   cases e
   have d := jJr (n := 1) I (sim.rd q0)
   refine ⟨?_, by decide +kernel⟩
   simp only [List.map_nil, dpT]
   have rx := d.rx
   have e : toD (.dic [] []) = .dict [] := by simp only [toD]
   rw [e] at rx
   cases rx with
   | dict h1 h2 h3 h4 =>
    refine .dict h1 h2 ?_
    have hk : ReprK X.prog X.w [a] s.heap 1 (.ref a) (dictText []) := ReprK.dict h1 h2 h3 h4 (by simp) .nil
    intro base hb A g E' s' Q gg cl rm _ gr q
    exact hk base hb A g E' s' Q gg cl (by have := rm.un; omega) gr q
 | _, _, .obj (a := a) (dx := dx) (fs := fs) (c := c) (ts := ts) q0 rs, u, x, e, q => by
  cases q
  simp only [shN] at e
  split at e
  ·rename_i hc
   subst hc
   have ea := (sim.sub' _ _ q0).resolve_right fun ⟨_, _, f⟩ => f
   split at e
   ·rename_i xs ys g1 g2
    cases e
    obtain ⟨v1, l1, r1⟩ := jCu rs g1
    obtain ⟨v2, l2, r2⟩ := jCu rs g2
    cases r1 with
    | @tup a1 vs1 _ t1 z1 s1 =>
     cases r2 with
     | @tup a2 vs2 _ t2 z2 s2 =>
      obtain ⟨fa, rd, hm, ht⟩ := R.ex
      obtain ⟨mA, O, _, _, _, _⟩ := ins_get I.hok ea
      obtain ⟨od, J, _⟩ := O.look
      simp only [dpT]
      refine ⟨.own (C := ca X.K "Order") J.1 J.2 fun hz => ?_, j83⟩
      rw [← s1.length, ← s2.length] at hz ⊢
      exact j11 I hp rd hm ht R.ln ea R.cl R.n1 l1 (sim.sqT t1) z1 R.n2 l2 (sim.sqT t2) z2 hz
   ·cases e
  ·cases e
 | _, _, .ref _, _, _, e, _ => by simp [shN] at e
 | _, _, .exn _ _, _, _, e, _ => by simp [shN] at e
 | _, _, .cls, _, _, e, _ => by simp [shN] at e
theorem jN9 {σ0 : L2.St} {zb : Bool} (I : Inv X pins σ0 H s) (hp : zb = false → ∃ p, L2H.PinOk X.stack H s p) (sim : Sim X.K F S as σ H E C) (R : RpO X.K X.mg) : ∀ {vs : List V} {ts : List T}, Reps X.K S as vs ts → ∀ {us : List Value} {xs : List Str}, shNs ts = some xs → Vals vs us → RNs X.prog X.w zb X.stack s.heap us xs (dpTs ts) ∧ ∀ x ∈ xs, PyData.strOk x = true
 | _, _, .nil, us, xs, e, q => by
  cases q
  simp only [shNs] at e
  cases e
  simp only [dpTs]
  exact ⟨.nil, fun _ h => nomatch h⟩
 | _, _, .cons (v := v) (t := t) (vs := vs) (ts := ts) r rs, us, xs, e, q => by
  cases q with
  | cons q qs =>
  simp only [shNs] at e
  obtain ⟨x, ex, e2⟩ := wal.mp e
  obtain ⟨ys, ey, rfl⟩ := wae.mp e2
  obtain ⟨a1, b1⟩ := j90 I hp sim R r ex q
  obtain ⟨a2, b2⟩ := jN9 I hp sim R rs ey qs
  simp only [dpTs]
  refine ⟨.cons a1 a2, fun z hz => ?_⟩
  rcases waE.mp hz with rfl | hz
  ·exact b1
  ·exact b2 z hz
end
end
structure j72 (Y : Cx) (s0 : Shared) (H0 : Hp) (params : Arguments) (body : Expr) (scope : Scope) (f c' : Addr) (pm ctv : Value) : Prop where
 obj : s0.heap.get? f = some (lamO Y params body scope pm c' ctv)
 non : H0 f = none
 nfr : f ∉ frs Y.stack
 code : H0 c' = some (LamX.CodeO c' (Y.env.qual ++ "<lambda>"))
 sc : LamX.LamS Y.env.scope scope
 bind : ∀ (q : Str) (cl : List (Str × Addr)) (pm cv ctv : Value), bindArgs (PySem.W.kla_fn "<lambda>" q params body scope cl pm cv ctv) ⟨[], []⟩ = pure []
section
variable {Y Xc : Cx} {pinsY : List (Addr × Obj)} {σY : L2.St} {H0 H3 : Hp} {s0 s3 : Shared} {scope : Scope} {ce : PySem.Env} {fp : List Addr} {L : List (Str × List Str)} {W : WX} {Φ : Calls} {k : Nat}
structure zD8 (Y : Cx) (s0 : Shared) (H0 : Hp) (L : List (Str × List Str)) (Φ : Calls) (k : Nat) (f : Addr) (e : Ex) (c' : Addr) : Prop where
 ex : ∃ (params : Arguments) (body : Expr) (lsc : Scope) (pm ctv : Value), j72 Y s0 H0 params body lsc f c' pm ctv ∧
  ∀ (Ex : XK) (A : Around) (fr : List PySem.Env) (s : Shared) (H : Hp), Room k (A.deeper (LamX.lamEnv Y lsc s.heap.objs.size f c')) → A.guards = some [] → PE (LamX.lamCx Y A fr s H Ex lsc f c') body (DE Y.K (rxE L) (fun cls d _ H => Ex cls d H) Φ e)
end
section
variable {X : Cx} {pins : List (Addr × Obj)} {s : Shared} {σ : L2.St} {H : Hp} {c P : Addr}
structure Made (X : Cx) (pins : List (Addr × Obj)) (σ : L2.St) (H0 : Hp) (p : Addr) (ms : List MkF) (H : Hp) (s : Shared) : Prop where
 inv : Inv X (ms.map (fun m => (m.f, m.o X)) ++ pins) σ H s
 lst : H p = some (.lst (ms.map fun m => .ref m.f))
 new : ∃ Hm, LamX.ExtN H0 Hm ∧ LamX.Tabs (tabs X.K) Hm ∧ Hm p = none
 ext : LamX.ExtN H0 H
 tab : LamX.Tabs (tabs X.K) H
 nfr : ∀ m ∈ ms, m.f ∉ frs X.stack
 code : ∀ m ∈ ms, H m.c = some (LamX.CodeO m.c (X.env.qual ++ "<lambda>"))
end
def jR2 (y : Str) (yp lp ap : Pos) (d : LamD) (ls : List jIi) (rp rp2 : Pos) : List Stmt :=
 .Assign [.Name y yp] (.List [.Lambda d.params d.body d.scope d.lpos] lp) ap :: (ls.map (jIi.st y) ++ [.Return (some (.Name y rp)) rp2])
structure CalD (P : Program) (w : World) (K : PySem.W.Frag) (mg : Str → Option Value) (base : Heap) (k : Nat) (L : List (Str × List Str)) (Φ : Calls) (gn : Str) (g : Addr) (np nn : Nat) (es : List Ex) : Prop where
 ex : ∃ (params : Arguments) (scope : Scope) (dV kV doc pm cdv ct oc : Value) (an od : Option Addr) (osl : Array (Option Value)) (N ps : List Str) (i : Nat) (c P' : Addr) (y : Str) (yp lp ap rp rp2 : Pos) (d : LamD) (ls : List jIi),
  K.lookup g = some ⟨oc, od, .func (PySem.W.fnOf gn gn params (jR2 y yp lp ap d ls rp rp2) scope dV kV doc pm an cdv ct), osl⟩ ∧ PySem.W.codeIn K cdv gn = true ∧
  L2.Binds K (PySem.W.fnOf gn gn params (jR2 y yp lp ap d ls rp rp2) scope dV kV doc pm an cdv ct) ps [] ∧ FnScope N ps scope ∧ N[i]? = some y ∧ ps.length ≤ i ∧ scope.names.lookup y = some .local ∧ (y == ("__debug__" : Str)) = false ∧ (y == ("__classdict__" : Str)) = false ∧
  ps.length = np ∧ N.length = nn ∧ es.length = ls.length + 1 ∧ ls.length < 1000 ∧
  ∀ (A : Around) (outer : List PySem.Env) (s : Shared) (H : Hp), jYe (jFt P w K mg base N gn scope g cdv A outer s H) c P' ∧ d.Ok (jFt P w K mg base N gn scope g cdv A outer s H) ∧
   (∀ l ∈ ls, l.d.Ok (jFt P w K mg base N gn scope g cdv A outer s H) ∧ (l.ap.endLine == l.cp.line) = true) ∧
   ∀ (j : Nat) (e : Ex) (d' : LamD), es[j]? = some e → (d :: ls.map (·.d))[j]? = some d' →
    (∀ (q : Str) (cl : List (Str × Addr)) (pm cv ctv : Value), bindArgs (PySem.W.kla_fn "<lambda>" q d'.params d'.body d'.scope cl pm cv ctv) ⟨[], []⟩ = pure []) ∧
    ∀ (Ex : XK) (A' : Around) (fr : List PySem.Env) (s' : Shared) (H' : Hp) (f c' : Addr), Room k (A'.deeper (LamX.lamEnv (jFt P w K mg base N gn scope g cdv A outer s H) d'.scope s'.heap.objs.size f c')) → A'.guards = some [] →
     PE (LamX.lamCx (jFt P w K mg base N gn scope g cdv A outer s H) A' fr s' H' Ex d'.scope f c') d'.body (DE K (rxE L) (fun cls d _ H => Ex cls d H) Φ e)
 kp : PySem.W.keepIn K (.ref g) = true
def exsL : Exs → List Ex
 | .nil => []
 | .cons e r => e :: exsL r
open PySem.HandSPX
open PySem.Builtin PySem.Builtin.ObjectAttr
section
variable {M : Model} {A : Around} {E : Value → Shared → Prop} {h : Heap} {g : Array GenState} {d : Drawn} {t : Nat} {os : OsState}
variable {nm q : Str} {C N : Addr} {bs bm bmB : List Value} {hdct : Bool} {sn : List Str} {sub : List Value} {ab : Bool} {col : Option Bool} {dd : Option Addr} {k0 k1 k2 k3 k5 : Option Value} {B newId initId : String}
theorem jE2 (F : ExcBaseFacts B newId initId bmB) (hT : ∀ X : String, bm.contains (.type X) = bmB.contains (.type X)) {kw : List (Str × Value)} {Q : Unit → Shared → Prop}
  (hC : h.get? C = some (excClassObj nm q C N bs bm hdct sn sub ab col dd k0 k1 k2 k3 k5 newId)) (hq : Q () ⟨h, g, d, t, os⟩) : wpAny M A (checkBuiltinCall newId ⟨[.ref C], kw⟩) Q E ⟨h, g, d, t, os⟩ := by
 have hcont : (Value.ref C :: bm).contains (.type B) = true := by rw [List.contains_cons, hT, F.hasB, Bool.or_true]
 have hstar := F.noStar
 simp only [checkBuiltinCall, F.newKind, F.newSplit, F.newRow]
 repeat (first | refine wbb hC ?_ | (refine wpAny_isSubtype_exc hC ?_; rw [hcont]) | refine wpAny_staticBase_exc hC ?_ | refine wpAny_madeBy_exc hC ?_ | simp only [bne_self_eq_false, wa2, if_false] | wp_step)
 exact hq
end
section
variable {prog : Program} {w : World} {A : Around} {E : Value → Shared → Prop} {R : Result → Shared → Prop} {h : Heap} {g : Array GenState} {d : Drawn} {t : Nat} {os : OsState}
variable {nm q : Str} {C N : Addr} {bs bm bmB : List Value} {hdct : Bool} {sn : List Str} {sub : List Value} {ab : Bool} {col : Option Bool} {dd : Option Addr} {k0 k1 k2 k3 k5 : Option Value} {B newId initId : String}
theorem jPe (F : ExcBaseFacts B newId initId bmB) (hT : ∀ X : String, bm.contains (.type X) = bmB.contains (.type X)) {kw : List (Str × Value)}
  (hC : h.get? C = some (excClassObj nm q C N bs bm hdct sn sub ab col dd k0 k1 k2 k3 k5 newId))
  (hq : R (.ok (.ret (.ref (h.objs.size + 1)))) ⟨(h.push { cls := .type "tuple", data := .seq #[] }).push
    { cls := .ref C, data := .fields #[.ref h.objs.size, .none, .none, .none, .bool false, .none] }, g, d, t, os⟩) :
  codeAny (model prog w) A (.builtin newId ⟨[.ref C], kw⟩) R ⟨h, g, d, t, os⟩ := by
 have hends := F.ends
 have hcB : (Value.ref C :: bm).contains (.type B) = true := by rw [List.contains_cons, hT, F.hasB, Bool.or_true]
 have hcA : (Value.ref C :: bm).contains (.type "AttributeError") = false := by rw [List.contains_cons, hT, F.noAttr]; rfl
 have hcN : (Value.ref C :: bm).contains (.type "NameError") = false := by rw [List.contains_cons, hT, F.noName]; rfl
 refine codeAny_builtinAt F.entry ?_
 unfold Builtin.«BaseException.__new__»
 refine PySem.wpAt_bind ?_
 show PySem.wpAt _ _ _ (stack >>= _) _ _ _
 refine PySem.wpAt_bind (PySem.wpAt_stack fun p below => PySem.wpAt_of_wpAny ?_)
 have hrest : ([] : List Value).length ≤ sizeLine := wa4 _
 wp_walk
 refine PySem.wpAt_of_wpAny ?_
 rw [F.owner]
 repeat (first | with_reducible refine wpAny_madeHere_exc F.canon hC ?_ | with_reducible refine wbb hC ?_ | (with_reducible refine wpAny_isSubtype_exc hC ?_; first | rw [hcB] | rw [hcA] | rw [hcN]) | wp_step)
 show R _ _
 rw [Heap.size_push]
 exact hq
theorem jFc (F : ExcBaseFacts B newId initId bmB) (hT : ∀ X : String, bm.contains (.type X) = bmB.contains (.type X)) {kw : List (Str × Value)} {fI : Addr} {Q : Fin → Shared → Prop}
  (hC : h.get? C = some (excClassObj nm q C N bs bm hdct sn sub ab col dd k0 k1 k2 k3 k5 newId))
  (hi : W.Looks (model prog w) h (typeLookup (.ref C) "__init__") (some (.ref fI))) (hb : ∀ self, W.Looks (model prog w) h (bindSpecial (.ref fI) self) (.ref fI, [self]))
  (hq : codeAny (model prog w) A (.call (.ref fI) ⟨[.ref (h.objs.size + 1)], kw⟩)
    (fun r s' => match r with | .ok (.ret v) => v = .none ∧ Q (.done (.ret (.ref (h.objs.size + 1)))) s' | .ok _ => False | .error e => E e s')
    ⟨(h.push (W.kdv_tup [])).push (excO C h.objs.size), g, d, t, os⟩) :
  wpAny (model prog w) A (Builtin.«type.__call__» ⟨[.ref C], kw⟩) Q E ⟨h, g, d, t, os⟩ := by
 repeat (first | with_reducible refine wbb hC ?_ | with_reducible refine wpAny_madeBy_exc hC ?_ | wp_step)
 refine codeAny_call_builtin_code (Code.quiet_builtin _ F.quiet) (jE2 F hT hC ?_)
 refine jPe F hT hC ?_
 show wpAny _ _ _ _ _ _
 have k : ∀ b o, h.get? b = some o → ((h.push (W.kdv_tup [])).push (excO C h.objs.size)).get? b = some o := fun b o e => wap _ (wap _ e)
 have hC₁ := k _ _ hC
 have hget : ((h.push (W.kdv_tup [])).push (excO C h.objs.size)).get? (h.objs.size + 1) = some (excO C h.objs.size) := by heap_get
 have hcC : (Value.ref C :: bm).contains (.ref C) = true := by simp
 have i1 := hi.keeps k
 have b1 := (hb (.ref (h.objs.size + 1))).keeps k
 unfold isInstance
 repeat (first | with_reducible refine wbb hget ?_ | (with_reducible refine wpAny_isSubtype_exc hC₁ ?_; rw [hcC]) | wp_step)
 show wpAny _ _ (typeLookup (.ref C) _) _ _ _
 refine i1.at ?_
 refine wpAny_holding (wao (b1.at ?_))
 refine wao (wbs (wa9 hq fun r s' z => ?_))
 rcases r with e | (v | _ | _ | _) <;> first | exact z | exact z.elim | skip
 obtain ⟨rfl, z⟩ := z
 first
  | exact waH (waH z)
  | (wp_walk; exact z)
theorem jNg (F : ExcBaseFacts B newId initId bmB) (hT : ∀ X : String, bm.contains (.type X) = bmB.contains (.type X)) {kw : List (Str × Value)} {fI : Addr}
  (hC : h.get? C = some (excClassObj nm q C N bs bm hdct sn sub ab col dd k0 k1 k2 k3 k5 newId))
  (hi : W.Looks (model prog w) h (typeLookup (.ref C) "__init__") (some (.ref fI))) (hb : ∀ self, W.Looks (model prog w) h (bindSpecial (.ref fI) self) (.ref fI, [self]))
  (hq : codeAny (model prog w) (A.under (.builtin "type.__call__" ⟨[.ref C], kw⟩)) (.call (.ref fI) ⟨[.ref (h.objs.size + 1)], kw⟩) (W.InitBack (h.objs.size + 1) R)
    ⟨(h.push (W.kdv_tup [])).push (excO C h.objs.size), g, d, t, os⟩) :
  codeAny (model prog w) A (.call (.ref C) ⟨[], kw⟩) R ⟨h, g, d, t, os⟩ := by
 have f1 := tc_lookup
 have f2 := tc_bind (.ref C)
 have hTy : (⟨h, g, d, t, os⟩ : Shared).TypeIs (.ref C) "type" := ⟨_, hC, rfl⟩
 refine codeAny_of_tree ?_
 show wpAny _ _ (callAny (.ref C) _) _ _ _
 repeat (any_goals (first | assumption | with_reducible refine wbb hC ?_ | wp_step))
 refine ⟨rfl, ?_⟩
 refine codeAny_call_builtin_at (Code.quiet_builtin _ (by decide +kernel)) entry_typeCall (wpAny_check_type_call_sub hC (jFc F hT hC hi hb ?_))
 refine wa9 hq fun r s' z => ?_
 rcases r with e | (v | _ | _ | _) <;> exact z
end
end SI
namespace SI
open PySem PySem.Spec PyProof.Rows L2
section
variable {X : Cx} {B newId initId : String} {bmB : List Value} {C fI : Addr} {fs as : List Str} {fd : FuncData} {pins : List (Addr × Obj)} {σ : L2.St} {H1 : Hp} {s1 : Shared} {k : Nat} {us : List Value} {vs : List V} {Qv : Value → Shared → Prop}
def MkQ (X : Cx) (pins : List (Addr × Obj)) (σ : L2.St) (C : Addr) (fs : List Str) (vs : List V) (H1 : Hp) (Qv : Value → Shared → Prop) : Prop :=
 ∀ (dx e : Addr) (s' : Shared), H1 dx = none → upd H1 dx (.xd ((fs.zip vs).reverse)) e = none → Inv X pins σ (upd (upd H1 dx (.xd ((fs.zip vs).reverse))) e (ExF (.ref C) (some dx) e)) s' → Qv (.ref e) s'
theorem jL6 {hp : Heap} {g : Array GenState} {dr : Drawn} {tk : Nat} {os : OsState} (I1 : Inv X pins σ H1 ⟨hp, g, dr, tk, os⟩) (q : MkQ X pins σ C fs vs H1 Qv) {dx : Addr} {s' : Shared} (k : ∀ b o, hp.get? b = some o → s'.heap.get? b = some o) (he : ∃ t1, s'.heap.get? (hp.objs.size + 1) = some (PySem.W.excObj C t1 (some dx) .none))
  (hn : ∃ mA, s'.heap.Ns1 dx mA ∧ ∀ f, RelO (((fs.zip vs).reverse).lookup f) (mA f)) (hd : hp.objs.size ≤ dx) (hde : dx ≠ hp.objs.size + 1) (hgs : s'.gens = g) (hos : s'.os = os) : Qv (.ref (hp.objs.size + 1)) s' := by
 obtain ⟨h2, g2, d2, t2, os2⟩ := s'
 obtain ⟨t1, he⟩ := he
 obtain ⟨mA, hns, rel⟩ := hn
 obtain ⟨G, g1', g2'⟩ := restrict h2 fun b => decide (b ≠ hp.objs.size + 1)
 have gk : ∀ b, b ≠ hp.objs.size + 1 → G.get? b = h2.get? b := fun b hb => g1' b (waU hb)
 have ge : G.get? (hp.objs.size + 1) = none := g2' _ (by simp)
 have kG : ∀ b o, G.get? b = some o → h2.get? b = some o := fun b o z => by
  by_cases hb : b = hp.objs.size + 1
  ·rw [hb, ge] at z
   cases z
  ·rw [← gk b hb]
   exact z
 have kp : ∀ b o, hp.get? b = some o → G.get? b = some o := fun b o z => by
  rw [gk b (waY (Nat.lt_succ_of_lt (waX z)))]
  exact k b o z
 have hnG : G.Ns1 dx mA := hns.at fun o z => (gk dx hde).trans z
 have hnone : H1 dx = none := I1.hok.fresh hd
 have hok : ObjOk X.prog X.w (upd H1 dx (.xd ((fs.zip vs).reverse))) G dx (.xd ((fs.zip vs).reverse)) := ⟨mA, hnG, rel⟩
 have J := I1.laid (t' := t2) (a := dx) (o := .xd ((fs.zip vs).reverse)) (h' := G) kp hd hok
 subst hgs
 subst hos
 have en : upd H1 dx (.xd ((fs.zip vs).reverse)) (hp.objs.size + 1) = none := by
  rw [upd_ne (Ne.symm hde)]
  exact I1.hok.fresh (Nat.le_succ _)
 have J2 := J.laidN (t' := t2) (a := hp.objs.size + 1) (o := ExF (.ref C) (some dx) (hp.objs.size + 1)) (h' := h2) kG ge en ⟨⟨_, _, he, ⟨rfl, rfl⟩, rfl⟩, ⟨_, he⟩, fun _ _ ⟨o, v, q, r⟩ k => ⟨o, v, k o q, r⟩⟩
 exact q dx _ _ hnone en ⟨J2.ok, J2.os, J2.bare, J2.base, J2.loc, J2.cell, J2.free, J2.freeC, J2.pin, J2.hok, J2.len⟩
theorem jN3 (T : XIn X.prog X.K X.mg B newId initId bmB C fI fs as fd) (I1 : Inv X pins σ H1 s1) (hr : Room (k + 1) X.A) {zs : List Value} (hu : us.length ≤ sizeLine) (hb : ∀ (s : Shared) (e : Value), X.K.In s.heap → BindsTo s fd ⟨e :: us, []⟩ ((("self" : Str) :: as).zip (e :: zs))) (r1 : Vals vs zs) (hz : vs.length = fs.length) (q : MkQ X pins σ C fs vs H1 Qv) :
  wpAny (model X.prog X.w) X.A (PySem.call (Value.ref C) us) Qv X.xe s1 := by
 obtain ⟨hp, g, dr, tk, os⟩ := s1
 obtain ⟨nm, N', qn, bs, bm, hdct, sn, sub, ab, col, dd, k0, k1, k2, k3, k5, hC, hT⟩ := PySem.W.excInit_of I1.kIn T.ini
 have hlv : vs.length = as.length := hz.trans T.len
 have kk : ∀ b o, hp.get? b = some o → ((hp.push (PySem.W.kdv_tup us)).push (PySem.HandSPX.excO C hp.objs.size)).get? b = some o := fun b o e => wap _ (wap _ e)
 have hget : ((hp.push (PySem.W.kdv_tup us)).push (PySem.HandSPX.excO C hp.objs.size)).get? (hp.objs.size + 1) = some (PySem.HandSPX.excO C hp.objs.size) := by heap_get
 refine wbs (PySem.HandSPX.call_own T.FB hT hC (wbl I1.kIn T.fnd) (fun self => PySem.W.bind_fn I1.kIn self T.typ) hu
  (jDv (base := X.base) (mg := X.mg) (hp := hp) (t0 := hp.objs.size) T I1.ok.mod I1.bk kk hget (Nat.le_succ _) (hr.make C us []).depth ?_ r1 hlv fun dx s' k he hn hd hde hgs hos => ⟨rfl, jL6 I1 q k he hn hd hde hgs hos⟩))
 exact hb _ _ (PySem.W.Frag.In.keeps (I1.ok.mod.kin.keeps I1.bk) kk)
theorem jKd (T : XIn X.prog X.K X.mg B newId initId bmB C fI fs as fd) (I1 : Inv X pins σ H1 s1) (hr : Room (k + 1) X.A) {kw : List (Str × Value)} {zs : List Value} (hb : ∀ (s : Shared) (e : Value), X.K.In s.heap → BindsTo s fd ⟨[e], kw⟩ ((("self" : Str) :: as).zip (e :: zs))) (r1 : Vals vs zs) (hz : vs.length = fs.length) (q : MkQ X pins σ C fs vs H1 Qv) :
  wpAny (model X.prog X.w) X.A (PySem.call (Value.ref C) [] kw) Qv X.xe s1 := by
 obtain ⟨hp, g, dr, tk, os⟩ := s1
 obtain ⟨nm, N', qn, bs, bm, hdct, sn, sub, ab, col, dd, k0, k1, k2, k3, k5, hC, hT⟩ := PySem.W.excInit_of I1.kIn T.ini
 have hlv : vs.length = as.length := hz.trans T.len
 have kk : ∀ b o, hp.get? b = some o → ((hp.push (PySem.W.kdv_tup [])).push (PySem.HandSPX.excO C hp.objs.size)).get? b = some o := fun b o e => wap _ (wap _ e)
 have hget : ((hp.push (PySem.W.kdv_tup [])).push (PySem.HandSPX.excO C hp.objs.size)).get? (hp.objs.size + 1) = some (PySem.HandSPX.excO C hp.objs.size) := by heap_get
 refine wbs (jNg T.FB hT hC (wbl I1.kIn T.fnd) (fun self => PySem.W.bind_fn I1.kIn self T.typ)
  (jDv (base := X.base) (mg := X.mg) (hp := hp) (t0 := hp.objs.size) T I1.ok.mod I1.bk kk hget (Nat.le_succ _) (hr.make C [] kw).depth ?_ r1 hlv fun dx s' k he hn hd hde hgs hos => ⟨rfl, jL6 I1 q k he hn hd hde hgs hos⟩))
 exact hb _ _ (PySem.W.Frag.In.keeps (I1.ok.mod.kin.keeps I1.bk) kk)
theorem jKz (T : XNo X.K B newId initId bmB C) (I1 : Inv X pins σ H1 s1) (q : ∀ (e : Addr) (s' : Shared), H1 e = none → Inv X pins σ (upd H1 e (ExF (.ref C) none e)) s' → Qv (.ref e) s') :
  wpAny (model X.prog X.w) X.A (PySem.call (Value.ref C) []) Qv X.xe s1 := by
 obtain ⟨bm, N, nm, qn, bs, hdct, sn, sub, ab, col, dd, k0, k1, k2, k3, k5, mN, hC, hN, hni, T2⟩ := exc_obj I1.kIn T.xin
 refine wpAny_call_exc_subT T.FB T2 hC hN hni (fun h' a hm => ?_) (by rw [waN]; exact wa4 _)
 have hn : H1 a = none := I1.hok.gone hm.new
 obtain ⟨t, ht, _, _⟩ := hm.there
 exact q a _ hn (I1.laidN hm.keeps hm.new hn ⟨⟨_, _, ht, ⟨rfl, rfl⟩, rfl⟩, ⟨_, ht⟩, fun _ _ ⟨o, v, q, r⟩ k => ⟨o, v, k o q, r⟩⟩)
end
theorem jUz {Φ : Calls} {E : Env} {k : Xo} {es : Exs} : ev Φ (.xo k es) E = M.bind (evS Φ es E) fun ts => lift "xo" (xoT k ts) := rfl
theorem jIb {Φ : Calls} {E : Env} {e : Ex} : evS Φ (.cons e .nil) E = M.bind (ev Φ e E) fun x => M.pure [x] := by
 funext C
 show M.bind (ev Φ e E) (fun x => M.bind (M.pure []) fun r => M.pure (x :: r)) C = _
 rfl
structure XiC (K : PySem.W.Frag) (C : Addr) : Prop where
 cl : (PySem.W.clsIn K C).isSome = true
 ga : PySem.W.findIn K (.ref C) "__getattribute__" = some (some (.builtin "BaseException.__getattribute__"))
 gt : PySem.W.findIn K (.ref C) "__getattr__" = some none
 sub : PySem.W.subIn K (.ref C) (.type "BaseException") = some true
 ac : PySem.W.findIn K (.ref C) "__class__" = some (some (.builtin "object.__class__"))
 mro : PySem.W.mroIn K C (.type "object") = some true
 sp : PySem.W.specialIn K (.builtin "object.__class__") "__get__" = some (some (.builtin "getset_descriptor.__get__"))
 tk : PySem.W.takesIn K (.builtin "object.__class__") = some true
theorem j6o {K : PySem.W.Frag} {C : Addr} (h : xiB K C = true) : XiC K C := by
 unfold xiB at h
 simp only [wab, wac] at h
 exact ⟨h.1, h.2.1, h.2.2.1, h.2.2.2.1, h.2.2.2.2.1, h.2.2.2.2.2.1, h.2.2.2.2.2.2.1, h.2.2.2.2.2.2.2⟩
section
variable {X : Cx} {pins : List (Addr × Obj)} {σ : L2.St} {H : Hp} {s : Shared}
theorem jVl (I : Inv X pins σ H s) {a D : Addr} {d : Option Addr} (ha : H a = some (ExF (.ref D) d a)) (hdd : ∀ dd, d = some dd → ∃ fs, H dd = some (.xd fs)) : ∃ oe od, PySem.W.InstAt s.heap a oe D od ∧ (∀ dd, d = some dd → ∃ o, od = some o ∧ s.heap.get? dd = some o) := by
 obtain ⟨⟨oe, vs, ho, ⟨z1, z2⟩, hd⟩, _, _⟩ := I.hok a _ ha
 have hno : PySem.W.notCls oe = true := by
  unfold PySem.W.notCls
  rw [hd]
 cases d with
 | none => exact ⟨oe, none, ⟨ho, z1, hno, by rw [z2]; trivial⟩, fun dd e => nomatch e⟩
 | some dd =>
  obtain ⟨fs, hx⟩ := hdd dd rfl
  obtain ⟨_, ⟨_, _, _, eo, _⟩, _⟩ := (show ∃ mA, s.heap.Ns1 dd mA ∧ ∀ f, RelO (fs.lookup f) (mA f) from I.hok dd _ hx)
  exact ⟨oe, some _, ⟨ho, z1, hno, by rw [z2]; exact eo⟩, fun dd' e => ⟨_, rfl, by cases e; exact eo⟩⟩
def rIsX (K : PySem.W.Frag) : List V → Hp → VK → Prop := fun xs H Q => ∃ (a D : Addr) (d : Option Addr) (c : V) (cv : Value) (b : Bool), xs = [.ref a, c] ∧ H a = some (ExF (.ref D) d a) ∧ (∀ dd, d = some dd → ∃ fs, H dd = some (.xd fs)) ∧ XiC K D ∧ (∀ u, RelV c u → u = cv) ∧ PySem.W.kitOne K (.ref D) cv = some b ∧ Q (.bl b) H
theorem jP6 : CallR X (.builtin "isinstance") (rIsX X.K) := by
 intro pins s σ H xs us Q I r h
 obtain ⟨a, D, d, c, cv, b, rfl, ha, hdd, C, hcv, e, q⟩ := h
 cases r with
 | cons rx rr =>
  cases rr with
  | cons rt rr =>
   cases rr
   cases rx
   have ec := hcv _ rt
   subst ec
   obtain ⟨oe, od, J, _⟩ := jVl I ha hdd
   exact PySem.W.kia_one (PySem.W.kitx_exc C.cl C.ga C.gt C.sub C.ac C.sp C.tk C.mro) I.kIn J e (fun z => nomatch z) fun tk => ⟨.bl b, H, I.kept (t' := tk) fun _ _ z => z, rfl, q⟩
def tXv (K : PySem.W.Frag) (f : Str) (te : TE) : TE := fun σ H Q => te σ H fun x H1 => ∃ (a D dd : Addr) (fs : List (Str × V)) (v : V), x = .ref a ∧ H1 a = some (ExF (.ref D) (some dd) a) ∧ H1 dd = some (.xd fs) ∧ XfC K D ∧ PySem.W.findIn K (.ref D) f = some none ∧ fs.lookup f = some v ∧ Q v H1
theorem j46 {e : Expr} {te : TE} {pos : Pos} {f : Str} (he : PE X e te) (hb : attributeBase e f X.env (eval e X.env) = eval e X.env) : PE X (.Attribute e f pos) (tXv X.K f te) := by
 refine ⟨fun pins s σ H Q I h => ?_⟩
 refine attr_of hb (thn (he.run pins s σ H _ I h) fun u s1 hh => ?_)
 obtain ⟨x, H1, I1, rx, a, D, dd, fs, v, ex, ha, ed, T, hno, l, q⟩ := hh
 subst ex
 obtain rfl : u = Value.ref a := rx
 obtain ⟨⟨oe, vs, ho, hz, hd⟩, _, _⟩ := I1.hok a _ ha
 have hx : ObjOk X.prog X.w H1 s1.heap dd (.xd fs) := I1.hok dd _ ed
 obtain ⟨mA, hns, hr⟩ := hx
 obtain ⟨od, ho2, hl⟩ := lookIn_ns hns
 obtain ⟨u, hu, ru⟩ := RelO.some_of (v := v) (o := mA f) (by rw [← l]; exact hr f)
 have J : PySem.W.InstAt s1.heap a oe D (some od) := ⟨ho, hz.1, by unfold PySem.W.notCls; rw [hd] <;> rfl, by rw [hz.2]; exact ho2⟩
 exact PySem.HandSPX.exc_get I1.kIn J T.ga T.gg T.exC (PySem.W.findObj_own T.hdC hno rfl (by rw [hl, hu])) (handed_of ru) ⟨v, H1, I1.tok _, ru, q⟩
end
section
variable {X : Cx} {rx : RX} {W : WX} {Φ : Calls} {a b : Expr} {xa : Ex} {p pos : Pos} {k : Nat}
theorem jR6 {K : PySem.W.Frag} {F S : Hp} {as : List Addr} {σ : L2.St} {H : Hp} {E : Env} {C : jAa} {v : V} {c : Str} {ns : List Str} {vs : List T} (sim : Sim K F S as σ H E C) (r : Rep K S as v (.exi c ns vs)) :
  ∃ (a : Addr) (d : Option Addr) (fs : List (Str × V)), v = .ref a ∧ H a = some (ExF (.ref (ca K c)) d a) ∧ ((fs = [] ∧ d = none) ∨ ∃ dd, d = some dd ∧ H dd = some (.xd fs)) ∧ fs.map (·.1) = ns ∧ Reps K S as (fs.map (·.2)) vs := by
 cases r with
 | exi q0 q rs => exact ⟨_, _, _, rfl, (sim.sub' _ _ q0).resolve_right fun ⟨_, _, f⟩ => f, q.imp id fun ⟨dd, e1, e2⟩ => ⟨dd, e1, (sim.sub' _ _ e2).resolve_right fun ⟨_, _, f⟩ => f⟩, rfl, rs⟩
theorem jSk {all sub : List Str} {x : Str} {bb : Bool} {cv : Value} {cV : V} (hC : ∀ c ∈ all, XiC X.K (ca X.K c) ∧ PySem.W.kitOne X.K (.ref (ca X.K c)) cv = some (sub.contains c)) (hcv : ∀ u, RelV cV u → u = cv) (hg : Gl X "isinstance") (hm : X.mg "isinstance" = none) (ha : PE X a (DE X.K rx W Φ xa)) (hb : PE X b (tC cV))
  (h1 : starEach [a, b] X.env = (false, eval a X.env) :: starEach [b] X.env) (h2 : starEach [b] X.env = (false, eval b X.env) :: starEach [] X.env) (hpl : (backTo pos (starEach [b] X.env)).any (·.1) = false) : PE X (.Call (.Name "isinstance" p) [a, b] [] pos) (DE X.K rx W Φ (.xo (.isx all sub x bb) (.cons xa .nil))) := by
 refine jAq (pe_callB jP6 hg hm (by kernel_rfl) (pa_cons ha (pa_cons hb pa_nil h2) h1) (by decide) (by decide) h1 hpl) fun σ H Q ⟨F, S, as, E, C, sim, no, out⟩ => ?_
 rw [jUz, jIb, jAg] at out
 refine ⟨F, S, as, E, C, sim, no.left, out.bind fun v t S1 as1 H1 C1 l1 p1 sim1 r1 out1 => ?_⟩
 have out1 : Out X.K rx W F σ E (lift "xo" (xoT (.isx all sub x bb) [t]) C1) (rE X.K F σ E) S1 as1 Q := out1
 obtain ⟨r, hr, out2⟩ := out1.lift
 cases t with
 | exi c ns vs =>
  have hr : (if all.contains c = true then some (T.bl (sub.contains c)) else none) = some r := hr
  split at hr
  ·rename_i hc
   cases hr
   obtain ⟨z1, z2⟩ := hC c (by simpa using hc)
   obtain ⟨a, d, fs, rfl, h3, h4, h5, h6⟩ := jR6 sim1 r1
   refine ⟨a, _, d, cV, cv, _, rfl, h3, fun dd e => ?_, z1, hcv, z2, out2.here sim1 (.bl _)⟩
   rcases h4 with ⟨_, rfl⟩ | ⟨dd', rfl, h⟩
   ·cases e
   ·cases e
    exact ⟨_, h⟩
  ·cases hr
 | _ => cases hr
theorem jW6 {cs : List Str} {f : Str} (hC : ∀ c ∈ cs, XfC X.K (ca X.K c) ∧ PySem.W.findIn X.K (.ref (ca X.K c)) f = some none) (ha : PE X a (DE X.K rx W Φ xa)) (hb : attributeBase a f X.env (eval a X.env) = eval a X.env) : PE X (.Attribute a f pos) (DE X.K rx W Φ (.xo (.fld cs f) (.cons xa .nil))) := by
 refine jAq (j46 ha hb) fun σ H Q ⟨F, S, as, E, C, sim, no, out⟩ => ?_
 rw [jUz, jIb, jAg] at out
 refine ⟨F, S, as, E, C, sim, no.left, out.bind fun v t S1 as1 H1 C1 l1 p1 sim1 r1 out1 => ?_⟩
 have out1 : Out X.K rx W F σ E (lift "xo" (xoT (.fld cs f) [t]) C1) (rE X.K F σ E) S1 as1 Q := out1
 obtain ⟨r, hr, out2⟩ := out1.lift
 cases t with
 | exi c ns vs =>
  have hr : (if cs.contains c = true then (ns.zip vs).lookup f else none) = some r := hr
  split at hr
  ·rename_i hc
   obtain ⟨z1, z2⟩ := hC c (by simpa using hc)
   obtain ⟨a, d, fs, rfl, h3, h4, rfl, h6⟩ := jR6 sim1 r1
   obtain ⟨u, h7, h8⟩ := jFw h6 hr
   rcases h4 with ⟨rfl, rfl⟩ | ⟨dd, rfl, h⟩
   ·cases h7
   ·exact ⟨a, _, dd, fs, u, rfl, h3, h, z1, z2, h7, out2.here sim1 h8⟩
  ·cases hr
 | _ => cases hr
theorem jH4 {α : Type} {u : α} : ∀ {pl : List PArg} {xs zs : List α}, jAt xs [] pl = some zs → jAt (u :: xs) [] (pl.map fun a => match a with | .arg i => .arg (i + 1) | .dflt j t => .dflt j t) = some zs
 | [], _, _, e => e
 | .arg i :: r, xs, zs, e => by
  simp only [jAt, war, List.getElem?_cons_succ] at e ⊢
  obtain ⟨x, h1, h⟩ := wal.mp e
  obtain ⟨ys, h2, e⟩ := wae.mp h
  rw [h1, jH4 h2, ← e]
  rfl
 | .dflt j t :: r, xs, zs, e => by
  simp only [jAt, war] at e ⊢
  obtain ⟨x, h1, h⟩ := wal.mp e
  obtain ⟨ys, h2, e⟩ := wae.mp h
  rw [h1, jH4 h2, ← e]
  rfl
theorem jQ6 {K : PySem.W.Frag} {S : Hp} {as : List Addr} {fs : List Str} {vs : List V} {ts : List T} (h : vs.length = fs.length) (r : Reps K S as vs ts) : Reps K S as (((fs.zip vs).reverse).map (·.2)) ts.reverse := by
 rw [(jIk h).2]
 exact r.reverse
theorem j1b {x : Str} {ns ks : List Str} {pl : List PArg} {xs : Exs} {es : List Expr} {kws : List Keyword} (T : XCls X.prog X.K X.mg (ca X.K x) ns) (hr : Room (k + 1) X.A) (hg : Gl X x) (hm : X.mg x = some (.ref (ca X.K x))) (hdb : (x == ("__debug__" : Str)) = false) (hst : es.all noStar = true) (hks : kws.map (·.arg) = ks.map some)
  (mix : es = [] ∨ ks = []) (hnk : ns = [] → ks = []) (ok : plOk (("self" : Str) :: ns) (es.length + 1) ks 0 (.arg 0 :: pl.map fun a => match a with | .arg i => .arg (i + 1) | .dflt j t => .dflt j t) = true) (hd : ∀ j t, PArg.dflt j t ∉ pl) (hz : es.length ≤ 100) (hl : lenS xs = es.length + ks.length)
  (ha : PA X es (DA X.K rx W Φ (jCa es.length xs))) (hkw : PK X kws (DA X.K rx W Φ (jCw es.length xs))) : PE X (.Call (.Name x p) es kws pos) (DE X.K rx W Φ (.xo (.mk x ns pl) xs)) := by
 have kp : PySem.W.keepIn X.K (.ref (ca X.K x)) = true := by
  cases T with
  | ini T => exact T.kpC
  | bare T => exact T.kpC
 have hB : PE X (.Call (.Name x p) es kws pos) (jQf es.length ks.length (DA X.K rx W Φ (jCa es.length xs)) (DA X.K rx W Φ (jCw es.length xs)) fun vs zs σ H Q => ∃ ys, jAt (vs ++ zs) [] pl = some ys ∧ ys.length = ns.length ∧
   ((ns = [] ∧ ∀ e, H e = none → Q (.ref e) (upd H e (ExF (.ref (ca X.K x)) none e))) ∨ (ns ≠ [] ∧ ∀ dx e, H dx = none → upd H dx (.xd ((ns.zip ys).reverse)) e = none → Q (.ref e) (upd (upd H dx (.xd ((ns.zip ys).reverse))) e (ExF (.ref (ca X.K x)) (some dx) e))))) := by
  refine ⟨fun pins s σ H Q I h => ?_⟩
  refine wpAny_Call_Name_kw (ld_glob I hg hm ?_ hdb)
  refine jGp I kp hst hks ha (fun e => jRe e) hkw h fun s2 H2 vs zs us ws I2 r1 r2 l1 l2 ⟨ys, hy, hlen, q⟩ => ?_
  obtain ⟨ys', hy', ry⟩ := jCn (dl := []) (r1.append r2) .nil hy
  have hup := fun e : Value => (show jAt ((e :: us) ++ ws) [] (.arg 0 :: pl.map fun a => match a with | .arg i => .arg (i + 1) | .dflt j t => .dflt j t) = some (e :: ys') from by
   show (((e :: (us ++ ws))[0]?).bind fun x => (jAt (e :: (us ++ ws)) [] (pl.map fun a => match a with | .arg i => PArg.arg (i + 1) | .dflt j t => .dflt j t)).map (x :: ·)) = _
   rw [jH4 hy']
   rfl)
  show wpAny _ _ (PySem.call (.ref (ca X.K x)) us (ks.zip ws)) _ _ _
  cases T with
  | @ini B newId initId bmB fI fs as fd T =>
   have e := T.nm
   subst e
   have q2 : MkQ X pins σ (ca X.K x) ns ys H2 (EP X pins σ Q) := by
    rcases q with ⟨e, _⟩ | ⟨_, q⟩
    ·exact absurd e T.ne
    ·exact fun dx e s' h1 h2 J => ⟨.ref e, _, J, rfl, q dx e h1 h2⟩
   rcases mix with rfl | rfl
   ·have : us = [] := wat l1
    subst this
    exact jKd T I2 hr (fun s e _ => T.bk s [e] ws _ 1 ks _ rfl l2 ok (hup e)) ry hlen q2
   ·have : ws = [] := wat l2
    subst this
    exact jN3 T I2 hr (by rw [l1, waN]; omega) (fun s e _ => T.bk s (e :: us) [] _ (es.length + 1) [] _ (by rw [waq, l1]) rfl ok (hup e)) ry hlen q2
  | @bare B newId initId bmB T =>
   have e1 : us = [] ∧ ws = [] := by
    have ok2 := ok
    simp only [plOk, wab, wac] at ok2
    have h1 : es.length + 1 ≤ 1 := ok2.1.1.1.1
    refine ⟨wat (by omega), wat ?_⟩
    rw [l2, hnk rfl]
    rfl
   obtain ⟨rfl, rfl⟩ := e1
   rcases q with ⟨_, q⟩ | ⟨e, _⟩
   ·have e2 : ks.zip ([] : List Value) = [] := by cases ks <;> rfl
    rw [e2]
    exact jKz T I2 fun e s' h1 J => ⟨.ref e, _, J, rfl, q e h1⟩
   ·exact absurd rfl e
 refine jAq hB fun σ H Q ⟨F, S, as, E, C, sim, no, out⟩ => ?_
 rw [jUz, jEg Φ E es.length xs, jAg] at out
 have no' : NoOw (escS (jCa es.length xs) ++ escS (jCw es.length xs)) E := by
  rw [← jDp]
  exact no
 refine ⟨F, S, as, E, C, sim, no'.left, out.bindE fun v t S1 as1 H1 C1 eq1 l1 p1 sim1 r1 out1 => ?_⟩
 rw [jAg] at out1
 refine ⟨F, S1, as1, E, C1, sim1, no'.right, out1.bindE fun v2 t2 S2 as2 H2 C2 eq2 l2 p2 sim2 r2 out2 => ?_⟩
 rw [jBx] at out2
 obtain ⟨r, hr', out3⟩ := out2.lift
 obtain ⟨us, hp, hr3⟩ := wal.mp (show (pick (t ++ t2) pl).bind (fun us => if us.length = ns.length then some (SI.T.exi x ns.reverse us.reverse) else none) = some r from hr')
 split at hr3
 rotate_left
 ·cases hr3
 rename_i hlen
 cases hr3
 have r1' : Reps X.K S2 as2 v t := (AllR.reps' r1).mono l2 p2
 have r2' : Reps X.K S2 as2 v2 t2 := AllR.reps' r2
 have rr := r1'.append r2'
 have e1 := jCc Φ E _ _ _ _ eq1
 have e2 := jCc Φ E _ _ _ _ eq2
 have l := jGy es.length xs (by omega)
 obtain ⟨ys, hy, ry⟩ := jDm (dT := []) rr .nil (fun j t h => absurd h (hd j t)) hp
 have hly : ys.length = ns.length := ry.length.trans hlen
 refine ⟨by rw [r1'.length]; omega, by rw [r2'.length]; omega, ys, hy, hly, ?_⟩
 by_cases hn : ns = []
 ·subst hn
  have hu : us = [] := wat hlen
  subst hu
  exact .inl ⟨rfl, fun e he => out3 (.ref e) (upd S2 e (ExF (.ref (ca X.K x)) none e)) as2 _ (Le.upd (sim2.newS he)) (was _) (sim2.alloc he (fun o w z => nomatch z)) (.exi (fs := []) way (.inl ⟨rfl, rfl⟩) .nil)⟩
 ·refine .inr ⟨hn, fun dx e hdx he => ?_⟩
  have s1 := sim2.alloc hdx (u := .xd ((ns.zip ys).reverse)) (fun o w z => nomatch z)
  have s2 := s1.alloc he (u := ExF (.ref (ca X.K x)) (some dx) e) (fun o w z => nomatch z)
  have ne : dx ≠ e := fun z => by
   rw [z, way] at he
   cases he
  have l1 : Le S2 (upd S2 dx (.xd ((ns.zip ys).reverse))) := Le.upd (sim2.newS hdx)
  have l2 : Le (upd S2 dx (.xd ((ns.zip ys).reverse))) (upd (upd S2 dx (.xd ((ns.zip ys).reverse))) e (ExF (.ref (ca X.K x)) (some dx) e)) := Le.upd (s1.newS he)
  have ll := l1.trans l2
  refine out3 (.ref e) _ as2 _ ll (was _) s2 ?_
  have rp : Rep X.K (upd (upd S2 dx (.xd ((ns.zip ys).reverse))) e (ExF (.ref (ca X.K x)) (some dx) e)) as2 (.ref e) (.exi x (((ns.zip ys).reverse).map (·.1)) us.reverse) := .exi way (.inr ⟨dx, rfl, by rw [upd_ne ne]; exact way⟩) (jQ6 hly (ry.mono ll (was _)))
  rw [(jIk hly).1] at rp
  exact rp
end
theorem jNc : ∀ {a b : List T}, eqSs a b = true → a = b
 | [], [], _ => rfl
 | .str a :: r, .str b :: q, h => by
  simp only [eqSs, wab, waj] at h
  rw [h.1, jNc h.2]
theorem jBf {a b : T} (h : eqC a b = true) : a = b := by
 cases a <;> cases b <;> simp only [eqC] at h <;> first | rfl | (cases h; done) | (rw [waj] at h; rw [h]) | rw [jNc h]
theorem jU7 {a b : Hi} (h : eqHi a b = true) : a = b := by
 cases a <;> cases b <;> simp only [eqHi] at h <;> first | (cases h; done) | (rw [waj] at h; rw [h]) | rw [jBf h]
theorem jJz : ∀ {a b : List Hi}, jMm a b = true → a = b
 | [], [], _ => rfl
 | [], _ :: _, h => by cases h
 | _ :: _, [], h => by cases h
 | a :: as, b :: bs, h => by
  simp only [jMm, wab] at h
  rw [jU7 h.1, jJz h.2]
theorem jV5 {a b : Hb} (h : eqHb a b = true) : a = b := by
 cases a <;> cases b <;> simp only [eqHb] at h <;> first | (cases h; done) | rw [jBf h] | rw [jJz h]
theorem jD7 : ∀ {a b : List Hd}, jId a b = true → a = b
 | [], [], _ => rfl
 | [], _ :: _, h => by cases h
 | _ :: _, [], h => by cases h
 | ⟨c1, b1⟩ :: as, ⟨c2, b2⟩ :: bs, h => by
  simp only [jId, wab, waj] at h
  obtain ⟨⟨rfl, h2⟩, h3⟩ := h
  rw [jV5 h2, jD7 h3]
theorem jB8 {e : Expr} {f : Str} {env : PySem.Env} {w : Sem Value} (h : jBl e = true) : attributeBase e f env w = w := by
 unfold attributeBase
 split
 ·cases h
 ·rfl
theorem jFu {e : Expr} (h : jJp e = true) : PlainIx e := by
 intro o i
 cases e <;> first | rfl | (cases h; done)
theorem jXa {N : List Str} {ws : List Nat} : ∀ p ∈ ownB N ws, N[p.2]? = some p.1 := fun p hp => by
 obtain ⟨i, _, h⟩ := waZ.mp hp
 obtain ⟨x, hx, e⟩ := wae.mp h
 subst e
 exact hx
theorem jFe {c : Sx} {scope : Scope} {ws : List Nat} (h : blkB c scope ws = true) : BlkOk c.N c.sc scope (ownB c.N ws) ∧ (ownB c.N ws).map (·.2) = ws := by
 simp only [blkB, wab, wac, waj, wag] at h
 obtain ⟨⟨⟨⟨h1, h2⟩, h3⟩, h4⟩, h5⟩ := h
 refine ⟨⟨h1, h3, jXa, fun y hy e => ?_, fun y hy e => ?_⟩, h2⟩
 ·have := h4 y hy
  rw [e] at this
  simp only [bne_self_eq_false, Bool.false_or, waD, waj] at this
  exact this
 ·have := h5 y hy
  simp only [waD, wab, wam, bne_iff_ne] at this
  rcases this with (⟨a, b⟩ | a) | a
  ·rcases e with e | e
   ·exact absurd e a
   ·exact absurd e b
  ·exact .inl (by simpa using a)
  ·exact .inr (by simpa using a)
theorem jFn {X : Cx} {c : Sx} {i : Nat} {x : Str} (hN : X.N = c.N) (hs : X.env.scope = c.sc) (hf : ∀ x, c.fnB x = true → X.fn x = true) (h : tgB c i x = true) : TgN X i x := by
 simp only [tgB, wab, waD, waj] at h
 obtain ⟨⟨h1, h2⟩, h3⟩ := h
 refine ⟨by rw [hN]; exact h1, ?_, ?_⟩
 ·rw [hs]
  unfold locB at h2
  split at h2
  ·rename_i e; exact .inl e
  ·rename_i e; exact .inr e
  ·cases h2
 ·rcases h3 with h3 | h3
  ·exact .inl (hf x h3)
  ·exact .inr (by rw [hs]; exact h3)
theorem jGh {X : Cx} {c : Sx} (hN : X.N = c.N) (hs : X.env.scope = c.sc) (hf : ∀ x, c.fnB x = true → X.fn x = true) : ∀ {is : List Nat} {es : List Expr}, tgsB c is es = true → TgNs X es is
 | [], [], _ => .nil
 | [], _ :: _, h => by cases h
 | i :: is, [], h => by cases h
 | i :: is, e :: es, h => by
  cases e with
  | Name x p =>
   simp only [tgsB, wab] at h
   exact .cons (jFn hN hs hf h.1) (jGh hN hs hf h.2)
  | _ => cases h
theorem jC5 {X : Cx} {c : Sx} {tg : Tg} {e : Expr} (hc : X.calm = true) (hn : X.N.Nodup) (hN : X.N = c.N) (hs : X.env.scope = c.sc) (hf : ∀ x, c.fnB x = true → X.fn x = true) (h : tgtB c tg e = true) : PG X e (gT X.K tg) := by
 cases tg with
 | nm i =>
  cases e with
  | Name x p => exact j9c hn (jFn hN hs hf h)
  | _ => cases h
 | tp is =>
  cases e with
  | Tuple es k p => exact j7j hc hn (jGh hN hs hf h)
  | _ => cases h
 | tn i is =>
  unfold tgtB at h
  split at h
  ·rename_i q1 q2
   cases q2
  ·rename_i q1 q2
   cases q2
  ·rename_i q1 q2
   cases q1
   cases q2
   rw [wab] at h
   exact j6n hc hn (jFn hN hs hf h.1) (jGh hN hs hf h.2)
  ·cases h
theorem jCm {X : Cx} {c : Sx} {i : Nat} {x : Str} (hN : X.N = c.N) (hs : X.env.scope = c.sc) (h : varB c i x = true) : jZw X i x := by
 simp only [varB, wab, waj, wam] at h
 obtain ⟨⟨⟨h1, h2⟩, h3⟩, h4⟩ := h
 refine ⟨by rw [hN]; exact h1, ?_, h3, h4⟩
 rw [hs]
 unfold visB at h2
 split at h2
 ·rename_i e; exact .inl e
 ·rename_i e; exact .inr (.inl e)
 ·rename_i e; exact .inr (.inr e)
 ·cases h2
section
variable {X : Cx} {K : PySem.W.Frag} {G : Gs} {d : Sx} {a : Addr} {oe : Obj} {cls : Value} {dd : Option Addr} {pn : List (Addr × Obj)} {n : Option Str} {e : Expr}
theorem jNe {Y : Cx} {t : T} (h : conH t e = true) : ∃ v, PE Y e (tC v) ∧ ∀ K S as, Rep K S as v t := by
 cases e with
 | Constant k kk p =>
  cases k with
  | int i => obtain rfl := jBf h; exact ⟨_, pe_int, fun K S as => .int i⟩
  | bool b => obtain rfl := jBf h; exact ⟨_, pe_bl, fun K S as => .bl b⟩
  | none => obtain rfl := jBf h; exact ⟨_, pe_non, fun K S as => .non⟩
  | str x =>
   simp only [conH, wab, wac] at h
   obtain rfl := jBf h.1.1
   exact ⟨_, pe_str, fun K S as => .str ⟨h.1.2, h.2⟩⟩
  | _ => cases h
 | _ => cases h
def jIo (d : Sx) (n : Option Str) : Option Nat := n.map fun y => d.N.idxOf y
structure RpC (X : Cx) : Prop where
 ro : RpO X.K X.mg
 gl : Gl X "repr"
 rm : X.mg "repr" = none
 gd : X.A.guards = some []
 dp : X.A.depth + 8 < recursionLimit
 un : X.A.units + 66 < cLine
theorem j5v {h : Hi} {rb : Bool} (hR : rb = true → RpC X) (hN : X.N = d.N) (hs : X.env.scope = d.sc) (hn : nmB d n = true) (hb : hiB n rb h e = true) (hF : ∀ f, h = .fld f ∨ h = .rpr f → ∀ q ∈ G.exs, XfC X.K (ca X.K q.1) ∧ PySem.W.findIn X.K (.ref (ca X.K q.1)) f = some none)
  (hz : Zc cls dd oe) (hf : ∃ vs, oe.data = .fields vs) : PE (X.suite a ((a, oe) :: pn)) e (tX G.exs X.K (jIo d n) a cls dd (hiO h) (RepR X.K)) := by
 unfold hiB at hb
 split at hb
 ·obtain ⟨v, h1, h2⟩ := jNe (Y := X.suite a ((a, oe) :: pn)) hb
  exact jZn h1 (h2 _)
 ·rename_i f y p f' p'
  simp only [wab, waj, wac] at hb
  obtain ⟨rfl, rfl⟩ := hb
  simp only [nmB, wab, waj, wam] at hn
  obtain ⟨⟨⟨n1, n2⟩, n3⟩, n4⟩ := hn
  exact j09 (hF f (.inl rfl)) rfl (by rw [hN]; exact n1) (.inl (by rw [hs]; exact n2)) n3 n4 hz hf
 ·cases hb
 ·cases hb
theorem jLk {rb : Bool} (hR : rb = true → RpC X) (hN : X.N = d.N) (hs : X.env.scope = d.sc) (hn : nmB d n = true) (hz : Zc cls dd oe) (hf : ∃ vs, oe.data = .fields vs) : ∀ {is : List Hi} {es : List Expr}, hisB n rb is es = true → (∀ f, .fld f ∈ is ∨ .rpr f ∈ is → ∀ q ∈ G.exs, XfC X.K (ca X.K q.1) ∧ PySem.W.findIn X.K (.ref (ca X.K q.1)) f = some none) →
  PA (X.suite a ((a, oe) :: pn)) es (tX G.exs X.K (jIo d n) a cls dd (hisO is) (jK0 X.K))
 | [], [], _, _ => jUb
 | [], _ :: _, h, _ => by cases h
 | _ :: _, [], h, _ => by cases h
 | i :: is, e :: es, h, hF => by
  simp only [hisB, wab] at h
  exact jP7 (j5v hR hN hs hn h.1 (fun f ef => hF f (ef.imp (fun ef => by rw [ef]; exact wah) fun ef => by rw [ef]; exact wah)) hz hf) (jLk hR hN hs hn hz hf h.2.2 fun f hm => hF f (hm.imp (wak _) (wak _))) (jAd h.2.1)
theorem j94 {b : Hb} {rb : Bool} (hR : rb = true → RpC X) (hN : X.N = d.N) (hs : X.env.scope = d.sc) (hn : nmB d n = true) (hb : hbB n rb b e = true) (hF : ∀ f ∈ jOk b, ∀ q ∈ G.exs, XfC X.K (ca X.K q.1) ∧ PySem.W.findIn X.K (.ref (ca X.K q.1)) f = some none)
  (hz : Zc cls dd oe) (hf : ∃ vs, oe.data = .fields vs) : PE (X.suite a ((a, oe) :: pn)) e (tX G.exs X.K (jIo d n) a cls dd (hbO b) (RepR X.K)) := by
 unfold hbB at hb
 split at hb
 ·simp only [wab, wac] at hb
  exact jYz hb.2 (jLk hR hN hs hn hz hf hb.1 fun f hm => hF f (hm.elim (fun hm => waZ.mpr ⟨_, hm, rfl⟩) fun hm => waZ.mpr ⟨_, hm, rfl⟩))
 ·simp only [wab, wac] at hb
  exact jYa hb.2 (jLk hR hN hs hn hz hf hb.1 fun f hm => hF f (hm.elim (fun hm => waZ.mpr ⟨_, hm, rfl⟩) fun hm => waZ.mpr ⟨_, hm, rfl⟩))
 ·obtain ⟨v, h1, h2⟩ := jNe (Y := X.suite a ((a, oe) :: pn)) hb
  exact jYw h1 (h2 _)
 ·cases hb
def clOf (K : PySem.W.Frag) (G : Gs) (d : Sx) (h : ExceptHandler) (hd : Hd) : Cl := match h with
 | .ExceptHandler (some ce) n _ _ => ⟨(ceN ce).map fun x => .ref (ca K x), jIo d n, tSu G.exs K (jIo d n) (hbO hd.b)⟩
 | _ => ⟨[], none, fun _ _ _ _ _ _ => False⟩
def jTh (K : PySem.W.Frag) (G : Gs) (d : Sx) : List ExceptHandler → List Hd → List Cl
 | h :: hs, x :: xs => clOf K G d h x :: jTh K G d hs xs
 | _, _ => []
theorem jTy {ce : Expr} (hs : X.env.scope = d.sc) (hm : ∀ x ∈ G.xcs, X.mg x = some (.ref (ca X.K x))) (h0 : (ceN ce).isEmpty = false) (h : ∀ x ∈ ceN ce, glD d x = true ∧ x ∈ G.xcs) : CExp X ce ((ceN ce).map fun x => .ref (ca X.K x)) := by
 have nm : ∀ x ∈ ceN ce, Names X x (.ref (ca X.K x)) := fun x hx => by
  obtain ⟨h1, h2⟩ := h x hx
  unfold glD at h1
  rw [wab, wam] at h1
  exact ⟨jHg (c := ⟨d.N, d.sc, none, false⟩) hs h1.1, h1.2, .inl (hm x h2)⟩
 clear h
 revert h0 nm
 unfold ceN
 split
 ·intro h0 nm
  exact jP2 (nm _ wah)
 ·intro h0 nm
  exact jKq (nm _ wah) (nm _ (.tail _ wah)) (nm _ (.tail _ (.tail _ wah)))
 ·intro h0 nm
  cases h0
theorem jRz (hR : rprB G d = true → RpC X) (hN : X.N = d.N) (hs : X.env.scope = d.sc) (hm : ∀ x ∈ G.xcs, X.mg x = some (.ref (ca X.K x))) : ∀ {hds : List ExceptHandler} {xs : List Hd}, clsB G d hds xs = true → clsF X.K G hds xs = true → HdsC X hds (jTh X.K G d hds xs)
 | [], [], _, _ => .nil
 | [], _ :: _, h, _ => by cases h
 | _ :: _, [], h, _ => by cases h
 | h :: hds, x :: xs, hb, hF => by
  simp only [clsB, clsF, wab] at hb hF
  have ih := jRz hR hN hs hm hb.2 hF.2.2
  have h1 := hb.1
  unfold hclB at h1
  split at h1
  ·rename_i ce n e p p2
   simp only [wab, wam, wag, waT] at h1
   obtain ⟨⟨⟨g0, g1⟩, g2⟩, g3⟩ := h1
   have hF1 := hF.2.1
   rw [wag] at hF1
   refine .cons (c := clOf X.K G d (.ExceptHandler (some ce) n [.Return (some e) p] p2) x) (jTy hs hm g0 g1) ?_ (fun a oe cls dd pn hz hf => jYi (j94 hR hN hs g2 g3 (fun f hf q hq => ?_) hz hf)) ih
   ·show NmOk X n (jIo d n)
    cases n with
    | none => trivial
    | some y =>
     simp only [nmB, wab, waj] at g2
     exact ⟨by rw [hN]; exact g2.1.1.1, by show X.env.scope.names.lookup y = _; rw [hs]; exact g2.1.1.2⟩
   ·have := hF1 f hf
    rw [wag] at this
    have := this q hq
    rw [wab, wac] at this
    exact ⟨xfB_ok this.1, this.2⟩
  ·cases h1
theorem jSv : ∀ {hds : List ExceptHandler} {xs : List Hd}, clsB G d hds xs = true → clsF K G hds xs = true → CLnk G.exs K d.N.length (jTh K G d hds xs) xs
 | [], [], _, _ => .nil
 | [], _ :: _, h, _ => by cases h
 | _ :: _, [], h, _ => by cases h
 | h :: hds, x :: xs, hb, hF => by
  simp only [clsB, clsF, wab] at hb hF
  have ih := jSv hb.2 hF.2.2
  have h1 := hb.1
  unfold hclB at h1
  split at h1
  ·rename_i ce n e p p2
   simp only [wab] at h1
   obtain ⟨⟨⟨g0, g1⟩, g2⟩, g3⟩ := h1
   have hF1 : G.exs.all (fun q => decide (PySem.W.exmAny K (.ref (ca K q.1)) ((ceN ce).map fun x => .ref (ca K x)) = some (x.cs.contains q.1))) = true := hF.1
   rw [wag] at hF1
   refine .blk (c := clOf K G d (.ExceptHandler (some ce) n [.Return (some e) p] p2) x) (h1 := [x]) (o := hbO x.b) (fun q hq => ?_) (fun h => jZ8 h) (fun q hq vs ha => ?_) (fun j ej => ?_) ih
   ·have := hF1 q hq
    rw [wac] at this
    show PySem.W.exmAny K _ ((ceN ce).map fun x => .ref (ca K x)) = some (x.cs.contains q.1 || false)
    rw [this, Bool.or_false]
   ·have ha : x.cs.contains q.1 = true := by simpa using ha
    show hbT q.2.reverse vs x.b = if x.cs.contains q.1 then hbT q.2.reverse vs x.b else none
    rw [if_pos ha]
   ·have ej : jIo d n = some j := ej
    cases n with
    | none => cases ej
    | some y =>
     cases ej
     simp only [nmB, wab, waj] at g2
     exact (waf.mp g2.1.1.1).1
  ·cases h1
end
theorem jNj {K : PySem.W.Frag} {G : Gs} {d : Sx} : ∀ {hds : List ExceptHandler} {xs : List Hd}, clsB G d hds xs = true → trF K G (hds.map ceH) xs = true → clsF K G hds xs = true
 | [], [], _, _ => rfl
 | [], _ :: _, h, _ => by cases h
 | _ :: _, [], h, _ => by cases h
 | h :: hds, x :: xs, hb, hF => by
  simp only [clsB, wab] at hb
  have h1 := hb.1
  unfold hclB at h1
  split at h1
  ·simp only [war, trF, ceH, wab] at hF
   simp only [clsF, clF, wab]
   exact ⟨hF.1, hF.2.1, jNj hb.2 hF.2.2⟩
  ·cases h1
def Sx.inL (c : Sx) (scope : Scope) : Sx := ⟨c.N, scope, some scope, false⟩
def plT : Expr → Bool
 | .UnaryOp .Not _ _ => false
 | .BoolOp _ _ _ => false
 | .IfExp _ _ _ _ => false
 | .Compare _ _ _ _ => false
 | _ => true
theorem jDb {e : Expr} (h : plT e = true) (env : PySem.Env) : ∀ whole, isTrue e env whole = (do let v ← whole; standAt e.pos; holding [v] (truthy v)) := by
 intro whole
 cases e with
 | UnaryOp op a p => cases op <;> first | rfl | (cases h; done)
 | _ => first | rfl | (cases h; done)
section
variable {X : Cx} {rx : RX} {W : WX} {Φ : Calls} {e : Expr} {x : Ex}
theorem Er.ofE (h : PE X e (DE X.K rx W Φ x)) (q : trE x = escE x) (f : fresh x = false) (p : plT e = true) : Er X rx W Φ e x :=
 ⟨h, peDW h q, (fun z => by rw [f] at z; cases z), jC4 (peDW h q) (jDb p X.env)⟩
theorem Er.ofF (h : PE X e (DF X.K rx W Φ x)) (q : trE x = escE x) (p : plT e = true) : Er X rx W Φ e x :=
 ⟨peDE h, peDW (peDE h) q, fun _ => h, jC4 (peDW (peDE h) q) (jDb p X.env)⟩
theorem Er.dr (h : Er X rx W Φ e x) : PE X e (DR X.K rx W Φ x) := by
 cases f : fresh x with
 | true => exact jAq (h.df f) fun σ H Q ⟨F, S, as, E, C, sim, no, out⟩ => ⟨F, S, as, E, C, sim, no, out.imp fun _ _ _ _ _ r => by unfold rFr; rw [f, if_pos rfl]; exact r⟩
 | false => exact jAq h.de fun σ H Q ⟨F, S, as, E, C, sim, no, out⟩ => ⟨F, S, as, E, C, sim, no, out.imp fun _ _ _ _ _ r => by unfold rFr; rw [f, if_neg waa]; exact r⟩
end
section
variable {X : Cx} {c : Sx} {CX : CXT} {k : Nat} {rx : RX} {Φ : Calls} {G : Gs} {W : WX} {e : Expr} {x y z : Ex}
variable {ra rb rd : Ck}
theorem j07 {i : Nat} (o : XOk X c CX k rx Φ G) (h : kVar c i e = true) : Er X rx W Φ e (.var i) := by
 cases e with
 | Name x p =>
  have v := jCm o.N o.sc (show varB c i x = true from h)
  exact ⟨jE1 v.ix v.vis v.d v.c, jC1 v.ix v.vis v.d v.c, (fun z => nomatch z), jC4 (jC1 v.ix v.vis v.d v.c) (jDb rfl X.env)⟩
 | _ => cases h
theorem jZr {t : T} (o : XOk X c CX k rx Φ G) (h : conB G c t e = true) : Er X rx W Φ e (.con t) := by
 have key : PE X e (DE X.K rx W Φ (.con t)) ∧ plT e = true := by
  cases e with
  | Constant k kk p =>
   refine ⟨?_, rfl⟩
   cases k with
   | int i => obtain rfl := jBf h; exact jBn pe_int fun S as => .int i
   | bool b => obtain rfl := jBf h; exact jBn pe_bl fun S as => .bl b
   | none => obtain rfl := jBf h; exact jBn pe_non fun S as => .non
   | str x =>
    simp only [conB, wab, wac] at h
    obtain rfl := jBf h.1.1
    exact jBn pe_str fun S as => .str ⟨h.1.2, h.2⟩
   | _ => cases h
  | Name x p =>
   refine ⟨?_, rfl⟩
   simp only [conB, wab, wam, wax, waj] at h
   obtain ⟨⟨hg, hd⟩, q, hq, e1, e2⟩ := h
   obtain ⟨u, v, h1, h2, h3⟩ := o.g.cons q hq
   rw [e1] at h1
   rw [← jBf e2] at h3
   exact jBn (v := v) ⟨fun pins s σ H Q I hQ => ld_glob I (jHg o.sc hg) h1 ⟨v, H, I, h2, hQ⟩ hd⟩ h3
  | _ => cases h
 exact .ofE key.1 rfl rfl key.2
theorem jS7 {op : Operator} (ha : IhE X rx W Φ c ra x) (hb : IhE X rx W Φ c rb y) (h : kBin c op ra rb e = true) : Er X rx W Φ e (.bin op x y) := by
 cases e with
 | BinOp a op' b p =>
  simp only [kBin, wab, wac] at h
  obtain ⟨⟨rfl, h1⟩, h2⟩ := h
  exact .ofF (jV1 (ha a h1).dw (hb b h2).dw) rfl rfl
 | _ => cases h
theorem j1k (ha : IhE X rx W Φ c ra x) (h : kNeg c ra e = true) : Er X rx W Φ e (.neg x) := by
 cases e with
 | UnaryOp op a p =>
  cases op with
  | USub => exact .ofE (jUj (ha a h).dw) rfl rfl rfl
  | _ => cases h
 | _ => cases h
theorem j81 (ha : IhE X rx W Φ c ra x) (h : kNt c ra e = true) : Er X rx W Φ e (.nt x) := by
 cases e with
 | UnaryOp op a p =>
  cases op with
  | Not =>
   have q := ha a h
   exact ⟨jMe q.dw, peDW (jMe q.dw) rfl, (fun z => nomatch z), j1f q.dt⟩
  | _ => cases h
 | _ => cases h
theorem jZg {op : CmpOp} (o : XOk X c CX k rx Φ G) (ha : IhE X rx W Φ c ra x) (hb : IhE X rx W Φ c rb y) (h : kCmp c op ra rb e = true) : Er X rx W Φ e (.cmp op x y) := by
 unfold kCmp at h
 split at h
 ·simp only [wab, wac, wam] at h
  obtain ⟨⟨⟨rfl, h1⟩, h2⟩, h3⟩ := h
  have hu : X.A.units + 65 < cLine := by have := o.units; omega
  exact ⟨jDo hu h3 (ha _ h1).dw (hb _ h2).dw, peDW (jDo hu h3 (ha _ h1).dw (hb _ h2).dw) rfl, (fun z => nomatch z), jIe hu h3 (ha _ h1).dw (hb _ h2).dw⟩
 ·cases h
theorem jPw {op op' : CmpOp} (o : XOk X c CX k rx Φ G) (ha : IhE X rx W Φ c ra x) (hb : IhE X rx W Φ c rb y) (hd : IhE X rx W Φ c rd z) (h : jFj c op op' ra rb rd e = true) : Er X rx W Φ e (.chain op op' x y z) := by
 unfold jFj at h
 split at h
 ·simp only [wab, wac, wam] at h
  obtain ⟨⟨⟨⟨⟨rfl, rfl⟩, h1⟩, h2⟩, h3⟩, h4⟩ := h
  have hu : X.A.units + 65 < cLine := by have := o.units; omega
  exact ⟨jC8 hu h4 (ha _ h1).dw (hb _ h2).dw (hd _ h3).dw, peDW (jC8 hu h4 (ha _ h1).dw (hb _ h2).dw (hd _ h3).dw) rfl, (fun z => nomatch z), jGz hu h4 (ha _ h1).dw (hb _ h2).dw (hd _ h3).dw⟩
 ·cases h
theorem jN1 (ha : IhE X rx W Φ c ra x) (hb : IhE X rx W Φ c rb y) (h : kAnd c ra rb e = true) : Er X rx W Φ e (.and x y) := by
 unfold kAnd at h
 split at h
 ·rw [wab] at h
  have qa := ha _ h.1
  have qb := hb _ h.2
  refine ⟨jFz okE qa.de (pe_one qb.de), jFz okW qa.dw (pe_one qb.dw), (fun z => nomatch z), ?_⟩
  exact (jOn qa.dt (pw_and1 qb.dt)).pt
 ·rw [wab] at h
  have qa := ha _ h.1
  have qb := hb _ h.2
  refine ⟨jFz okE qa.de qb.de, jFz okW qa.dw qb.dw, (fun z => nomatch z), ?_⟩
  exact (jOn qa.dt ⟨fun wh pins s σ H Q I q => qb.dt.run pins s σ H Q I q⟩).pt
 ·cases h
theorem j8u (ha : IhE X rx W Φ c ra x) (hb : IhE X rx W Φ c rb y) (h : kOr c ra rb e = true) : Er X rx W Φ e (.or x y) := by
 unfold kOr at h
 split at h
 ·rw [wab] at h
  have qa := ha _ h.1
  have qb := hb _ h.2
  refine ⟨jJl okE qa.de (pe_one qb.de), jJl okW qa.dw (pe_one qb.dw), (fun z => nomatch z), ?_⟩
  exact (jSj qa.dt (pw_or1 qb.dt)).pt
 ·rw [wab] at h
  have qa := ha _ h.1
  have qb := hb _ h.2
  refine ⟨jJl okE qa.de qb.de, jJl okW qa.dw qb.dw, (fun z => nomatch z), ?_⟩
  exact (jSj qa.dt ⟨fun wh pins s σ H Q I q => qb.dt.run pins s σ H Q I q⟩).pt
 ·cases h
theorem jZ9 (o : XOk X c CX k rx Φ G) (ha : IhE X rx W Φ c ra x) (hb : IhE X rx W Φ c rb y) (h : kIdx c ra rb e = true) : Er X rx W Φ e (.idx x y) := by
 cases e with
 | Subscript a b p =>
  simp only [kIdx, wab] at h
  have hu : X.A.units + 1 < cLine := by have := o.units; omega
  exact .ofE (jOl hu (jFu h.2) (ha a h.1.1).dw (hb b h.1.2).dw) rfl rfl rfl
 | _ => cases h
end
section
variable {X : Cx} {c : Sx} {CX : CXT} {k : Nat} {rx : RX} {Φ : Calls} {G : Gs} {W : WX} {e : Expr} {x y z : Ex} {ra rb rd : Ck} {rl : CkL}
theorem jL4 (hc : IhE X rx W Φ c ra x) (ha : IhE X rx W Φ c rb y) (hb : IhE X rx W Φ c rd z) (h : kIte c ra rb rd e = true) : Er X rx W Φ e (.ite x y z) := by
 cases e with
 | IfExp t a b p =>
  simp only [kIte, wab] at h
  have q0 := hc t h.1.1
  have q1 := ha a h.1.2
  have q2 := hb b h.2
  refine ⟨jIn q0.dt q1.de q2.de, jIn q0.dt q1.dw q2.dw, fun f => ?_, jUg q0.dt q1.dt q2.dt⟩
  have f : (fresh y && fresh z) = true := f
  rw [wab] at f
  exact jIn q0.dt (q1.df f.1) (q2.df f.2)
 | _ => cases h
structure ErS (X : Cx) (rx : RX) (W : WX) (Φ : Calls) (es : List Expr) (xs : Exs) : Prop where
 de : es.all noStar = true → PA X es (DA X.K rx W Φ xs)
 dw : es.all noStar = true → PA X es (Dn X.K rx W (trS xs) (evS Φ xs) (rL (rW X.K)))
 sl : es.all noStar = true → PA X es (Dn X.K rx W (escS xs) (evS Φ xs) (rSl X.K xs))
 len : lenS xs = es.length
 hd : ∀ d ds, es = d :: ds → ∃ xa ys, xs = .cons xa ys ∧ Er X rx W Φ d xa ∧ lenS ys = ds.length
 two : ∀ d d2, es = [d, d2] → ∃ xa xb, xs = .cons xa (.cons xb .nil) ∧ Er X rx W Φ d xa ∧ Er X rx W Φ d2 xb
 arg : ∀ (as : List Expr) (kws : List Keyword), es = as ++ kws.map (·.value) → as.all noStar = true → PA X as (DA X.K rx W Φ (jCa as.length xs)) ∧ PK X kws (DA X.K rx W Φ (jCw as.length xs))
abbrev IhS (X : Cx) (rx : RX) (W : WX) (Φ : Calls) (c : Sx) (r : CkL) (xs : Exs) : Prop := ∀ es, r c es = true → ErS X rx W Φ es xs
abbrev IhL (X : Cx) (rx : RX) (W : WX) (Φ : Calls) (c : Sx) (r : CkL) (xs : Els) : Prop := ∀ es, r c es = true → PA X es (Dn X.K rx W (escL xs) (evL Φ xs) (rS X.K))
theorem jHx {es : List Expr} (h : kNil es = true) : ErS X rx W Φ es .nil := by
 cases es with
 | nil =>
  refine ⟨fun _ => jGe, fun _ => jGe, fun _ => jZc, rfl, (fun _ _ z => by cases z), (fun _ _ z => by cases z), fun as kws he _ => ?_⟩
  obtain ⟨rfl, h2⟩ := List.append_eq_nil_iff.mp he.symm
  obtain rfl := List.map_eq_nil_iff.mp h2
  exact ⟨jGe, jW2⟩
 | cons => cases h
theorem jGj {xs : Exs} {es : List Expr} (ha : IhE X rx W Φ c ra x) (hr : IhS X rx W Φ c rl xs) (h : jNh c ra rl es = true) : ErS X rx W Φ es (.cons x xs) := by
 cases es with
 | nil => cases h
 | cons e es =>
  simp only [jNh, wab] at h
  have q := ha e h.1
  have r := hr es h.2
  have st : (e :: es).all noStar = true → starEach (e :: es) X.env = (false, eval e X.env) :: starEach es X.env ∧ es.all noStar = true := fun n => by
   rw [waR, wab] at n
   exact ⟨jAd n.1, n.2⟩
  exact ⟨fun n => jF1 okE q.de (r.de (st n).2) (st n).1, fun n => jF1 okW q.dw (r.dw (st n).2) (st n).1, fun n => jZk q.dr (r.sl (st n).2) (st n).1, by rw [lenS, r.len, waq], (fun d ds z => by cases z; exact ⟨x, xs, rfl, q, r.len⟩), (fun d d2 z => by
   cases z
   obtain ⟨xb, ys, e1, e2, e3⟩ := r.hd d2 [] rfl
   subst e1
   cases ys with
   | nil => exact ⟨x, xb, rfl, q, e2⟩
   | cons => simp [lenS] at e3), fun as kws he n => by
   cases as with
   | nil =>
    cases kws with
    | nil => cases he
    | cons kw kws =>
     obtain ⟨nm, v, kp⟩ := kw
     injection he with e1 e2
     have e1 : e = v := e1
     subst e1
     exact ⟨jGe, jPi okE q.de (r.arg [] kws e2 rfl).2⟩
   | cons a as =>
    injection he with e1 e2
    subst e1
    rw [waR, wab] at n
    obtain ⟨h1, h2⟩ := r.arg as kws e2 n.2
    exact ⟨jF1 okE q.de h1 (jAd n.1), h2⟩⟩
theorem jL3 {es : List Expr} (h : kNil es = true) : PA X es (Dn X.K rx W (escL .nil) (evL Φ .nil) (rS X.K)) := by
 cases es with
 | nil => exact jZo
 | cons => cases h
theorem jMt {xs : Els} {es : List Expr} (ha : IhE X rx W Φ c ra x) (hr : IhL X rx W Φ c rl xs) (h : kOne c ra rl es = true) : PA X es (Dn X.K rx W (escL (.one x xs)) (evL Φ (.one x xs)) (rS X.K)) := by
 cases es with
 | nil => cases h
 | cons e es =>
  simp only [kOne, wab] at h
  exact jZ6 (ha e h.1.2).de (hr es h.2) (jAd h.1.1)
theorem jRa {xs : Els} {es : List Expr} (ha : IhE X rx W Φ c ra x) (hr : IhL X rx W Φ c rl xs) (h : jVh c ra rl es = true) : PA X es (Dn X.K rx W (escL (.star x xs)) (evL Φ (.star x xs)) (rS X.K)) := by
 cases es with
 | nil => cases h
 | cons e es =>
  cases e with
  | Starred a p =>
   simp only [jVh, wab] at h
   exact jW9 (ha a h.1).dw (hr es h.2) rfl
  | _ => cases h
theorem jYn {xs : Els} (hl : IhL X rx W Φ c rl xs) (h : kTup c rl e = true) : Er X rx W Φ e (.tup xs) := by
 cases e with
 | Tuple es kk p => exact .ofE (jU6 (hl es h)) rfl rfl rfl
 | _ => cases h
theorem jTb {xs : Els} (hl : IhL X rx W Φ c rl xs) (h : kLst c rl e = true) : Er X rx W Φ e (.lst xs) := by
 cases e with
 | List es p => exact .ofF (jWc (hl es h)) rfl rfl
 | _ => cases h
def ErD (X : Cx) (rx : RX) (W : WX) (Φ : Calls) : Dps → List (Option Expr) → List Expr → Prop
 | .nil, [], [] => True
 | .kv k v r, some a :: ks, b :: vs => Er X rx W Φ a k ∧ Er X rx W Φ b v ∧ ErD X rx W Φ r ks vs
 | .star x r, none :: ks, b :: vs => Er X rx W Φ b x ∧ ErD X rx W Φ r ks vs
 | _, _, _ => False
theorem j45 {ks : List (Option Expr)} {vs : List Expr} (h : kDn ks vs = true) : ErD X rx W Φ .nil ks vs := by
 unfold kDn at h
 split at h
 ·trivial
 ·cases h
theorem j7t {ks : List (Option Expr)} {vs : List Expr} {rd2 : CkD} {r : Dps} (ha : IhE X rx W Φ c ra x) (hb : IhE X rx W Φ c rb y) (hr : ∀ ks vs, rd2 c ks vs = true → ErD X rx W Φ r ks vs) (h : kDk c ra rb rd2 ks vs = true) : ErD X rx W Φ (.kv x y r) ks vs := by
 unfold kDk at h
 split at h
 ·simp only [wab] at h
  exact ⟨ha _ h.1.1, hb _ h.1.2, hr _ _ h.2⟩
 ·cases h
theorem j5l {ks : List (Option Expr)} {vs : List Expr} {rd2 : CkD} {r : Dps} (ha : IhE X rx W Φ c ra x) (hr : ∀ ks vs, rd2 c ks vs = true → ErD X rx W Φ r ks vs) (h : kDst c ra rd2 ks vs = true) : ErD X rx W Φ (.star x r) ks vs := by
 unfold kDst at h
 split at h
 ·simp only [wab] at h
  exact ⟨ha _ h.1, hr _ _ h.2⟩
 ·cases h
theorem jNs {l : Bool} {lo : Option Expr} (ha : IhE X rx W Φ c ra x) (h : jQu c l ra lo = true) : PO X lo (DP' X.K rx W Φ l x) := by
 cases lo with
 | none =>
  cases l with
  | true => cases h
  | false => exact jQo
 | some e =>
  simp only [jQu, wab] at h
  obtain ⟨rfl, h⟩ := h
  exact jPt (ha e h).dw
theorem jYs {l m : Bool} (ha : IhE X rx W Φ c ra x) (hl : IhE X rx W Φ c rb y) (hh : IhE X rx W Φ c rd z) (h : kSlc c l m ra rb rd e = true) : Er X rx W Φ e (.slc l m x y z) := by
 unfold kSlc at h
 split at h
 ·simp only [wab] at h
  exact .ofF (jVo (ha _ h.1.1).dw (jNs hl h.1.2) (jNs hh h.2)) rfl rfl
 ·cases h
theorem jUp {cl f : Str} (o : XOk X c CX k rx Φ G) (ha : IhE X rx W Φ c ra x) (h : jUk G c cl f ra e = true) : Er X rx W Φ e (.attr x cl f) := by
 cases e with
 | Attribute a f' p =>
  simp only [jUk, wab, waj, wax] at h
  obtain ⟨⟨⟨rfl, h1⟩, q, hq, e1, e2⟩, h2⟩ := h
  obtain ⟨g1, g2⟩ := o.g.fld q hq
  rw [e1] at g1 g2
  rw [e2] at g2
  exact .ofE (jQx g1 g2 (ha a h2).dw (jB8 h1)) rfl rfl rfl
 | _ => cases h
theorem jVx {cl f : Str} (o : XOk X c CX k rx Φ G) (nx : NoX CX) (ha : IhE X rx W Φ c ra x) (h : jTe G c cl f ra e = true) : Er X rx W Φ e (.prop x cl f) := by
 cases e with
 | Attribute a f' p =>
  simp only [jTe, wab, waj, wax] at h
  obtain ⟨⟨⟨rfl, h1⟩, ⟨c1, f1⟩, hq, e1, e2⟩, h2⟩ := h
  obtain rfl : c1 = cl := e1
  obtain rfl : f1 = f' := e2
  obtain ⟨fa, q, ps, dT, g1, g2, g3, g4, g5⟩ := o.g.prp _ hq
  exact .ofE (jP9 g1 g2 g5 g3 g4 o.room o.gd (nx X.nox) (ha a h2).de (jB8 h1)) rfl rfl rfl
 | _ => cases h
end
section
variable {X : Cx} {c : Sx} {CX : CXT} {k : Nat} {rx : RX} {Φ : Calls} {G : Gs} {W : WX} {e : Expr} {x y z : Ex} {ra rb rd : Ck} {rl : CkL}
theorem j0s {b : Bi} {n : Str} (o : XOk X c CX k rx Φ G) (h : biX b = some n) : (∃ id, bootBuiltins n = some (.builtin id) ∧ CallR X (.builtin id) (rBi X.K rx W b)) ∨ ∃ T, bootBuiltins n = some (.type T) ∧ CallR X (.type T) (rBi X.K rx W b) := by
 have hc := o.calm
 cases b <;> simp only [biX] at h <;> cases h
 ·exact .inl ⟨_, by kernel_rfl, j0c⟩
 ·exact .inr ⟨_, by kernel_rfl, jXw⟩
 ·exact .inl ⟨_, by kernel_rfl, jUv hc⟩
 ·exact .inr ⟨_, by kernel_rfl, jN0⟩
 ·exact .inr ⟨_, by kernel_rfl, jPf hc⟩
 ·exact .inl ⟨_, by kernel_rfl, jJg o.gd o.units⟩
 ·exact .inr ⟨_, by kernel_rfl, jWm⟩
theorem jUr {b : Bi} {n : Str} (h : biX b = some n) : n ≠ "__name__" ∧ (n == ("__debug__" : Str)) = false := by
 cases b <;> simp only [biX] at h <;> cases h <;> exact ⟨by decide, by decide⟩
theorem j9b {b : Bi} {xs : Exs} (o : XOk X c CX k rx Φ G) (hl : IhS X rx W Φ c rl xs) (h : kBi G c b rl e = true) : Er X rx W Φ e (.bi b xs) := by
 unfold kBi at h
 split at h
 ·simp only [wab, waj] at h
  obtain ⟨⟨⟨h1, h2⟩, h3⟩, h4⟩ := h
  have q := (hl _ h4).dw h3
  rw [waR, wab] at h3
  obtain ⟨n1, n2⟩ := jUr h1
  rcases j0s (W := W) o h1 with ⟨id, hv, hr⟩ | ⟨T, hv, hr⟩
  ·exact .ofF (jRx hr (o.blt h2).1 (o.blt h2).2 hv q n1 n2 (jAd h3.1) (jCo h3.2)) rfl rfl
  ·exact .ofF (j0e hr (o.blt h2).1 (o.blt h2).2 hv q n1 n2 (jAd h3.1) (jCo h3.2)) rfl rfl
 ·cases h
theorem j1z {kws : List Keyword} (h : kwB kws = true) : kws.map (·.arg) = (ksOf kws).map some := waC h
abbrev IhC (CX : CXT) (k : Nat) (rx : RX) (Φ : Calls) (G : Gs) (ra : List Str → Scope → List LamD → Bool) (es : Exs) : Prop := ∀ N sc ds, ra N sc ds = true → ds.length = (exsL es).length ∧ ∀ (j : Nat) (e : Ex) (d : LamD), (exsL es)[j]? = some e → ds[j]? = some d →
 jZs d.params = true ∧ LamX.lamSB sc d.scope = true ∧ ∀ (Y : Cx) (W' : WX), XOk Y ⟨N, d.scope, some d.scope, false⟩ CX k rx Φ G → (∀ σ, PassesAt CX Y σ (WE W' σ)) → Er Y rx W' Φ d.body e
theorem jTq {f : Str} {xs : Exs} (o : XOk X c CX k rx Φ G) (hx : ∀ σ, PassesAt CX X σ (WE W σ)) (hl : IhS X rx W Φ c rl xs) (h : jTw G c f (lenS xs) rl e = true) : Er X rx W Φ e (.call f xs) := by
 unfold jTw at h
 split at h
 ·simp only [jQy, wab, waj, wam, wac, wax] at h
  obtain ⟨⟨⟨⟨⟨⟨⟨rfl, h1⟩, h2⟩, h3⟩, h4⟩, h5⟩, h6⟩, q, hq, e1, h7⟩ := h
  obtain ⟨fa, g1, g2⟩ := o.g.fns q hq
  rw [e1] at g1 g2
  obtain ⟨a1, a2⟩ := (hl _ h6).arg _ _ rfl h3
  exact .ofE (jQ0 g2 (o.room.mono (Nat.le_succ _)) o.gd hx (jHg o.sc h1) g1 h2 h3 (j1z h4) h5 h7 a1 a2) rfl rfl rfl
 ·cases h
theorem jHn {env : PySem.Env} {pos : Pos} : ∀ {es : List Expr}, es.all noStar = true → (backTo pos (starEach es env)).all (fun x => !x.1) = true
 | [], _ => rfl
 | a :: es, h => by
  rw [waR, wab] at h
  rw [jAd h.1]
  exact jHn h.2
theorem jMb {o : Expr} {m : Str} {apos pos : Pos} {es : List Expr} {env : PySem.Env} (h : jBl o = true) (hst : es.all noStar = true) (hn : es.length < 30) (hl : (apos.endLine == pos.line) = true) : eval (.Call (.Attribute o m apos) es [] pos) env = (do
   let ov ← eval o env
   standAt apos.atName
   let (f, first) ← holding [ov] (getMethod ov m (plainOf o env))
   callWith pos f first (backTo pos (starEach es env)) (backToKw pos (keywordEach [] env))) := by
 have e0 : eval (.Call (.Attribute o m apos) es [] pos) env = (do
   let ov ← attributeBase o m env (eval o env)
   standAt apos.atName
   methodCall o m apos pos env ov (es.length + ([] : List Keyword).length) (backTo pos (starEach es env)) (backToKw pos (keywordEach [] env))) := by rw [eval]
 rw [e0, jB8 h]
 have hf : methodCallForm (es.length + ([] : List Keyword).length) (backTo pos (starEach es env)) (backToKw pos (keywordEach [] env)) = true := by
  unfold methodCallForm
  rw [jHn hst]
  show (true && true && decide (es.length + 0 + 0 < 30)) = true
  rw [Bool.and_true, Bool.true_and, wac]
  omega
 congr 1
 funext ov
 congr 1
 funext u
 exact mcall_line hf hl
abbrev IhF (X : Cx) (rx : RX) (W : WX) (Φ : Calls) (c : Sx) (r : CkL) (xs : Exs) : Prop := ∀ es, r c es = true → ∃ ts, FP X rx W Φ es ts xs
theorem jWs : ∀ es, kNil es = true → ∃ ts, FP X rx W Φ es ts .nil
 | [], _ => ⟨_, .nil⟩
 | _ :: _, h => by cases h
theorem jQs {xs : Exs} {es : List Expr} (ha : IhE X rx W Φ c ra x) (hr : IhF X rx W Φ c rl xs) (h : jLv c x ra rl es = true) : ∃ ts, FP X rx W Φ es ts (.cons x xs) := by
 unfold jLv at h
 split at h
 ·simp only [wab, waj] at h
  obtain ⟨⟨rfl, h1⟩, h2⟩ := h
  obtain ⟨ts, r⟩ := hr _ h2
  exact ⟨_, .fmt (ha _ h1).dw r⟩
 ·simp only [wab] at h
  obtain ⟨⟨h0, h1⟩, h2⟩ := h
  obtain ⟨ts, r⟩ := hr _ h2
  unfold jSt at h0
  split at h0
  ·exact ⟨_, .con (ha _ h1).dw r⟩
  ·cases h0
 ·cases h
theorem jUt {cl m : Str} {xs : Exs} (o : XOk X c CX k rx Φ G) (hx : ∀ σ, PassesAt CX X σ (WE W σ)) (ha : IhE X rx W Φ c ra x) (hl : IhS X rx W Φ c rl xs) (h : jVm G c cl m (lenS xs) ra rl e = true) : Er X rx W Φ e (.meth x cl m xs) := by
 unfold jVm at h
 split at h
 ·simp only [wab, waj, wac, wax] at h
  obtain ⟨⟨⟨⟨⟨⟨⟨⟨rfl, h1⟩, h2⟩, h3⟩, h4⟩, h5⟩, ⟨c1, m1, ps1⟩, hq, ⟨e1, e2⟩, e3⟩, h6⟩, h7⟩ := h
  have g := o.g.mts _ hq
  obtain rfl : c1 = cl := e1
  obtain rfl : m1 = _ := e2
  obtain ⟨fa, dT, g1, g2, g3, g4, Fn⟩ := g.ex
  have a2 := (hl _ h7).de h3
  exact .ofE (jQw Fn (o.room.mono (Nat.le_succ _)) o.gd hx g1 g2 h3 e3 h5 g3 (ha _ h6).de a2 (jMb h1 h3 h4 (by rw [h2]; exact wa6 _))) rfl rfl rfl
 ·cases h
end
section
variable {X : Cx} {c : Sx} {CX : CXT} {k : Nat} {rx : RX} {Φ : Calls} {G : Gs} {W : WX} {e : Expr} {x y z : Ex} {ra rb rd : Ck} {rl : CkL}
theorem jVr {e : Expr} {env : PySem.Env} (h : jM0 e = true) : ∀ x, foldedSetIterable e env x = pure x := by
 intro x
 unfold foldedSetIterable
 cases e <;> first | rfl | (cases h; done)
def tgtK : Tg → Expr → Bool
 | .nm _, .Tuple _ _ _ => false
 | _, _ => true
theorem jB3 {c : Sx} {tg : Tg} {e : Expr} (h : tgtB c tg e = true) : tgtK tg e = true := by
 cases tg with
 | nm i => cases e <;> first | rfl | (cases h; done)
 | tp is => cases e <;> rfl
 | tn i is => cases e <;> rfl
structure ErR (X : Cx) (rx : RX) (W : WX) (Φ : Calls) (tg e : Expr) (s : Src) : Prop where
 j : ∀ tgt, tgtK tgt tg = true → PI X tg e (Dn X.K rx W (escR s) (evR Φ s) (rJ X.K tgt))
 i : ∀ tgt, tgtK tgt tg = true → PI X tg e (Dn X.K rx W (escF s) (evR Φ s) (rI X.K tgt))
 f : ∀ (env : PySem.Env) x, foldedSetIterable e env x = pure x
theorem j04 {tgt : Tg} {tg e : Expr} {is : List Nat} {s : Src} (h : PI X tg e (Dn X.K rx W is (evR Φ s) (rI X.K tgt))) : PI X tg e (Dn X.K rx W is (evR Φ s) (rJ X.K tgt)) :=
 jWo h fun σ H Q ⟨F, S, as, E, C, sim, no, out⟩ => ⟨F, S, as, E, C, sim, no, out.imp fun _ _ _ _ _ r => rI_J r⟩
theorem jY3 {tg : Expr} (ha : IhE X rx W Φ c ra x) (h : (ra c e && jM0 e) = true) : ErR X rx W Φ tg e (.of x) := by
 rw [wab] at h
 exact ⟨fun _ _ => jSw j7z (ha e h.1).dw, fun _ _ => jSw j6u (ha e h.1).de, fun env => jVr h.2⟩
theorem jPd {tg : Expr} (o : XOk X c CX k rx Φ G) (ha : IhE X rx W Φ c ra x) (h : jT2 G c ra e = true) : ErR X rx W Φ tg e (.rng1 x) := by
 unfold jT2 at h
 split at h
 ·simp only [wab, waj] at h
  obtain ⟨⟨⟨rfl, h1⟩, h2⟩, h3⟩ := h
  exact ⟨fun _ _ => j04 (jJf (o.blt h1).1 (o.blt h1).2 (jAd h2) (ha _ h3).dw), fun _ _ => jJf (o.blt h1).1 (o.blt h1).2 (jAd h2) (ha _ h3).dw, fun env x => rfl⟩
 ·cases h
theorem jDz {X' : Cx} {c' : Sx} {ifs : List Expr} (ha : IhE X' rx WF Φ c' ra x) (h : kIfs c' x ra ifs = true) : PTs X' ifs (DT X'.K rx WF Φ x) := by
 match ifs, h with
 | [], h =>
  have h : jWk x = true := h
  unfold jWk at h
  split at h
  ·exact ⟨fun pins s σ H Q I ⟨F, S, as, E, C, sim, no, out⟩ => pts_nil.run pins s σ H Q I (out.here sim rfl)⟩
  ·cases h
 | [t], h => exact pts_one (ha t h).dt
 | _ :: _ :: _, h => cases h
theorem j1j {ws : List Nat} {tg : Tg} {src : Src} {rs : CkR} (o : XOk X c CX k rx Φ G) (hs : ∀ tg e, rs c tg e = true → ErR X rx W Φ tg e src) (hc : IhB c CX k rx Φ G ra x) (he : IhB c CX k rx Φ G rb y) (h : kLc c ws tg x rs ra rb e = true) : Er X rx W Φ e (.lc ws tg src x y) := by
 unfold kLc at h
 split at h
 ·simp only [wab, wag] at h
  obtain ⟨⟨⟨⟨⟨h1, h2⟩, h3⟩, h4⟩, h5⟩, h6⟩ := h
  obtain ⟨b1, b2⟩ := jFe h1
  have r := hs _ _ h4
  rename_i elt tg' iter ifs scope pos
  have ok : BlkOk X.N X.env.scope scope (ownB c.N ws) := by rw [o.N, o.sc]; exact b1
  refine .ofF (x := .lc ws tg src x y) (jZ2 o.calm o.nd (r.j _ (jB3 h2)) ok b2 (fun j hj => by simpa using h3 j hj) (fun s H C cl fp => ?_) (fun s H C cl fp => ?_) (fun s H C cl fp => ?_) (r.f X.env)) rfl rfl
  ·have ob := o.blk scope s H C cl fp
   exact jC5 ob.calm ob.nd ob.N ob.sc ob.fn h2
  ·exact jDz (hc _ scope (o.blk scope s H C cl fp)) h5
  ·exact (he _ scope (o.blk scope s H C cl fp) _ h6).de
 ·cases h
theorem jR4 {ws : List Nat} {tg tg2 : Tg} {src src2 : Src} {rs rs2 : CkR} {rc2 re : Ck} {x2 : Ex} (o : XOk X c CX k rx Φ G) (hs : ∀ tg e, rs c tg e = true → ErR X rx W Φ tg e src) (hs2 : ∀ (X : Cx) (scope : Scope), XOk X (c.in scope) CX k rx Φ G → ∀ tg e, rs2 (c.in scope) tg e = true → ErR X rx WF Φ tg e src2)
  (hc : IhB c CX k rx Φ G ra x) (hc2 : IhB c CX k rx Φ G rc2 x2) (he : IhB c CX k rx Φ G re y) (h : kLc2 c ws tg tg2 x x2 rs rs2 ra rc2 re e = true) : Er X rx W Φ e (.lc2 ws tg src x tg2 src2 x2 y) := by
 unfold kLc2 at h
 split at h
 ·simp only [wab, wag] at h
  obtain ⟨⟨⟨⟨⟨⟨⟨⟨⟨h1, h2⟩, h3⟩, h4⟩, h5⟩, h6⟩, h7⟩, h8⟩, h9⟩, h10⟩ := h
  obtain ⟨b1, b2⟩ := jFe h1
  have r := hs _ _ h6
  rename_i elt tg' iter ifs tg2' iter2 ifs2 scope pos
  have ok : BlkOk X.N X.env.scope scope (ownB c.N ws) := by rw [o.N, o.sc]; exact b1
  have r2 := fun (s : Shared) (H : Hp) (C : Addr) (cl : List (Str × Addr)) (fp : List Addr) => hs2 _ scope (o.blk scope s H C cl fp) _ _ h7
  refine .ofF (x := .lc2 ws tg src x tg2 src2 x2 y) (jUn o.calm o.nd (r.j _ (jB3 h2)) ok b2 (fun j hj => by simpa using h4 j hj) (fun j hj => by simpa using h5 j hj) (fun s H C cl fp => ?_) (fun s H C cl fp => ?_) (fun s H C cl fp => (r2 s H C cl fp).j _ (jB3 h3)) (fun s H C cl fp => ?_) (fun s H C cl fp => ?_) (fun s H C cl fp => ?_) (r.f X.env) (fun env => (r2 X.s_0 X.H_0 0 [] []).f env)) rfl rfl
  ·have ob := o.blk scope s H C cl fp
   exact jC5 ob.calm ob.nd ob.N ob.sc ob.fn h2
  ·exact jDz (hc _ scope (o.blk scope s H C cl fp)) h8
  ·have ob := o.blk scope s H C cl fp
   exact jC5 ob.calm ob.nd ob.N ob.sc ob.fn h3
  ·exact jDz (hc2 _ scope (o.blk scope s H C cl fp)) h9
  ·exact (he _ scope (o.blk scope s H C cl fp) _ h10).de
 ·cases h
theorem jSx {xs : Exs} {d : Expr} (h : ErS X rx W Φ [d] xs) : ∃ xa, xs = .cons xa .nil ∧ Er X rx W Φ d xa := by
 obtain ⟨xa, ys, rfl, h1, h2⟩ := h.hd d [] rfl
 cases ys with
 | nil => exact ⟨xa, rfl, h1⟩
 | cons => cases h2
theorem jZu {ws : List Nat} {tg : Tg} {src : Src} {rs : CkR} {rk : Ck} {xk : Ex} (o : XOk X c CX k rx Φ G) (hs : ∀ tg e, rs c tg e = true → ErR X rx W Φ tg e src) (hc : IhB c CX k rx Φ G ra x) (hk : IhB c CX k rx Φ G rk xk) (he : IhB c CX k rx Φ G rb y) (h : kDc c ws tg x rs ra rk rb e = true) : Er X rx W Φ e (.dc ws tg src x xk y) := by
 unfold kDc at h
 split at h
 ·simp only [wab, wag] at h
  obtain ⟨⟨⟨⟨⟨⟨h1, h2⟩, h3⟩, h4⟩, h5⟩, h6⟩, h7⟩ := h
  obtain ⟨b1, b2⟩ := jFe h1
  have r := hs _ _ h4
  rename_i kx vx tg' iter ifs scope pos
  have ok : BlkOk X.N X.env.scope scope (ownB c.N ws) := by rw [o.N, o.sc]; exact b1
  refine .ofF (x := .dc ws tg src x xk y) (j1l o.calm o.nd (r.j _ (jB3 h2)) ok b2 (fun j hj => by simpa using h3 j hj) (fun s H C cl fp => ?_) (fun s H C cl fp => ?_) (fun s H C cl fp => ?_) (fun s H C cl fp => ?_) (r.f X.env)) rfl rfl
  ·have ob := o.blk scope s H C cl fp
   exact jC5 ob.calm ob.nd ob.N ob.sc ob.fn h2
  ·exact jDz (hc _ scope (o.blk scope s H C cl fp)) h5
  ·exact (hk _ scope (o.blk scope s H C cl fp) _ h6).de
  ·exact (he _ scope (o.blk scope s H C cl fp) _ h7).de
 ·cases h
theorem j80 {b : Bm} {xs : Exs} (o : XOk X c CX k rx Φ G) (ha : IhE X rx W Φ c ra x) (hl : IhS X rx W Φ c rl xs) (h : kBm c b ra rl e = true) : Er X rx W Φ e (.bm b x xs) := by
 unfold kBm at h
 split at h
 ·simp only [wab, waD, waj] at h
  obtain ⟨⟨⟨⟨⟨⟨rfl, hb⟩, h1⟩, h2⟩, h3⟩, h4⟩, h5⟩ := h
  obtain ⟨xa, rfl, q⟩ := jSx (hl _ h5)
  have hu : X.A.units + 65 < cLine := by have := o.units; omega
  have hl2 : ∀ {p q : Pos}, p.endLine = q.line → (p.endLine == q.line) = true := fun e => by rw [e]; exact wa6 _
  rcases hb with ((((rfl | rfl) | rfl) | rfl) | rfl) | rfl
  ·exact .ofE (jG6 hu (ha _ h4).dw q.dw (jB8 h1) (hl2 h2) (jAd h3)) rfl rfl rfl
  ·exact .ofE (jHe hu (ha _ h4).dw q.dw (jB8 h1) (hl2 h2) (jAd h3)) rfl rfl rfl
  ·exact .ofE (jJ1 (ha _ h4).dw q.dw (jB8 h1) (hl2 h2) (jAd h3)) rfl rfl rfl
  ·exact .ofF (jG5 (ha _ h4).dw q.dw (jB8 h1) (hl2 h2) (jAd h3)) rfl rfl
  ·exact .ofE (jFr (ha _ h4).dw q.dw (jB8 h1) (hl2 h2) (jAd h3)) rfl rfl rfl
  ·exact .ofE (jFd hu (ha _ h4).dw q.dw (jB8 h1) (hl2 h2) (jAd h3)) rfl rfl rfl
 ·simp only [wab, waj] at h
  obtain ⟨⟨⟨⟨⟨rfl, rfl⟩, h1⟩, h2⟩, h4⟩, h5⟩ := h
  have hz := (hl _ h5).len
  cases xs with
  | nil => exact .ofE (jG0 (ha _ h4).dw (jB8 h1) (by rw [h2]; exact wa6 _)) rfl rfl rfl
  | cons => simp [lenS] at hz
 ·cases h
theorem jVu {es : Exs} {y z : Str} (h : repS es y z = true) : es = .cons (.con (.str y)) (.cons (.con (.str z)) .nil) := by
 unfold repS at h
 split at h
 ·rw [wab, waj, waj] at h
  rw [h.1, h.2]
 ·cases h
theorem jW3 {b : Bm} {xs : Exs} (ha : IhE X rx W Φ c ra x) (h : jVp c b xs ra e = true) : Er X rx W Φ e (.bm b x xs) := by
 unfold jVp at h
 split at h
 ·simp only [wab, waj, wam] at h
  obtain ⟨⟨⟨⟨⟨rfl, rfl⟩, h1⟩, h2⟩, h3⟩, h4⟩ := h
  obtain rfl := jVu h1
  exact .ofE (jQb (ha _ h4).dw h2 rfl (by rw [h3]; exact wa6 _)) rfl rfl rfl
 ·cases h
end
section
variable {X : Cx} {c : Sx} {CX : CXT} {k : Nat} {rx : RX} {Φ : Calls} {G : Gs} {W : WX} {e : Expr} {rl : CkL}
theorem jSd {K : PySem.W.Frag} {cv : Value} {sub all : List Str} (h : isxF K G cv sub = true) (ha : ∀ k ∈ all, ∃ p ∈ G.exs, p.1 = k) : ∀ c ∈ all, XiC K (ca K c) ∧ PySem.W.kitOne K (.ref (ca K c)) cv = some (sub.contains c) := fun c hc => by
 obtain ⟨p, hp, rfl⟩ := ha c hc
 unfold isxF at h
 have := wag.mp h p hp
 rw [wab, wac] at this
 exact ⟨j6o this.1, this.2⟩
theorem j7e {x : Str} {n : String} {p : Pos} (g : Gl X x ∧ X.mg x = none) (h : exN x = some n) : PE X (.Name x p) (tC (.ty n)) := by
 unfold exN at h
 split at h
 ·rename_i e; cases h; subst e; exact pe_bltn g.1 g.2 (by kernel_rfl) (show RelV (.ty _) (.type _) from rfl)
 split at h
 ·rename_i e; cases h; subst e; exact pe_bltn g.1 g.2 (by kernel_rfl) (show RelV (.ty _) (.type _) from rfl)
 split at h
 ·rename_i e; cases h; subst e; exact pe_bltn g.1 g.2 (by kernel_rfl) (show RelV (.ty _) (.type _) from rfl)
 split at h
 ·rename_i e; cases h; subst e; exact pe_bltn g.1 g.2 (by kernel_rfl) (show RelV (.ty _) (.type _) from rfl)
 split at h
 ·rename_i e; cases h; subst e; exact pe_bltn g.1 g.2 (by kernel_rfl) (show RelV (.ty _) (.type _) from rfl)
 split at h
 ·rename_i e; cases h; subst e; exact pe_bltn g.1 g.2 (by kernel_rfl) (show RelV (.ty _) (.type _) from rfl)
 ·cases h
theorem j7o {kx : Xo} {xs : Exs} (o : XOk X c CX k rx Φ G) (hl : IhS X rx W Φ c rl xs) (h : kXo G c (lenS xs) rl kx e = true) : Er X rx W Φ e (.xo kx xs) := by
 have one : ∀ {a : Expr}, rl c [a] = true → ∃ xa, xs = .cons xa .nil ∧ Er X rx W Φ a xa := fun {a} h => by
  obtain ⟨xa, ys, e1, e2, e3⟩ := (hl _ h).hd a [] rfl
  cases ys with
  | nil => exact ⟨xa, e1, e2⟩
  | cons => simp [lenS] at e3
 unfold kXo at h
 split at h
 ·simp only [jQy, wab, waD, waj, wam, wac, wax, waQ] at h
  obtain ⟨⟨⟨⟨⟨⟨⟨rfl, h1⟩, h2⟩, h3⟩, h4⟩, h5⟩, h6⟩, ⟨q, hq, e1, e2⟩, h7, h8, h9, h10, h11⟩ := h
  obtain ⟨g1, g2⟩ := o.g.exs q hq
  rw [e1] at g1 g2
  rw [e2] at g2
  obtain ⟨a1, a2⟩ := (hl _ h6).arg _ _ rfl h3
  refine .ofE (j1b g2 o.room (jHg o.sc h1) g1 h2 h3 (j1z h4) h8 (fun e => ?_) h7 (fun j t hm => ?_) h11 h5 a1 a2) rfl rfl rfl
  ·rcases h9 with h9 | h9
   ·rw [e] at h9
    cases h9
   ·exact h9
  ·have := wag.mp h10 _ hm
   cases this
 ·simp only [wab, waj, wac, wax, wag, waQ] at h
  obtain ⟨rfl, h1, h2, h3, h4, h5, ⟨p, hp, e1, e2⟩, h7, h8⟩ := h
  rename_i all sub x b p1 a t pos
  obtain ⟨xa, rfl, ea⟩ := one h8
  have hF := o.g.trs p hp
  rw [e1] at hF
  have hall : ∀ k ∈ all, ∃ p ∈ G.exs, p.1 = k := fun k hk => by
   obtain ⟨p, hp, e⟩ := h5 k hk
   exact ⟨p, hp, e⟩
  have st2 := jCo (env := X.env) (pos := pos) (es := [t]) (by simp [h3])
  unfold tyX at h4
  split at h4
  rotate_left
  ·cases h4
  rename_i z zp
  rw [wab, waj] at h4
  obtain ⟨rfl, h4⟩ := h4
  unfold rowX at e2
  split at e2
  ·rename_i s y hr
   simp only [wab, wam, wac, waj] at e2
   obtain ⟨rfl, rfl, rfl⟩ := e2
   rw [hr] at hF
   have hF : isxF X.K G (.ref (ca X.K y)) s = true := hF
   simp only [wa2, if_false, wab, wam, waT] at h4
   obtain ⟨q1, q2, q3⟩ := h4
   exact .ofE (jSk (cV := .ref (ca X.K y)) (jSd hF hall) (fun u r => r) (o.blt h1).1 (o.blt h1).2 ea.de ⟨fun pins s σ H Q I hQ => ld_glob I (jHg o.sc q1) (o.g.xcs _ q2) ⟨.ref (ca X.K y), H, I, rfl, hQ⟩ q3⟩ (jAd h2) (jAd h3) st2) rfl rfl rfl
  ·rename_i s y hr
   simp only [wab, wac, waj] at e2
   obtain ⟨rfl, rfl, rfl⟩ := e2
   rw [hr] at hF
   simp only [if_true, wab] at h4
   obtain ⟨q1, q2⟩ := h4
   obtain ⟨n, hn⟩ := Option.isSome_iff_exists.mp q2
   have hF : (match exN y with
    | some n => isxF X.K G (.type n) s
    | none => false) = true := hF
   rw [hn] at hF
   exact .ofE (jSk (cV := .ty n) (jSd hF hall) (fun u r => r) (o.blt h1).1 (o.blt h1).2 ea.de (j7e (o.blt q1) hn) (jAd h2) (jAd h3) st2) rfl rfl rfl
  ·cases e2
 ·simp only [wab, waj, wac, wax, wag] at h
  obtain ⟨rfl, h1, h2, h3, ⟨p, hp, e2⟩, h5, h6⟩ := h
  rename_i cs a g pos
  obtain ⟨xa, rfl, ea⟩ := one h6
  have hF := o.g.trs p hp
  unfold jO7 at e2
  split at e2
  rotate_left
  ·cases e2
  rename_i z s is e3 e4
  rw [e3, e4] at hF
  simp only [trF, wab] at hF
  have hf : g ∈ jOk (.lst is) := by
   obtain ⟨i, hi, e5⟩ := wax.mp e2
   refine waZ.mpr ⟨i, hi, ?_⟩
   cases i with
   | fld f => rw [waj.mp e5]
   | _ => cases e5
  have hG := wag.mp hF.2.1 g hf
  refine .ofE (jW6 (fun c hc => ?_) ea.de (jB8 h1)) rfl rfl rfl
  obtain ⟨p, hp, rfl⟩ := h3 c hc
  have := wag.mp hG p hp
  rw [wab, wac] at this
  exact ⟨xfB_ok this.1, this.2⟩
 ·cases h
end
section
variable {CX : CXT} {k : Nat} {rx : RX} {Φ : Calls} {G : Gs}
abbrev OkS (CX : CXT) (k : Nat) (rx : RX) (Φ : Calls) (G : Gs) (x : Exs) : Prop := ∀ (X : Cx) (c : Sx) (W : WX), XOk X c CX k rx Φ G → (∀ σ, PassesAt CX X σ (WE W σ)) → IhS X rx W Φ c (erS G x) x
abbrev OkL (CX : CXT) (k : Nat) (rx : RX) (Φ : Calls) (G : Gs) (x : Els) : Prop := ∀ (X : Cx) (c : Sx) (W : WX), XOk X c CX k rx Φ G → (∀ σ, PassesAt CX X σ (WE W σ)) → IhL X rx W Φ c (erL G x) x
abbrev OkS' (CX : CXT) (k : Nat) (rx : RX) (Φ : Calls) (G : Gs) (x : Src) : Prop := ∀ (X : Cx) (c : Sx) (W : WX), XOk X c CX k rx Φ G → (∀ σ, PassesAt CX X σ (WE W σ)) → ∀ tg e, erR G x c tg e = true → ErR X rx W Φ tg e x
abbrev OkD (CX : CXT) (k : Nat) (rx : RX) (Φ : Calls) (G : Gs) (x : Dps) : Prop := ∀ (X : Cx) (c : Sx) (W : WX), XOk X c CX k rx Φ G → (∀ σ, PassesAt CX X σ (WE W σ)) → ∀ ks vs, erD G x c ks vs = true → ErD X rx W Φ x ks vs
mutual
theorem jAl (nx : NoX CX) : ∀ x : Ex, OkX CX k rx Φ G x
 | .var i => fun X c W o hx e h => j07 o (by rw [er] at h; exact h)
 | .con t => fun X c W o hx e h => jZr o (by rw [er] at h; exact h)
 | .bin op a b => fun X c W o hx e h => jS7 (jAl nx a X c W o hx) (jAl nx b X c W o hx) (by rw [er] at h; exact h)
 | .neg a => fun X c W o hx e h => j1k (jAl nx a X c W o hx) (by rw [er] at h; exact h)
 | .nt a => fun X c W o hx e h => j81 (jAl nx a X c W o hx) (by rw [er] at h; exact h)
 | .cmp op a b => fun X c W o hx e h => jZg o (jAl nx a X c W o hx) (jAl nx b X c W o hx) (by rw [er] at h; exact h)
 | .chain op op2 a b d => fun X c W o hx e h => jPw o (jAl nx a X c W o hx) (jAl nx b X c W o hx) (jAl nx d X c W o hx) (by rw [er] at h; exact h)
 | .and a b => fun X c W o hx e h => jN1 (jAl nx a X c W o hx) (jAl nx b X c W o hx) (by rw [er] at h; exact h)
 | .or a b => fun X c W o hx e h => j8u (jAl nx a X c W o hx) (jAl nx b X c W o hx) (by rw [er] at h; exact h)
 | .ite t a b => fun X c W o hx e h => jL4 (jAl nx t X c W o hx) (jAl nx a X c W o hx) (jAl nx b X c W o hx) (by rw [er] at h; exact h)
 | .tup es => fun X c W o hx e h => jYn (jJv nx es X c W o hx) (by rw [er] at h; exact h)
 | .lst es => fun X c W o hx e h => jTb (jJv nx es X c W o hx) (by rw [er] at h; exact h)
 | .cel es => fun X c W o hx e h => by rw [er] at h; exact absurd h waa
 | .dsp ds => fun X c W o hx e h => by rw [er] at h; exact absurd h waa
 | .idx a b => fun X c W o hx e h => jZ9 o (jAl nx a X c W o hx) (jAl nx b X c W o hx) (by rw [er] at h; exact h)
 | .slc l m a b d => fun X c W o hx e h => jYs (jAl nx a X c W o hx) (jAl nx b X c W o hx) (jAl nx d X c W o hx) (by rw [er] at h; exact h)
 | .rev a => fun X c W o hx e h => by rw [er] at h; exact absurd h waa
 | .call f es => fun X c W o hx e h => jTq o hx (jDx nx es X c W o hx) (by rw [er] at h; exact h)
 | .told f hs x => fun X c W o hx e h => by rw [er] at h; exact absurd h waa
 | .toldC ws f hs g np nn es ix kk xs => fun X c W o hx e h => by rw [er] at h; exact absurd h waa
 | .callk f pl es => fun X c W o hx e h => by rw [er] at h; exact absurd h waa
 | .new f pl es => fun X c W o hx e h => by rw [er] at h; exact absurd h waa
 | .getc x' D a => fun X c W o hx e h => by rw [er] at h; exact absurd h waa
 | .clsm f m pl es => fun X c W o hx e h => by rw [er] at h; exact absurd h waa
 | .newv i f pl es => fun X c W o hx e h => by rw [er] at h; exact absurd h waa
 | .meth a cl m es => fun X c W o hx e h => jUt o hx (jAl nx a X c W o hx) (jDx nx es X c W o hx) (by rw [er] at h; exact h)
 | .attr a cl f => fun X c W o hx e h => jUp o (jAl nx a X c W o hx) (by rw [er] at h; exact h)
 | .prop a cl f => fun X c W o hx e h => jVx o nx (jAl nx a X c W o hx) (by rw [er] at h; exact h)
 | .bi b es => fun X c W o hx e h => by
  have q := jDx nx es X c W o hx
  by_cases h1 : b = .lrange
  ·subst h1
   rw [er] at h; exact absurd h waa
  ·by_cases h2 : b = .sortedSet
   ·subst h2
    rw [er] at h; exact absurd h waa
   ·by_cases h3 : b = .dictZ
    ·subst h3
     rw [er] at h; exact absurd h waa
    ·by_cases h4 : b = .dictP
     ·subst h4
      rw [er] at h; exact absurd h waa
     ·by_cases h5 : b = .maxV
      ·subst h5
       rw [er] at h; exact absurd h waa
      ·by_cases h6 : b = .lenSet
       ·subst h6
        rw [er] at h; exact absurd h waa
       ·by_cases h7 : b = .zipL
        ·subst h7
         rw [er] at h; exact absurd h waa
        ·by_cases h8 : b = .zipT
         ·subst h8
          rw [er] at h; exact absurd h waa
         ·by_cases h9 : b = .sortK
          ·subst h9
           rw [er] at h; exact absurd h waa
          ·by_cases h10 : b = .eqSet
           ·subst h10
            rw [er] at h; exact absurd h waa
           ·by_cases h11 : b = .itemsL
            ·subst h11
             rw [er] at h; exact absurd h waa
            ·by_cases h12 : b = .sortedD
             ·subst h12
              rw [er] at h; exact absurd h waa
             ·by_cases h13 : b = .reprN
              ·subst h13
               rw [er] at h; exact absurd h waa
              ·rw [er] at h
               ·exact j9b o q h
               all_goals assumption
 | .methk a cl m _ es => fun X c W o hx e h => by rw [er] at h; exact absurd h waa
 | .eqi ne k r a b => fun X c W o hx e h => by rw [er] at h; exact absurd h waa
 | .eqc ne k ks a b => fun X c W o hx e h => by rw [er] at h; exact absurd h waa
 | .ownr k a => fun X c W o hx e h => by rw [er] at h; exact absurd h waa
 | .ownl k a => fun X c W o hx e h => by rw [er] at h; exact absurd h waa
 | .ownb k a => fun X c W o hx e h => by rw [er] at h; exact absurd h waa
 | .eqo cs a b => fun X c W o hx e h => by rw [er] at h; exact absurd h waa
 | .own1 cl m a => fun X c W o hx e h => by rw [er] at h; exact absurd h waa
 | .spec cl m es => fun X c W o hx e h => by rw [er] at h; exact absurd h waa
 | .bm b a es => fun X c W o hx e h => by
  rw [er, waD] at h
  rcases h with h | h
  ·exact j80 o (jAl nx a X c W o hx) (jDx nx es X c W o hx) h
  ·exact jW3 (jAl nx a X c W o hx) h
 | .isi a ty ks => fun X c W o hx e h => by rw [er] at h; exact absurd h waa
 | .own2 cl a b => fun X c W o hx e h => by rw [er] at h; exact absurd h waa
 | .ownin ne cl a b => fun X c W o hx e h => by rw [er] at h; exact absurd h waa
 | .isd a ty ks => fun X c W o hx e h => by rw [er] at h; exact absurd h waa
 | .lc ws tg src cond elt => fun X c W o hx e h => j1j o (jC3 nx src X c W o hx) (okB nx (jAl nx cond) c) (okB nx (jAl nx elt) c) (by rw [er] at h; exact h)
 | .lc2 ws tg src cond tg2 src2 cond2 elt => fun X c W o hx e h => jR4 o (jC3 nx src X c W o hx) (fun X' scope o' => jC3 nx src2 X' (c.in scope) WF o' fun σ => nx X' σ) (okB nx (jAl nx cond) c) (okB nx (jAl nx cond2) c) (okB nx (jAl nx elt) c) (by rw [er] at h; exact h)
 | .dc ws tg src cond xk xv => fun X c W o hx e h => jZu o (jC3 nx src X c W o hx) (okB nx (jAl nx cond) c) (okB nx (jAl nx xk) c) (okB nx (jAl nx xv) c) (by rw [er] at h; exact h)
 | .minBy a _ b => fun X c W o hx e h => by rw [er] at h; exact absurd h waa
 | .fstr es => fun X c W o hx e h => by rw [er] at h; exact absurd h waa
 | .xo kx es => fun X c W o hx e h => j7o o (jDx nx es X c W o hx) (by rw [er] at h; exact h)
 | .lend i x => fun X c W o hx e h => by
  rw [er] at h
  have h : (jRp e && er G x c e) = true := h
  rw [wab] at h
  refine .ofE (jQ3 (jAl nx x X c W o hx e h.2).de) rfl rfl ?_
  cases e <;> first | rfl | (cases h.1)
 | .dead => fun X c W o hx e h => ⟨jH5, jH5, (fun _ => jH5), jVn⟩
theorem jDx (nx : NoX CX) : ∀ x : Exs, OkS CX k rx Φ G x
 | .nil => fun X c W o hx es h => jHx (by rw [erS] at h; exact h)
 | .cons x xs => fun X c W o hx es h => jGj (jAl nx x X c W o hx) (jDx nx xs X c W o hx) (by rw [erS] at h; exact h)
theorem j0i (nx : NoX CX) : ∀ es : Exs, IhC CX k rx Φ G (erA G es) es
 | .nil => fun N sc ds h => by
  rw [erA] at h
  cases ds with
  | nil => exact ⟨rfl, fun j e d he => nomatch he⟩
  | cons => cases h
 | .cons x xs => fun N sc ds h => by
  cases ds with
  | nil => rw [erA] at h; cases h
  | cons d r =>
   rw [erA] at h
   simp only [wab] at h
   obtain ⟨⟨⟨h1, h2⟩, h3⟩, h4⟩ := h
   obtain ⟨l, q⟩ := j0i nx xs N sc r h4
   refine ⟨by simp [exsL, l], fun j e d' he hd => ?_⟩
   cases j with
   | zero =>
    cases he
    cases hd
    exact ⟨h1, h2, fun Y W' o hx => jAl nx x Y _ W' o hx _ h3⟩
   | succ j => exact q j e d' he hd
theorem jZa (nx : NoX CX) : ∀ x : Exs, ∀ (X : Cx) (c : Sx) (W : WX), XOk X c CX k rx Φ G → (∀ σ, PassesAt CX X σ (WE W σ)) → IhF X rx W Φ c (erF G x) x
 | .nil => fun X c W o hx es h => jWs es (by rw [erF] at h; exact h)
 | .cons x xs => fun X c W o hx es h => jQs (jAl nx x X c W o hx) (jZa nx xs X c W o hx) (by rw [erF] at h; exact h)
theorem jJv (nx : NoX CX) : ∀ x : Els, OkL CX k rx Φ G x
 | .nil => fun X c W o hx es h => jL3 (by rw [erL] at h; exact h)
 | .one x xs => fun X c W o hx es h => jMt (jAl nx x X c W o hx) (jJv nx xs X c W o hx) (by rw [erL] at h; exact h)
 | .star x xs => fun X c W o hx es h => jRa (jAl nx x X c W o hx) (jJv nx xs X c W o hx) (by rw [erL] at h; exact h)
theorem jC3 (nx : NoX CX) : ∀ x : Src, OkS' CX k rx Φ G x
 | .of x => fun X c W o hx tg e h => jY3 (jAl nx x X c W o hx) (by rw [erR] at h; exact h)
 | .rng1 x => fun X c W o hx tg e h => jPd o (jAl nx x X c W o hx) (by rw [erR] at h; exact h)
 | .rng2 x y => fun X c W o hx tg e h => by rw [erR] at h; exact absurd h waa
 | .rngD x y z => fun X c W o hx tg e h => by rw [erR] at h; exact absurd h waa
 | .enm x => fun X c W o hx tg e h => by rw [erR] at h; exact absurd h waa
 | .zip x y => fun X c W o hx tg e h => by rw [erR] at h; exact absurd h waa
 | .itm x => fun X c W o hx tg e h => by rw [erR] at h; exact absurd h waa
 | .kys x => fun X c W o hx tg e h => by rw [erR] at h; exact absurd h waa
theorem jSi (nx : NoX CX) : ∀ x : Dps, OkD CX k rx Φ G x
 | .nil => fun X c W o hx ks vs h => j45 (by rw [erD] at h; exact h)
 | .kv a b r => fun X c W o hx ks vs h => j7t (jAl nx a X c W o hx) (jAl nx b X c W o hx) (jSi nx r X c W o hx) (by rw [erD] at h; exact h)
 | .star a r => fun X c W o hx ks vs h => j5l (jAl nx a X c W o hx) (jSi nx r X c W o hx) (by rw [erD] at h; exact h)
end
end
theorem jDr {e : Expr} {l : Nat} {env : PySem.Env} {t : Option Expr} (h : jEp e = true) : swapsWith e t l env = pure false := by
 cases e <;> first | rfl | (cases h; done)
theorem jDy {env : PySem.Env} (h : env.scope.kind = .function) : env.blockKind = .function := by
 unfold Env.blockKind
 rw [h]
 rfl
theorem jF3 {env : PySem.Env} {c : Sx} {y : Str} {py lp : Pos} {scope : Scope} {elt : Expr} {gens : List Comprehension} {l : Nat} (hs : env.scope = c.sc) (hk : c.sc.kind = .function) :
  swapsWith (.ListComp elt gens scope lp) (some (.Name y py)) l env = pure (lcSw c y py scope lp) := by
 have e : swapsWith (.ListComp elt gens scope lp) (some (.Name y py)) l env = pure (env.blockKind == .function && env.kindOf y == some .local && py.line == lp.line && !(scope.names.any fun (n, k) => n == y && (k == .local || k == .cell))) := rfl
 rw [e, jDy (by rw [hs]; exact hk)]
 unfold Env.kindOf lcSw
 rw [hs]
 rfl
theorem jMu {env : PySem.Env} {c : Sx} {y : Str} {py lp : Pos} {scope : Scope} {kx vx : Expr} {gens : List Comprehension} {l : Nat} (hs : env.scope = c.sc) (hk : c.sc.kind = .function) :
  swapsWith (.DictComp kx vx gens scope lp) (some (.Name y py)) l env = pure (lcSw c y py scope lp) := jF3 (elt := kx) (gens := gens) (l := l) hs hk
theorem jTr (u : Sem (Option (List Str))) {b1 b2 b3 b4 b5 : Bool} {x : List Str} {r : Option (List Str)} (h : (if b1 = true then some none else if b2 = true then some none else if b3 = true then some none else if b4 = true then some none else if b5 = true then none else some (some x) : Option (Option (List Str))) = some r) :
  (if b1 = true then pure none else if b2 = true then pure none else if b3 = true then pure none else if b4 = true then pure none else if b5 = true then u else pure (some x) : Sem (Option (List Str))) = pure r := by
 cases b1 <;> cases b2 <;> cases b3 <;> cases b4 <;> cases b5 <;> first | (cases h; done) | (cases h; rfl)
theorem jO1 {env : PySem.Env} {c : Sx} {ts vs : List Expr} {k k2 : Nat} {p p2 : Pos} {r : Option (List Str)} (hs : env.scope = c.sc) (hk : c.sc.kind = .function) (h : swS c ts vs = some r) : swappedStores [.Tuple ts k p] (.Tuple vs k2 p2) env = pure r := by
 have hb := jDy (env := env) (by rw [hs]; exact hk)
 have hn : env.kindOf = fun x => c.sc.names.lookup x := by funext x; unfold Env.kindOf; rw [hs]
 unfold swappedStores
 simp only [hb, hn]
 unfold swS at h
 exact jTr _ h
def isV (i : Nat) : Exs → Bool
 | .cons (.var j) .nil => decide (j = i)
 | _ => false
mutual
def okX (i : Nat) : Ex → Bool
 | .var j => !decide (j = i)
 | .con _ => true
 | .cmp _ a b => okX i a && okX i b
 | .and a b => okX i a && okX i b
 | .ite t a b => okX i t && (okX i a && okX i b)
 | .bi _ es => okXs i es
 | .call _ es => isV i es
 | _ => false
def okXs (i : Nat) : Exs → Bool
 | .nil => true
 | .cons x xs => okX i x && okXs i xs
end
mutual
def xF : Ex → List Str
 | .cmp _ a b => xF a ++ xF b
 | .and a b => xF a ++ xF b
 | .ite t a b => xF t ++ (xF a ++ xF b)
 | .bi _ es => xFs es
 | .call f _ => [f]
 | _ => []
def xFs : Exs → List Str
 | .nil => []
 | .cons x xs => xF x ++ xFs xs
end
def hotG (a : Nat) (d : Option Nat) : Calls := fun k us => match us with
 | [.exn a' d' ns vs] => if a' = a ∧ d' = d then lift "field" ((ns.zip vs).lookup k.2) else stuck "held"
 | _ => stuck "held"
section
variable {i : Nat} {a : Nat} {d : Option Nat} {ns : List Str} {vs : List T} {E : Env}
theorem getX {x y : T} {j : Nat} (h : (!decide (j = i)) = true) : getE (E.set i (.sh x)) j = getE (E.set i (.sh y)) j := by
 have h : ¬ j = i := by simpa using h
 unfold getE
 rw [wai (fun e => h e.symm), wai (fun e => h e.symm)]
theorem j91 {f : Str} {es : Exs} (h : isV i es = true) : ev (hotG a d) (.call f es) (E.set i (.sh (.exn a d ns vs))) = ev fldΦ (.call f es) (E.set i (.sh (.exn 0 none ns vs))) := by
 unfold isV at h
 split at h
 ·rename_i j
  obtain rfl := waC h
  show M.bind (M.bind (lift "var" (getE (E.set j _) j)) fun x => M.bind (M.pure []) fun r => M.pure (x :: r)) (fun us => hotG a d ("", f) us) = M.bind (M.bind (lift "var" (getE (E.set j _) j)) fun x => M.bind (M.pure []) fun r => M.pure (x :: r)) (fun us => fldΦ ("", f) us)
  by_cases hl : j < E.length
  ·have g : ∀ x : T, getE (E.set j (.sh x)) j = some x := fun x => by
    unfold getE
    rw [wan hl]
   rw [g, g]
   show hotG a d ("", f) [.exn a d ns vs] = fldΦ ("", f) [.exn 0 none ns vs]
   unfold hotG fldΦ
   simp only [and_self, if_true]
  ·have g : ∀ x : T, getE (E.set j (.sh x)) j = none := fun x => by
    unfold getE
    rw [wbf (by rw [waz]; omega)]
   rw [g, g]
   rfl
 ·cases h
theorem jMi {x : T} : ∀ (ks : List Nat) (E : Env), frzE ks (E.set i (.sh x)) = (frzE ks E).set i (.sh x)
 | [], _ => rfl
 | j :: ks, E => by
  have e : (E.set i (.sh x)).set j (SI.frz1 ((E.set i (.sh x)).getD j .un)) = (E.set j (SI.frz1 (E.getD j .un))).set i (.sh x) := by
   by_cases q : i = j
   ·subst q
    rw [List.set_set, List.set_set]
    by_cases hl : i < E.length
    ·rw [List.getD, wan hl]
     rfl
    ·rw [List.set_eq_of_length_le (by omega), List.set_eq_of_length_le (by omega)]
   ·rw [List.getD, wai q, ← List.getD, List.set_comm _ _ q]
  show frzE ks ((E.set i (.sh x)).set j (SI.frz1 ((E.set i (.sh x)).getD j .un))) = (frzE ks (E.set j (SI.frz1 (E.getD j .un)))).set i (.sh x)
  rw [e]
  exact jMi ks _
mutual
theorem jHb : ∀ x : Ex, okX i x = true → ev (hotG a d) x (E.set i (.sh (.exn a d ns vs))) = ev fldΦ x (E.set i (.sh (.exn 0 none ns vs)))
 | .var j, h => by
  rw [okX] at h
  rw [jRi, jRi, getX h]
 | .con _, _ => rfl
 | .cmp op a b, h => by
  rw [okX, wab] at h
  rw [jFh, jFh, jHb a h.1, jHb b h.2]
  rfl
 | .and a b, h => by
  rw [okX, wab] at h
  rw [jHr, jHr, jHb a h.1, jHb b h.2]
  rfl
 | .ite t a b, h => by
  rw [okX, wab, wab] at h
  rw [jI3, jI3, jHb t h.1, jHb a h.2.1, jHb b h.2.2]
  rfl
 | .bi b es, h => by
  rw [okX] at h
  rw [jOg, jOg, jZe es h]
 | .call f es, h => by
  rw [okX] at h
  exact j91 h
 | .bin _ _ _, h => absurd (show false = true from h) waa
 | .neg _, h => absurd (show false = true from h) waa
 | .nt _, h => absurd (show false = true from h) waa
 | .chain _ _ _ _ _, h => absurd (show false = true from h) waa
 | .or _ _, h => absurd (show false = true from h) waa
 | .idx _ _, h => absurd (show false = true from h) waa
 | .lst _, h => absurd (show false = true from h) waa
 | .bm _ _ _, h => absurd (show false = true from h) waa
 | .tup _, h => absurd (show false = true from h) waa
 | .cel _, h => absurd (show false = true from h) waa
 | .dsp _, h => absurd (show false = true from h) waa
 | .slc _ _ _ _ _, h => absurd (show false = true from h) waa
 | .rev _, h => absurd (show false = true from h) waa
 | .callk _ _ _, h => absurd (show false = true from h) waa
 | .told _ _ _, h => absurd (show false = true from h) waa
 | .toldC _ _ _ _ _ _ _ _ _ _, h => absurd (show false = true from h) waa
 | .new _ _ _, h => absurd (show false = true from h) waa
 | .meth _ _ _ _, h => absurd (show false = true from h) waa
 | .methk _ _ _ _ _, h => absurd (show false = true from h) waa
 | .attr _ _ _, h => absurd (show false = true from h) waa
 | .prop _ _ _, h => absurd (show false = true from h) waa
 | .spec _ _ _, h => absurd (show false = true from h) waa
 | .eqc _ _ _ _ _, h => absurd (show false = true from h) waa
 | .eqi _ _ _ _ _, h => absurd (show false = true from h) waa
 | .ownr _ _, h => absurd (show false = true from h) waa
 | .ownl _ _, h => absurd (show false = true from h) waa
 | .getc _ _ _, h => absurd (show false = true from h) waa
 | .clsm _ _ _ _, h => absurd (show false = true from h) waa
 | .newv _ _ _ _, h => absurd (show false = true from h) waa
 | .ownb _ _, h => absurd (show false = true from h) waa
 | .eqo _ _ _, h => absurd (show false = true from h) waa
 | .own1 _ _ _, h => absurd (show false = true from h) waa
 | .isi _ _ _, h => absurd (show false = true from h) waa
 | .isd _ _ _, h => absurd (show false = true from h) waa
 | .own2 _ _ _, h => absurd (show false = true from h) waa
 | .ownin _ _ _ _, h => absurd (show false = true from h) waa
 | .lc _ _ _ _ _, h => absurd (show false = true from h) waa
 | .lc2 _ _ _ _ _ _ _ _, h => absurd (show false = true from h) waa
 | .dc _ _ _ _ _ _, h => absurd (show false = true from h) waa
 | .minBy _ _ _, h => absurd (show false = true from h) waa
 | .fstr _, h => absurd (show false = true from h) waa
 | .xo _ _, h => absurd (show false = true from h) waa
 | .lend _ _, h => absurd (show false = true from h) waa
 | .dead, h => absurd (show false = true from h) waa
theorem jZe : ∀ x : Exs, okXs i x = true → evS (hotG a d) x (E.set i (.sh (.exn a d ns vs))) = evS fldΦ x (E.set i (.sh (.exn 0 none ns vs)))
 | .nil, _ => rfl
 | .cons x xs, h => by
  rw [okXs, wab] at h
  rw [jA5, jA5, jHb x h.1, jZe xs h.2]
end
end
def DSx (K : PySem.W.Frag) (rx : RX) (W : WX) (Φ : Calls) (n : Nat) (x : SI.St) : TS := fun D σ H => ∃ F S as E C, Sim K F S as σ H E C ∧ NoOw (jA7 x) E ∧ OutX K rx W F σ E (ex Φ n x E C) S as D
section
variable {X : Cx} {G : Gs} {CX : CXT} {k n : Nat} {rx : RX} {W : WX} {Φ : Calls} {c : Sx} {st : Stmt} {e : Expr} {xe x y z : Ex} {pos : Pos} {ra rb rd : Ck}
variable {a : Addr} {d : Option Addr} {cn : Str} {oe : Obj} {pn : List (Addr × Obj)} {rx0 : RX} {W0 : WX} {Φ0 : Calls}
theorem jRv (Φ : Calls) (E : Env) (f : Str) (i : Nat) : ev Φ (.call f (.cons (.var i) .nil)) E = M.bind (ev Φ (.var i) E) fun t => Φ ("", f) [t] := by
 show M.bind (M.bind (ev Φ (.var i) E) fun y => M.bind (M.pure []) fun r => M.pure (y :: r)) (fun us => Φ ("", f) us) = _
 rw [jAg]
 rfl
theorem jQh {K : PySem.W.Frag} {F S : Hp} {as : List Addr} {σ : L2.St} {E : Env} {C : jAa} {Q : VK} {f : Str} {t : T} (out : Out K rx W F σ E (hotG a d ("", f) [t] C) (RepR K) S as Q) : ∃ ns vs, t = .exn a d ns vs ∧ Out K rx W F σ E (lift "field" ((ns.zip vs).lookup f) C) (RepR K) S as Q := by
 cases t with
 | exn a' d' ns vs =>
  unfold hotG at out
  by_cases h : a' = a ∧ d' = d
  ·simp only [h, and_self, if_true] at out
   obtain ⟨rfl, rfl⟩ := h
   exact ⟨ns, vs, rfl, out⟩
  ·simp only [h, if_false] at out
   exact out.elim
 | _ => exact out.elim
theorem jTl {f y : Str} {i : Nat} {p1 p2 : Pos} (hN : X.N = c.N) (hs : X.env.scope = c.sc) (h1 : varB c i y = true) (xf : XfC X.K (ca X.K cn)) (nof : PySem.W.findIn X.K (.ref (ca X.K cn)) f = some none) (hz : Zc (.ref (ca X.K cn)) d oe) (hf : ∃ vs, oe.data = .fields vs) :
  PE (X.suite a ((a, oe) :: pn)) (.Attribute (.Name y p1) f p2) (DE (X.suite a ((a, oe) :: pn)).K rx W (hotG a d) (.call f (.cons (.var i) .nil))) := by
 have v := jCm (X := X.suite a ((a, oe) :: pn)) hN hs h1
 refine jAq (pe_xf (X := X) (a := a) (d := d) (cls := .ref (ca X.K cn)) (pn := pn) xf nof hz hf (jE1 (rx := rx) (W := W) (Φ := hotG a d) v.ix v.vis v.d v.c)) fun σ H Q ⟨F, S, as, E, C, sim, no, out⟩ => ?_
 rw [jRv] at out
 have no' : NoOw (escE (.var i)) E := fun j hj => no j (waJ _ hj)
 refine ⟨F, S, as, E, C, sim, no', out.bind fun u t S1 as1 H1 C1 l1 p1 sim1 r1 out1 => ?_⟩
 obtain ⟨ns, vs, rfl, out2⟩ := jQh out1
 obtain ⟨t, ht, out3⟩ := out2.lift
 have r1 : Rep X.K S1 as1 u (.exn a d ns vs) := r1
 cases r1 with
 | exn hd rs =>
  obtain ⟨w, e1, e2⟩ := jFw rs ht
  rcases hd with ⟨e0, _⟩ | ⟨dd, e3, e4⟩
  ·subst e0
   cases e1
  ·exact ⟨rfl, rfl, dd, _, w, e3, (sim1.sub' _ _ e4).resolve_right (fun ⟨_, _, z⟩ => z), e1, out3.here sim1 e2⟩
end
section
variable {X : Cx} {G : Gs} {CX : CXT} {k n : Nat} {rx rx0 : RX} {W W0 : WX} {Φ : Calls} {c : Sx} {a : Addr} {d : Option Addr} {cn : Str} {oe : Obj} {pn : List (Addr × Obj)} {i : Nat}
variable (o : XOk X c CX k rx0 Φ G) (hz : Zc (.ref (ca X.K cn)) d oe) (hf : ∃ vs, oe.data = .fields vs)
include o hz hf
mutual
theorem jGo : ∀ (x : Ex), (∀ f ∈ xF x, XfC X.K (ca X.K cn) ∧ PySem.W.findIn X.K (.ref (ca X.K cn)) f = some none) → IhE (X.suite a ((a, oe) :: pn)) rx W (hotG a d) c (xE G i x) x
 | .var j, _ => fun e h => by
  rw [xE] at h
  cases e with
  | Name x p =>
   have v := jCm (X := X.suite a ((a, oe) :: pn)) o.N o.sc (show varB c j x = true from h)
   exact ⟨jE1 v.ix v.vis v.d v.c, jC1 v.ix v.vis v.d v.c, (fun z => nomatch z), jC4 (jC1 v.ix v.vis v.d v.c) (jDb rfl _)⟩
  | _ => cases h
 | .con t, _ => fun e h => by
  rw [xE] at h
  obtain ⟨v, h1, h2⟩ := jNe (Y := X.suite a ((a, oe) :: pn)) h
  cases e with
  | Constant k kk p => exact .ofE (jBn h1 fun S as => h2 _ S as) rfl rfl rfl
  | _ => cases h
 | .cmp op a b, hF => fun e h => by
  rw [xE] at h
  have ha := jGo a fun f m => hF f (by rw [xF]; exact waJ _ m)
  have hb := jGo b fun f m => hF f (by rw [xF]; exact waG _ m)
  have h : kCmp c op (xE G i a) (xE G i b) e = true := h
  unfold kCmp at h
  split at h
  ·simp only [wab, wac, wam] at h
   obtain ⟨⟨⟨rfl, h1⟩, h2⟩, h3⟩ := h
   have hu : X.A.units + 65 < cLine := by have := o.units; omega
   exact ⟨jDo hu h3 (ha _ h1).dw (hb _ h2).dw, peDW (jDo hu h3 (ha _ h1).dw (hb _ h2).dw) rfl, (fun z => nomatch z), jIe hu h3 (ha _ h1).dw (hb _ h2).dw⟩
  ·cases h
 | .and a b, hF => fun e h => jN1 (jGo a fun f m => hF f (by rw [xF]; exact waJ _ m)) (jGo b fun f m => hF f (by rw [xF]; exact waG _ m)) (by rw [xE] at h; exact h)
 | .ite t a b, hF => fun e h => jL4 (jGo t fun f m => hF f (by rw [xF]; exact waJ _ m)) (jGo a fun f m => hF f (by rw [xF]; exact waG _ (waJ _ m)))
   (jGo b fun f m => hF f (by rw [xF]; exact waG _ (waG _ m))) (by rw [xE] at h; exact h)
 | .bi b es, hF => fun e h => by
  rw [xE] at h
  have h : (isRp b && kBi G c b (xS G i es) e) = true := h
  obtain ⟨hb, h⟩ := wbj.mp h
  have hl := jX5 es fun f m => hF f (by rw [xF]; exact m)
  obtain rfl : b = .repr := by cases b <;> first | rfl | cases hb
  unfold kBi at h
  split at h
  ·simp only [wab, waj] at h
   obtain ⟨⟨⟨h1, h2⟩, h3⟩, h4⟩ := h
   have q := (hl _ h4).dw h3
   rw [waR, wab] at h3
   first
   | cases h1; done
   | (obtain rfl := waA (show some ("repr" : Str) = _ from h1); exact .ofF (jRx (X := X.suite a ((a, oe) :: pn)) (jJg (X := X.suite a ((a, oe) :: pn)) o.gd o.units) (o.blt h2).1 (o.blt h2).2 (by kernel_rfl) q (by decide) (by decide) (jAd h3.1) (jCo h3.2)) rfl rfl)
  ·cases h
 | .call f es, hF => fun e h => by
  rw [xE] at h
  have h : kFl c i f es e = true := h
  unfold kFl at h
  split at h
  ·simp only [wab, waj, wac] at h
   obtain ⟨⟨rfl, rfl⟩, h1⟩ := h
   obtain ⟨q1, q2⟩ := hF _ (by rw [xF]; exact wah)
   exact .ofE (jTl o.N o.sc h1 q1 q2 hz hf) rfl rfl rfl
  ·cases h
 | .bin _ _ _, _ => fun e h => absurd (show false = true from h) waa
 | .neg _, _ => fun e h => absurd (show false = true from h) waa
 | .nt _, _ => fun e h => absurd (show false = true from h) waa
 | .chain _ _ _ _ _, _ => fun e h => absurd (show false = true from h) waa
 | .or _ _, _ => fun e h => absurd (show false = true from h) waa
 | .idx _ _, _ => fun e h => absurd (show false = true from h) waa
 | .lst _, _ => fun e h => absurd (show false = true from h) waa
 | .bm _ _ _, _ => fun e h => absurd (show false = true from h) waa
 | .tup _, _ => fun e h => absurd (show false = true from h) waa
 | .cel _, _ => fun e h => absurd (show false = true from h) waa
 | .dsp _, _ => fun e h => absurd (show false = true from h) waa
 | .slc _ _ _ _ _, _ => fun e h => absurd (show false = true from h) waa
 | .rev _, _ => fun e h => absurd (show false = true from h) waa
 | .callk _ _ _, _ => fun e h => absurd (show false = true from h) waa
 | .told _ _ _, _ => fun e h => absurd (show false = true from h) waa
 | .toldC _ _ _ _ _ _ _ _ _ _, _ => fun e h => absurd (show false = true from h) waa
 | .new _ _ _, _ => fun e h => absurd (show false = true from h) waa
 | .meth _ _ _ _, _ => fun e h => absurd (show false = true from h) waa
 | .methk _ _ _ _ _, _ => fun e h => absurd (show false = true from h) waa
 | .attr _ _ _, _ => fun e h => absurd (show false = true from h) waa
 | .prop _ _ _, _ => fun e h => absurd (show false = true from h) waa
 | .spec _ _ _, _ => fun e h => absurd (show false = true from h) waa
 | .eqc _ _ _ _ _, _ => fun e h => absurd (show false = true from h) waa
 | .eqi _ _ _ _ _, _ => fun e h => absurd (show false = true from h) waa
 | .ownr _ _, _ => fun e h => absurd (show false = true from h) waa
 | .ownl _ _, _ => fun e h => absurd (show false = true from h) waa
 | .getc _ _ _, _ => fun e h => absurd (show false = true from h) waa
 | .clsm _ _ _ _, _ => fun e h => absurd (show false = true from h) waa
 | .newv _ _ _ _, _ => fun e h => absurd (show false = true from h) waa
 | .ownb _ _, _ => fun e h => absurd (show false = true from h) waa
 | .eqo _ _ _, _ => fun e h => absurd (show false = true from h) waa
 | .own1 _ _ _, _ => fun e h => absurd (show false = true from h) waa
 | .isi _ _ _, _ => fun e h => absurd (show false = true from h) waa
 | .isd _ _ _, _ => fun e h => absurd (show false = true from h) waa
 | .own2 _ _ _, _ => fun e h => absurd (show false = true from h) waa
 | .ownin _ _ _ _, _ => fun e h => absurd (show false = true from h) waa
 | .lc _ _ _ _ _, _ => fun e h => absurd (show false = true from h) waa
 | .lc2 _ _ _ _ _ _ _ _, _ => fun e h => absurd (show false = true from h) waa
 | .dc _ _ _ _ _ _, _ => fun e h => absurd (show false = true from h) waa
 | .minBy _ _ _, _ => fun e h => absurd (show false = true from h) waa
 | .fstr _, _ => fun e h => absurd (show false = true from h) waa
 | .xo _ _, _ => fun e h => absurd (show false = true from h) waa
 | .lend _ _, _ => fun e h => absurd (show false = true from h) waa
 | .dead, _ => fun e h => absurd (show false = true from h) waa
theorem jX5 : ∀ (x : Exs), (∀ f ∈ xFs x, XfC X.K (ca X.K cn) ∧ PySem.W.findIn X.K (.ref (ca X.K cn)) f = some none) → IhS (X.suite a ((a, oe) :: pn)) rx W (hotG a d) c (xS G i x) x
 | .nil, _ => fun es h => jHx (by rw [xS] at h; exact h)
 | .cons x xs, hF => fun es h => jGj (jGo x fun f m => hF f (by rw [xFs]; exact waJ _ m)) (jX5 xs fun f m => hF f (by rw [xFs]; exact waG _ m)) (by rw [xS] at h; exact h)
end
end
section
variable {X : Cx} {rx : RX} {W : WX} {Φ : Calls} {k n : Nat} {c : Sx} {CX : CXT} {G : Gs} {ns : List Str} {xs : Exs} {rl : CkL} {st : Stmt}
theorem jMn {L : List (Str × List Str)} {x : Str} {es : List Expr} {p pos pos' : Pos} (hc : X.calm = true) (tk : Takes X W) (hrx : rx = rxE L) (hL : (x, ns) ∈ L) (T : XCls X.prog X.K X.mg (ca X.K x) ns) (hr : Room (k + 1) X.A) (hg : Gl X x) (hm : X.mg x = some (.ref (ca X.K x))) (hdb : (x == ("__debug__" : Str)) = false)
  (hst : es.all noStar = true) (ha : PA X es (DA X.K rx W Φ xs)) (hl : lenS xs = es.length) (hn : es.length = ns.length) : PS X (.Raise (some (.Call (.Name x p) es [] pos)) none pos') (DSx X.K rx W Φ n (.raise x ns xs)) := by
 subst hrx
 cases T with
 | @ini B newId initId bmB fI fs as fd T =>
  cases es with
  | nil => exact absurd (wat hn.symm) T.ne
  | cons e es =>
   rw [waR, wab] at hst
   refine jBo (ps_raise hc tk (jVa T hr hg hm ha hdb (jAd hst.1) (by
    have h := jJk (env := X.env) (pos := pos) hst.2
    rw [List.any_eq_false]
    rw [wag] at h
    intro y hy
    have := h y hy
    simpa using this))) fun D σ H ⟨F, S, as', E, C, sim, no, out⟩ => ?_
   rw [jGn] at out
   refine ⟨F, S, as', E, C, sim, no, out.bind fun v t S1 as1 H1 C1 eq l1 p1 sim1 r1 out1 => ?_⟩
   have r2 : Reps X.K S1 as1 v t := AllR.reps' r1
   have hlt : t.length = ns.length := (jCc Φ E _ _ _ _ eq).trans (hl.trans hn)
   unfold M.bind need at out1
   rw [if_pos (by rw [wac]; exact hlt)] at out1
   refine ⟨r2.length.trans hlt, fun d hd => ?_⟩
   obtain ⟨z1, z2⟩ := jIk (ns := ns) (vs := v) (r2.length.trans hlt)
   refine out1 (.ref (ca X.K x)) (some d) (upd S1 d (.xd ((ns.zip v).reverse))) as1 _ (Le.upd (sim1.newS hd)) (was _) (sim1.alloc hd (fun o w z => nomatch z)) ⟨x, ns, (ns.zip v).reverse, t.reverse, hL, z1, rfl, rfl, ?_, .inr ⟨d, rfl, way⟩⟩
   rw [z2]
   exact (r2.mono (Le.upd (sim1.newS hd)) (was _)).reverse
 | @bare B newId initId bmB T =>
  have : es = [] := wat hn
  subst this
  refine jBo (ps_raise hc tk (jZh T hg hm hdb)) fun D σ H ⟨F, S, as', E, C, sim, no, out⟩ => ?_
  rw [jGn] at out
  have hx : xs = .nil := by
   cases xs with
   | nil => rfl
   | cons e r => simp [lenS] at hl
  subst hx
  exact out (.ref (ca X.K x)) none S as' H (Le.refl _) (was _) sim ⟨x, [], [], [], hL, rfl, rfl, rfl, .nil, .inl ⟨rfl, rfl⟩⟩
theorem jMg {cl : Str} (o : XOk X c CX k rx Φ G) (tk : Takes X W) (hl : IhS X rx W Φ c rl xs) (h : jIx G c cl ns rl st = true) : PS X st (DSx X.K rx W Φ n (.raise cl ns xs)) := by
 unfold jIx at h
 split at h
 ·simp only [wab, waj, wam, wac, wax] at h
  obtain ⟨⟨⟨⟨⟨⟨rfl, h1⟩, h2⟩, h3⟩, h4⟩, ⟨q, hq, e1, e2⟩⟩, h5⟩ := h
  obtain ⟨g1, g2⟩ := o.g.exs _ hq
  rw [e1] at g1 g2
  rw [e2] at g2
  obtain ⟨q1, q2⟩ := q
  obtain rfl : q1 = _ := e1
  obtain rfl : q2 = _ := e2
  exact jMn o.calm tk o.g.rxe hq g2 o.room (jHg o.sc h1) g1 h2 h3 ((hl _ h5).de h3) (hl _ h5).len h4
 ·cases h
theorem j0y {i y : Nat} {cl f : Str} {E : Env} : ex Φ n (.rzc i cl ns xs y f) E = M.bind (jAh (evS Φ xs E)) fun ts => M.bind (need "rzc" (decide (ts.length = ns.length) && (decide (i ≠ y) && decide (i < E.length)))) fun _ => M.bind (lift "rzc" ((ns.reverse.zip ts.reverse).lookup f)) fun v => M.bind (lift "rzc" (biT .repr [v])) fun s => M.bind (lift "rzc" (ownL E y)) fun xs => M.bind (need "size" (szOk (xs.length + 1))) fun _ => M.pure (.nx ((E.set y (.ow (.lst (xs ++ [s])))).set i .un)) := rfl
theorem jLl {i y a : Nat} {d : Option Nat} {f : Str} {us : List Str} {ts ys : List T} {v s : T} {E : Env} {C : jAa} (hv : (us.zip ts).lookup f = some v) (hs : biT .repr [v] = some s) (hy : ownL E y = some ys) (ne : i ≠ y) (hi : i < E.length) (hz : szOk (ys.length + 1) = true) :
  exS (hotG a d) n (.cons (.app y (rpX i f)) .nil) (E.set i (.sh (.exn a d us ts))) C = .ok (.nx ((E.set i (.sh (.exn a d us ts))).set y (.ow (.lst (ys ++ [s]))))) C := by
 have e0 : frzE (jA7 (.app y (rpX i f))) (E.set i (.sh (.exn a d us ts))) = E.set i (.sh (.exn a d us ts)) := by
  rw [show jA7 (.app y (rpX i f)) = [i] from rfl, jMi]
  show (E.set i _).set i _ = _
  rw [List.set_set]
 rw [jEa, e0]
 generalize hE : E.set i (.sh (.exn a d us ts)) = E2
 have hy2 : E2[y]? = some (.ow (.lst ys)) := by
  rw [← hE, wai ne]
  unfold ownL at hy
  split at hy
  ·rename_i e
   cases hy
   exact e
  ·cases hy
 have hi2 : E2[i]? = some (.sh (.exn a d us ts)) := by rw [← hE, wan hi]
 have a1 : atX E2 y = M.pure (.lst ys, fun t' => M.pure (E2.set y (.ow t'))) := by
  unfold atX
  rw [hy2]
 have g1 : getE E2 i = some (.exn a d us ts) := by
  unfold getE
  rw [hi2]
 have h1 : hotG a d ("", f) [.exn a d us ts] = M.pure v := by
  unfold hotG
  simp only [and_self, if_true]
  rw [hv]
  rfl
 have e1 : ev (hotG a d) (rpX i f) E2 = M.pure s := by
  have e2 : ev (hotG a d) (.var i) E2 = M.pure (.exn a d us ts) := by
   show lift "var" (getE E2 i) = _
   rw [g1]
   rfl
  have e3 : ev (hotG a d) (.call f (.cons (.var i) .nil)) E2 = M.pure v := by
   rw [jRv, e2]
   exact h1
  show M.bind (evS (hotG a d) (.cons (.call f (.cons (.var i) .nil)) .nil) E2) (fun ts => lift "bi" (biT .repr ts)) = _
  rw [jIb, e3]
  show lift "bi" (biT .repr [v]) = _
  rw [hs]
  rfl
 have e4 : ex (hotG a d) n (.app y (rpX i f)) E2 = M.pure (.nx (E2.set y (.ow (.lst (ys ++ [s]))))) := by
  unfold ex
  rw [a1, e1]
  show M.bind (need "size" (szOk (ys.length + 1))) _ = _
  rw [hz]
  rfl
 rw [e4]
 rfl
theorem j1w {i y : Nat} {cl f : Str} (o : XOk X c CX k rx Φ G) (hq : X.stack = X.env :: X.outer ∧ X.env.frame = some X.env.locals)
  (hr : ∀ (W' : WX) (pn : List (Addr × Obj)) (xe : Value → Shared → Prop), Takes (X.tr pn xe) W' → ∀ st0, jIx G c cl ns rl st0 = true → PS (X.tr pn xe) st0 (DSx X.K rx W' Φ n (.raise cl ns xs))) (hk : kRzc G c i cl ns y f rl st = true) : PS X st (DZ X.K rx W Φ n (.rzc i cl ns xs y f)) := by
 unfold kRzc at hk
 split at hk
 rotate_left
 ·cases hk
 rename_i rst xn p1 yn z p2 m apos e cpos p3 p4 p5
 simp only [wab, wax, wac, waT, waj] at hk
 obtain ⟨k1, kn, ki, kg, kx, rfl, kv, ks, kl, kne, kh, p, hp, km⟩ := hk
 have hF := o.g.trs p hp
 split at km
 rotate_left
 ·cases km
 rename_i w cs is e1 e2
 rw [wab, wab, waj] at km
 obtain ⟨rfl, kc, kf⟩ := km
 rw [e1, e2] at hF
 simp only [trF, wab] at hF
 have hF1 : ∀ r ∈ G.exs, PySem.W.exmAny X.K (.ref (ca X.K r.1)) [.ref (ca X.K w)] = some (cs.contains r.1) := fun r hr => by
  have := wag.mp hF.1 r hr
  rw [wac] at this
  exact this
 have hf : f ∈ jOk (.lst is) := by
  unfold jO7 at kf
  obtain ⟨i, hi, e5⟩ := wax.mp kf
  refine waZ.mpr ⟨i, hi, ?_⟩
  cases i with
  | fld f => rw [waj.mp e5]
  | _ => cases e5
 have hF2 : ∀ r ∈ G.exs, ∀ g ∈ xF (rpX i f), XfC X.K (ca X.K r.1) ∧ PySem.W.findIn X.K (.ref (ca X.K r.1)) g = some none := fun r hr g hg => by
  have hg : g ∈ [f] := hg
  rw [waB.mp hg]
  have := wag.mp (wag.mp hF.2.1 f hf) r hr
  rw [wab, wac] at this
  exact ⟨xfB_ok this.1, this.2⟩
 have hrx := o.g.rxe
 subst hrx
 let c0 : Cl := ⟨[.ref (ca X.K w)], some i, fun a cls d D σ H => ∃ r ∈ G.exs, cls = .ref (ca X.K r.1) ∧ DSs X.K (fun _ _ _ _ _ _ _ => False) (fun _ _ _ _ => False) (hotG a d) n (.cons (.app y (rpX i f)) .nil) D σ H⟩
 have kn2 : X.N[i]? = some yn ∧ X.env.kindOf yn = some .local := by
  simp only [nmB, wab, waj] at kn
  rw [ki] at kn
  exact ⟨by rw [o.N]; exact kn.1.1.1, by show X.env.scope.names.lookup yn = _; rw [o.sc]; exact kn.1.1.2⟩
 have hH : HdsC X [.ExceptHandler (some (.Name w p1)) (some yn) [.Expr (.Call (.Attribute (.Name z p2) "append" apos) [e] [] cpos) p3] p4] [c0] := by
  refine .cons (c := c0) (jTy (ce := .Name w p1) o.sc o.g.xcs rfl fun z hz => ?_) kn2 (fun a oe cls d pn hz hf => ⟨fun pins s σ H D I hh => ?_⟩) .nil
  ·have hz : z ∈ [w] := hz
   rw [waB.mp hz]
   exact ⟨kg, kx⟩
  ·obtain ⟨r, hr, rfl, hh⟩ := hh
   exact (jDf (jWi (X := X.suite a ((a, oe) :: pn)) (jCm o.N o.sc kv) (jGo (X := X) (pn := pn) (i := i) o hz hf (rpX i f) (hF2 r hr) e kh).de (jAd ks) (by rw [waj]; exact kl)) jD9).run pins s σ H D I hh
 refine jBo (jLe (tb := fun W' => DSx X.K (rxE G.exs) W' Φ n (.raise cl ns xs)) hq.1 hq.2 o.nd (fun W' pn xe tk hp => jJ0 (pss_cons (hr W' pn xe tk rst k1) pss_nil) fun D σ H q => q) hH) fun D σ H ⟨F, S, as, E, C, sim, no, out⟩ => ?_
 refine ⟨F, S, as, E, C, sim, no, ?_⟩
 rw [j0y] at out
 rw [jGn]
 cases e3 : evS Φ xs E C with
 | exc x C1 => unfold M.bind jAh at out; rw [e3] at out; exact out.elim
 | stuck w => unfold M.bind jAh at out; rw [e3] at out; exact out.elim
 | ok ts C1 =>
  have e4 : jAh (evS Φ xs E) C = .ok ts C1 := by
   unfold jAh
   rw [e3]
  have g1 : OutX X.K (rxE G.exs) (wC X.K D [c0]) F σ E (M.bind (need "raise" (decide (ts.length = ns.length))) (fun _ => fun C => .exc (.obj cl ns.reverse ts.reverse) C) C1) S as D → OutX X.K (rxE G.exs) (wC X.K D [c0]) F σ E (M.bind (evS Φ xs E) (fun ts => M.bind (need "raise" (decide (ts.length = ns.length))) fun _ => fun C => .exc (.obj cl ns.reverse ts.reverse) C) C) S as D := fun h => by
   rw [show M.bind (evS Φ xs E) (fun ts => M.bind (need "raise" (decide (ts.length = ns.length))) fun _ => fun C => Res.exc (.obj cl ns.reverse ts.reverse) C) C = M.bind (need "raise" (decide (ts.length = ns.length))) (fun _ => fun C => Res.exc (.obj cl ns.reverse ts.reverse) C) C1 from by
    unfold M.bind
    rw [e3]]
   exact h
  refine g1 ?_
  rw [show ∀ {f : List T → M RS}, M.bind (jAh (evS Φ xs E)) f C = f ts C1 from fun {f} => by
   unfold M.bind
   rw [e4]] at out
  by_cases hb : (decide (ts.length = ns.length) && (decide (i ≠ y) && decide (i < E.length))) = true
  rotate_left
  ·rw [Bool.not_eq_true] at hb
   rw [hb] at out
   exact out.elim
  rw [hb] at out
  rw [wab, wab, wac, wac, wac] at hb
  obtain ⟨hlt, hne, hi⟩ := hb
  cases ev : (ns.reverse.zip ts.reverse).lookup f with
  | none => rw [ev] at out; exact out.elim
  | some v =>
  rw [ev] at out
  cases es : biT .repr [v] with
  | none => 
   have out : OutS X.K (rxE G.exs) W F (M.bind (lift "rzc" (biT .repr [v])) _ C1) S as D := out
   rw [es] at out
   exact out.elim
  | some s =>
  have out : OutS X.K (rxE G.exs) W F (M.bind (lift "rzc" (biT .repr [v])) _ C1) S as D := out
  rw [es] at out
  cases ey : ownL E y with
  | none =>
   have out : OutS X.K (rxE G.exs) W F (M.bind (lift "rzc" (ownL E y)) _ C1) S as D := out
   rw [ey] at out
   exact out.elim
  | some ys =>
  have out : OutS X.K (rxE G.exs) W F (M.bind (lift "rzc" (ownL E y)) _ C1) S as D := out
  rw [ey] at out
  have out : OutS X.K (rxE G.exs) W F (M.bind (need "size" (szOk (ys.length + 1))) (fun _ => M.pure (.nx ((E.set y (.ow (.lst (ys ++ [s])))).set i .un))) C1) S as D := out
  cases hz : szOk (ys.length + 1) with
  | false => rw [hz] at out; exact out.elim
  | true =>
  rw [hz] at out
  have out : OutS X.K (rxE G.exs) W F (.ok (.nx ((E.set y (.ow (.lst (ys ++ [s])))).set i .un)) C1) S as D := out
  rw [show decide (ts.length = ns.length) = true from waU hlt]
  intro cls d S' as' H' l p sim' rx
  obtain ⟨cn, ns', fs, ts', hm, hfs, hx, hcls, rr, hdd⟩ := rx
  simp only [T.obj.injEq] at hx
  obtain ⟨rfl, hx2, rfl⟩ := hx
  refine ⟨true, by rw [hcls, hF1 (cl, ns') hm, kc], fun _ a _ => ⟨(cl, ns'), hm, hcls, F, S', as', E.set i (.sh (.exn a d ns.reverse ts.reverse)), C1, sim'.setSh (by rw [hx2, ← hfs]; exact .exn hdd rr) i, ?_⟩, fun z => Bool.noConfusion z⟩
  rw [jLl ev es ey hne hi hz]
  intro σ2 S2 as2 H2 l2 p2 s2
  have s3 := s2.wipe [i]
  have e9 : jAr [i] ((E.set i (.sh (.exn a d ns.reverse ts.reverse))).set y (.ow (.lst (ys ++ [s])))) = (E.set y (.ow (.lst (ys ++ [s])))).set i .un := by
   show ((E.set i _).set y _).set i _ = _
   rw [List.set_comm _ _ hne, List.set_set]
  rw [e9] at s3
  exact out (σ2.set i none) S2 as2 H2 (l.trans l2) (p.trans p2) s3
end
section
variable {X : Cx} {rx : RX} {W : WX} {Φ : Calls} {n : Nat} {pos : Pos}
theorem jKp {i : Nat} {y : Str} {py : Pos} {elt tg iter tg1 iter1 : Expr} {ifs ifs1 : List Expr} {scope : Scope} {own : List (Str × Nat)} {spos : Pos} {js ws : List Nat} {tgt tgt' : Tg} {src src' : Src} {cond cond' xe : Ex} (hc : X.calm = true) (hN : X.N.Nodup) (hy : X.N[i]? = some y) (hyl : X.env.scope.names.lookup y = some .local)
  (hsw : swapsWith (.ListComp elt [⟨tg, iter, ifs, 0⟩, ⟨tg1, iter1, ifs1, 0⟩] scope pos) (some (.Name y py)) spos.line X.env = pure true) (hi : PI X tg iter (Dn X.K rx W js (evR Φ src) (rJ X.K tgt))) (ok : BlkOk X.N X.env.scope scope own)
  (hw : own.map (·.2) = ws) (hsub : ∀ j ∈ tgS tgt, j ∈ ws) (hsub' : ∀ j ∈ tgS tgt', j ∈ ws) (hjs : escE (.lc2 ws tgt src cond tgt' src' cond' xe) = ws ++ (js ++ (trE cond ++ (escR src' ++ (trE cond' ++ escE xe)))))
  (hg : ∀ (s : Shared) (H : Hp) (C : Addr) (cl : List (Str × Addr)) (fp : List Addr), PG (X.blk s H scope (compEnvC scope cl C X.env) fp) tg (gT X.K tgt)) (ht : ∀ (s : Shared) (H : Hp) (C : Addr) (cl : List (Str × Addr)) (fp : List Addr), PTs (X.blk s H scope (compEnvC scope cl C X.env) fp) ifs (DT X.K rx WF Φ cond))
  (hi1 : ∀ (s : Shared) (H : Hp) (C : Addr) (cl : List (Str × Addr)) (fp : List Addr), PI (X.blk s H scope (compEnvC scope cl C X.env) fp) tg1 iter1 (Dn X.K rx WF (escR src') (evR Φ src') (rJ X.K tgt')))
  (hg1 : ∀ (s : Shared) (H : Hp) (C : Addr) (cl : List (Str × Addr)) (fp : List Addr), PG (X.blk s H scope (compEnvC scope cl C X.env) fp) tg1 (gT X.K tgt')) (ht1 : ∀ (s : Shared) (H : Hp) (C : Addr) (cl : List (Str × Addr)) (fp : List Addr), PTs (X.blk s H scope (compEnvC scope cl C X.env) fp) ifs1 (DT X.K rx WF Φ cond'))
  (he : ∀ (s : Shared) (H : Hp) (C : Addr) (cl : List (Str × Addr)) (fp : List Addr), PE (X.blk s H scope (compEnvC scope cl C X.env) fp) elt (DE X.K rx WF Φ xe)) (hs : ∀ x, foldedSetIterable iter X.env x = pure x) (hs1 : ∀ env x, foldedSetIterable iter1 env x = pure x) :
  PS X (.Assign [.Name y py] (.ListComp elt [⟨tg, iter, ifs, 0⟩, ⟨tg1, iter1, ifs1, 0⟩] scope pos) spos) (DZ X.K rx W Φ n (.set i (.lc2 ws tgt src cond tgt' src' cond' xe))) := by
 refine jBo (ps_setLc2 (vs1 := tgS tgt') hc hN hy hyl hsw hi ok (by rw [hw]; exact hsub') hg ht hi1 hg1 ht1 he hs hs1) fun D σ H hd => ?_
 have h := jEb hd
 have h2 : (Dn X.K rx W (ws ++ (js ++ (trE cond ++ (escR src' ++ (trE cond' ++ escE xe))))) (ev Φ (.lc2 ws tgt src cond tgt' src' cond' xe)) (rF X.K)) σ H (fun x H1 => gName i x σ H1 D.nx) := by
  rw [← hjs]
  exact h
 rw [hw]
 exact jJe hsub hsub' h2
end
abbrev Est (X : Cx) (rx : RX) (W : WX) (Φ : Calls) (n : Nat) (st : Stmt) (s : SI.St) : Prop := PS X st (DZ X.K rx W Φ n s)
section
variable {X : Cx} {c : Sx} {CX : CXT} {k : Nat} {rx : RX} {Φ : Calls} {G : Gs} {W : WX} {st : Stmt} {x y z : Ex} {ra rb rd : Ck} {rl : CkL} {n : Nat} {i : Nat} {xs : Exs}
theorem jF2 {y : Str} (o : XOk X c CX k rx Φ G) (h : tgB c i y = true) : TgN X i y := jFn o.N o.sc o.fn h
theorem jC7 {x : Str} (o : XOk X c CX k rx Φ G) (h : jHw c i x = true) : X.N[i]? = some x ∧ X.env.scope.names.lookup x = some .local := by
 simp only [jHw, wab, waj] at h
 exact ⟨by rw [o.N]; exact h.1, by rw [o.sc]; exact h.2⟩
theorem j0j (o : XOk X c CX k rx Φ G) (ha : IhE X rx W Φ c ra x) (hl : jWw x = false) (h : kSet c i x ra st = true) : Est X rx W Φ n st (.set i x) := by
 unfold kSet at h
 split at h
 ·rename_i y py e p
  simp only [wab] at h
  obtain ⟨⟨h1, h2⟩, h3⟩ := h
  refine jCx o.nd (jF2 o h1) (ha e h2).dr ?_
  unfold kSw at h3
  split at h3
  ·rw [wab, hl, Bool.or_false, waj, wam] at h3
   rw [jF3 o.sc h3.1, h3.2]
  ·rw [wab, hl, Bool.or_false, waj, wam] at h3
   rw [jMu o.sc h3.1, h3.2]
  ·exact jDr h3
 ·cases h
theorem jRb {ws : List Nat} {tg : Tg} {src : Src} {rs : CkR} (o : XOk X c CX k rx Φ G) (hs : ∀ tg e, rs c tg e = true → ErR X rx W Φ tg e src) (hc : IhB c CX k rx Φ G ra x) (he : IhB c CX k rx Φ G rb y)
  (h : kSet c i (.lc ws tg src x y) (fun c e => kLc c ws tg x rs ra rb e) st = true) : Est X rx W Φ n st (.set i (.lc ws tg src x y)) := by
 unfold kSet at h
 split at h
 ·rename_i nm py e p
  simp only [wab] at h
  obtain ⟨⟨h1, h2⟩, h3⟩ := h
  have hr := j1j o hs hc he h2
  unfold kSw at h3
  split at h3
  ·rename_i elt gens scope lp
   rw [wab, waj] at h3
   have hsw := jF3 (elt := elt) (gens := gens) (l := p.line) (y := nm) (py := py) (lp := lp) (scope := scope) o.sc h3.1
   cases q : lcSw c nm py scope lp with
   | false =>
    rw [q] at hsw
    exact jCx o.nd (jF2 o h1) hr.dr hsw
   | true =>
    rw [q] at hsw
    have hy := jF2 o h1
    have hyl : X.env.scope.names.lookup nm = some .local := by
     simp only [lcSw, wab, waj] at q
     rw [o.sc]
     exact q.1.1
    unfold kLc at h2
    split at h2
    ·rename_i heq
     cases heq
     simp only [wab, wag] at h2
     obtain ⟨⟨⟨⟨⟨g1, g2⟩, g3⟩, g4⟩, g5⟩, g6⟩ := h2
     obtain ⟨b1, b2⟩ := jFe g1
     have r := hs _ _ g4
     refine jNd o.calm o.nd hy.ix hyl hsw (r.j _ (jB3 g2)) (by rw [o.N, o.sc]; exact b1) b2 (fun j hj => by simpa using g3 j hj) rfl (fun s H C cl fp => ?_) (fun s H C cl fp => ?_) (fun s H C cl fp => ?_) (r.f X.env)
     ·have ob := o.blk scope s H C cl fp
      exact jC5 ob.calm ob.nd ob.N ob.sc ob.fn g2
     ·exact jDz (hc _ scope (o.blk scope s H C cl fp)) g5
     ·exact (he _ scope (o.blk scope s H C cl fp) _ g6).de
    ·cases h2
  ·cases h2
  ·exact jCx o.nd (jF2 o h1) hr.dr (jDr h3)
 ·cases h
theorem jLh {ws : List Nat} {tg tg2 : Tg} {src src2 : Src} {rs rs2 : CkR} {rc2 re : Ck} {x2 : Ex} (o : XOk X c CX k rx Φ G) (hs : ∀ tg e, rs c tg e = true → ErR X rx W Φ tg e src) (hs2 : ∀ (X : Cx) (scope : Scope), XOk X (c.in scope) CX k rx Φ G → ∀ tg e, rs2 (c.in scope) tg e = true → ErR X rx WF Φ tg e src2)
  (hc : IhB c CX k rx Φ G ra x) (hc2 : IhB c CX k rx Φ G rc2 x2) (he : IhB c CX k rx Φ G re y) (h : kSet c i (.lc2 ws tg src x tg2 src2 x2 y) (fun c e => kLc2 c ws tg tg2 x x2 rs rs2 ra rc2 re e) st = true) : Est X rx W Φ n st (.set i (.lc2 ws tg src x tg2 src2 x2 y)) := by
 unfold kSet at h
 split at h
 ·rename_i nm py e p
  simp only [wab] at h
  obtain ⟨⟨h1, h2⟩, h3⟩ := h
  have hr := jR4 o hs hs2 hc hc2 he h2
  unfold kSw at h3
  split at h3
  ·rename_i elt gens scope lp
   rw [wab, waj] at h3
   have hsw := jF3 (elt := elt) (gens := gens) (l := p.line) (y := nm) (py := py) (lp := lp) (scope := scope) o.sc h3.1
   cases q : lcSw c nm py scope lp with
   | false =>
    rw [q] at hsw
    exact jCx o.nd (jF2 o h1) hr.dr hsw
   | true =>
    rw [q] at hsw
    have hy := jF2 o h1
    have hyl : X.env.scope.names.lookup nm = some .local := by
     simp only [lcSw, wab, waj] at q
     rw [o.sc]
     exact q.1.1
    unfold kLc2 at h2
    split at h2
    ·rename_i heq
     cases heq
     simp only [wab, wag] at h2
     obtain ⟨⟨⟨⟨⟨⟨⟨⟨⟨g1, g2⟩, g3⟩, g4⟩, g5⟩, g6⟩, g7⟩, g8⟩, g9⟩, g10⟩ := h2
     obtain ⟨b1, b2⟩ := jFe g1
     have r := hs _ _ g6
     have r2 := fun (s : Shared) (H : Hp) (C : Addr) (cl : List (Str × Addr)) (fp : List Addr) => hs2 _ scope (o.blk scope s H C cl fp) _ _ g7
     refine jKp o.calm o.nd hy.ix hyl hsw (r.j _ (jB3 g2)) (by rw [o.N, o.sc]; exact b1) b2 (fun j hj => by simpa using g4 j hj) (fun j hj => by simpa using g5 j hj) rfl (fun s H C cl fp => ?_) (fun s H C cl fp => ?_) (fun s H C cl fp => (r2 s H C cl fp).j _ (jB3 g3)) (fun s H C cl fp => ?_) (fun s H C cl fp => ?_) (fun s H C cl fp => ?_) (r.f X.env) (fun env => (r2 X.s_0 X.H_0 0 [] []).f env)
     ·have ob := o.blk scope s H C cl fp
      exact jC5 ob.calm ob.nd ob.N ob.sc ob.fn g2
     ·exact jDz (hc _ scope (o.blk scope s H C cl fp)) g8
     ·have ob := o.blk scope s H C cl fp
      exact jC5 ob.calm ob.nd ob.N ob.sc ob.fn g3
     ·exact jDz (hc2 _ scope (o.blk scope s H C cl fp)) g9
     ·exact (he _ scope (o.blk scope s H C cl fp) _ g10).de
    ·cases h2
  ·cases h2
  ·exact jCx o.nd (jF2 o h1) hr.dr (jDr h3)
 ·cases h
theorem jOy {i : Nat} {y : Str} {py spos : Pos} {kx vx tg iter : Expr} {ifs : List Expr} {scope : Scope} {own : List (Str × Nat)} {js ws : List Nat} {tgt : Tg} {src : Src} {cond xk xv : Ex} (hc : X.calm = true) (hN : X.N.Nodup) (hy : X.N[i]? = some y) (hyl : X.env.scope.names.lookup y = some .local)
  (hsw : swapsWith (.DictComp kx vx [⟨tg, iter, ifs, 0⟩] scope pos) (some (.Name y py)) spos.line X.env = pure true) (hi : PI X tg iter (Dn X.K rx W js (evR Φ src) (rJ X.K tgt))) (ok : BlkOk X.N X.env.scope scope own)
  (hw : own.map (·.2) = ws) (hsub : ∀ j ∈ tgS tgt, j ∈ ws) (hjs : escE (.dc ws tgt src cond xk xv) = ws ++ (js ++ (trE cond ++ (escE xk ++ escE xv))))
  (hg : ∀ (s : Shared) (H : Hp) (C : Addr) (cl : List (Str × Addr)) (fp : List Addr), PG (X.blk s H scope (compEnvC scope cl C X.env) fp) tg (gT X.K tgt)) (ht : ∀ (s : Shared) (H : Hp) (C : Addr) (cl : List (Str × Addr)) (fp : List Addr), PTs (X.blk s H scope (compEnvC scope cl C X.env) fp) ifs (DT X.K rx WF Φ cond))
  (hk : ∀ (s : Shared) (H : Hp) (C : Addr) (cl : List (Str × Addr)) (fp : List Addr), PE (X.blk s H scope (compEnvC scope cl C X.env) fp) kx (DE X.K rx WF Φ xk)) (hv : ∀ (s : Shared) (H : Hp) (C : Addr) (cl : List (Str × Addr)) (fp : List Addr), PE (X.blk s H scope (compEnvC scope cl C X.env) fp) vx (DE X.K rx WF Φ xv)) (hs : ∀ x, foldedSetIterable iter X.env x = pure x) :
  PS X (.Assign [.Name y py] (.DictComp kx vx [⟨tg, iter, ifs, 0⟩] scope pos) spos) (DZ X.K rx W Φ n (.set i (.dc ws tgt src cond xk xv))) := by
 refine jBo (jNx hc hN hy hyl hsw hi ok hg ht hk hv hs) fun D σ H hd => ?_
 have h2 : (Dn X.K rx W (ws ++ (js ++ (trE cond ++ (escE xk ++ escE xv)))) (ev Φ (.dc ws tgt src cond xk xv)) (rF X.K)) σ H (fun x H1 => gName i x σ H1 D.nx) := by
  rw [← hjs]
  exact jEb hd
 rw [hw]
 exact jN6 hsub h2
theorem jPg {ws : List Nat} {tg : Tg} {src : Src} {rs : CkR} {rk : Ck} {xk : Ex} (o : XOk X c CX k rx Φ G) (hs : ∀ tg e, rs c tg e = true → ErR X rx W Φ tg e src) (hc : IhB c CX k rx Φ G ra x) (hk : IhB c CX k rx Φ G rk xk) (he : IhB c CX k rx Φ G rb y)
  (h : kSet c i (.dc ws tg src x xk y) (fun c e => kDc c ws tg x rs ra rk rb e) st = true) : Est X rx W Φ n st (.set i (.dc ws tg src x xk y)) := by
 unfold kSet at h
 split at h
 ·rename_i nm py e p
  simp only [wab] at h
  obtain ⟨⟨h1, h2⟩, h3⟩ := h
  have hr := jZu o hs hc hk he h2
  have h2' := h2
  unfold kDc at h2'
  split at h2'
  ·rename_i kx vx tg' iter ifs scope lp
   have h3 : (c.sc.kind == .function && (!lcSw c nm py scope lp || true)) = true := h3
   rw [wab, waj] at h3
   have hsw := jMu (kx := kx) (vx := vx) (gens := [⟨tg', iter, ifs, 0⟩]) (l := p.line) (y := nm) (py := py) (lp := lp) (scope := scope) o.sc h3.1
   cases q : lcSw c nm py scope lp with
   | false =>
    rw [q] at hsw
    exact jCx o.nd (jF2 o h1) hr.dr hsw
   | true =>
    rw [q] at hsw
    have hy := jF2 o h1
    have hyl : X.env.scope.names.lookup nm = some .local := by
     simp only [lcSw, wab, waj] at q
     rw [o.sc]
     exact q.1.1
    simp only [wab, wag] at h2'
    obtain ⟨⟨⟨⟨⟨⟨g1, g2⟩, g3⟩, g4⟩, g5⟩, g6⟩, g7⟩ := h2'
    obtain ⟨b1, b2⟩ := jFe g1
    have r := hs _ _ g4
    refine jOy o.calm o.nd hy.ix hyl hsw (r.j _ (jB3 g2)) (by rw [o.N, o.sc]; exact b1) b2 (fun j hj => by simpa using g3 j hj) rfl (fun s H C cl fp => ?_) (fun s H C cl fp => ?_) (fun s H C cl fp => ?_) (fun s H C cl fp => ?_) (r.f X.env)
    ·have ob := o.blk scope s H C cl fp
     exact jC5 ob.calm ob.nd ob.N ob.sc ob.fn g2
    ·exact jDz (hc _ scope (o.blk scope s H C cl fp)) g5
    ·exact (hk _ scope (o.blk scope s H C cl fp) _ g6).de
    ·exact (he _ scope (o.blk scope s H C cl fp) _ g7).de
  ·cases h2'
 ·cases h
theorem jYj {is : List Nat} (o : XOk X c CX k rx Φ G) (hl : IhS X rx W Φ c rl xs) (h : kPar c is rl st = true) : Est X rx W Φ n st (.par is xs) := by
 unfold kPar at h
 split at h
 ·rename_i ns kt pt es k2 pt2 pos
  simp only [wab, waj, wac, waD] at h
  obtain ⟨⟨⟨⟨⟨h1, h2⟩, h3⟩, h4⟩, h5⟩, h6⟩ := h
  have q := (hl _ h4).sl h3
  have tn := jGh o.N o.sc o.fn h2
  have hz : is.length ≤ sizeLine := by rw [waN]; omega
  rcases h6 with h6 | h6
  ·exact jVg hz o.calm o.nd tn q (jO1 o.sc h1 h6)
  ·unfold jYh at h6
   split at h6
   ·rename_i i j xn px yn py a b
    simp only [wab, wac] at h6
    obtain ⟨⟨⟨g1, g2⟩, g3⟩, g4⟩ := h6
    obtain ⟨i1, i2⟩ := jC7 o g3
    obtain ⟨j1, j2⟩ := jC7 o g4
    exact jPa o.calm o.nd i1 j1 g2 i2 j2 q (jO1 o.sc h1 g1)
   ·rename_i i j l xn px yn py zn pz a b d
    simp only [wab, wac] at h6
    obtain ⟨⟨⟨⟨⟨⟨g1, g2⟩, g3⟩, g4⟩, g5⟩, g6⟩, g7⟩ := h6
    obtain ⟨i1, i2⟩ := jC7 o g5
    obtain ⟨j1, j2⟩ := jC7 o g6
    obtain ⟨l1, l2⟩ := jC7 o g7
    exact jPo o.calm o.nd i1 j1 l1 g2 g3 g4 i2 j2 l2 q (jO1 o.sc h1 g1)
   ·cases h6
 ·cases h
theorem jZp (ha : IhE X rx W Φ c ra x) (h : kExp c ra st = true) : Est X rx W Φ n st (.exp x) := by
 unfold kExp at h
 split at h
 ·rw [wab] at h
  exact jT4 (ha _ h.2).de (jDr h.1)
 ·cases h
theorem jR0 (ha : IhE X rx W Φ c ra x) (h : kRet c x ra st = true) : Est X rx W Φ n st (.ret x) := by
 unfold kRet at h
 split at h
 ·exact jOx (ha _ h).de
 ·unfold jXt at h
  split at h
  ·exact jQi
  ·cases h
 ·cases h
abbrev IhT (X : Cx) (rx : RX) (W : WX) (Φ : Calls) (n : Nat) (c : Sx) (r : CkTs) (x : Ss) : Prop := ∀ ss, r c ss = true → PSs X ss (DSs X.K rx W Φ n x)
theorem jZj {a b : Ss} {rsa rsb : CkTs} (ha : IhE X rx W Φ c ra x) (h1 : IhT X rx W Φ n c rsa a) (h2 : IhT X rx W Φ n c rsb b) (h : kIf c ra rsa rsb st = true) : Est X rx W Φ n st (.ite x a b) := by
 unfold kIf at h
 split at h
 ·simp only [wab] at h
  exact jUx (ha _ h.1.1).dt (h1 _ h.1.2) (h2 _ h.2)
 ·cases h
theorem jY1 {tg : Tg} {src : Src} {b : Ss} {rs : CkR} {rsb : CkTs} (o : XOk X c CX k rx Φ G) (hp : PassesOwn (model X.prog X.w) X.A X.env X.xe) (hs : ∀ tg e, rs c tg e = true → ErR X rx W Φ tg e src) (h1 : IhT X rx W Φ n c rsb b) (h : kFor c tg rs rsb st = true) : Est X rx W Φ n st (.for_ tg src b) := by
 unfold kFor at h
 split at h
 ·simp only [wab] at h
  have r := hs _ _ h.1.2
  exact jWn hp o.calm (r.i _ (jB3 h.1.1)) (jC5 o.calm o.nd o.N o.sc o.fn h.1.1) (h1 _ h.2) (r.f X.env)
 ·cases h
theorem jY5 {b : Ss} {rsb : CkTs} (hp : PassesOwn (model X.prog X.w) X.A X.env X.xe) (ha : IhE X rx W Φ c ra x) (h1 : IhT X rx W Φ n c rsb b) (h : kWhl c x ra rsb st = true) : Est X rx W Φ n st (.whl x b) := by
 unfold kWhl at h
 split at h
 ·rw [wab] at h
  exact jUf hp (ha _ h.1).dt (h1 _ h.2)
 ·cases h
theorem jLu {Y : Cx} {W : WX} (tk : Takes Y W) : Takes Y (fun cls d σ H => σ.length = Y.N.length → W cls d σ H) := by
 rintro u t ⟨a, g, ss, pins', σ', H', cls, d, rfl, J, gr, up, sky, na, os, ag, w⟩
 exact tk _ _ ⟨a, g, ss, pins', σ', H', cls, d, rfl, J, gr, up, sky, na, os, ag, w J.len⟩
theorem jUa {L : List (Str × List Str)} {K : PySem.W.Frag} {W : WX} {F S : Hp} {as : List Addr} {m : M RS} {hs : List Hd} {l : List Cl} {C : jAa} {D : Ends} {N : Nat} (k : CLnk L K N l hs) (out : OutS K (rxE L) W F (tryM hs m C) S as D) : OutS K (rxE L) (fun cls d σ H => σ.length = N → wCW K D W l cls d σ H) F (m C) S as D := by
 unfold tryM at out
 cases e : m C with
 | ok o C' => rw [e] at out; cases o <;> exact out
 | stuck w => rw [e] at out; exact out.elim
 | exc x C' =>
  rw [e] at out
  intro cls d σ' S' as' H' E' l1 p1 sim rx hn
  have out0 : OutS K (rxE L) W F (if jJy hs x = true then M.bind (hdsM hs x) (fun t => M.pure (.rt t)) C' else .exc x C') S as D := out
  clear out
  by_cases tk : jJy hs x = true
  rotate_left
  ·rw [if_neg tk] at out0
   exact j1n k rx (by simpa using tk) (out0 cls d σ' S' as' H' E' l1 p1 sim rx)
  rw [if_pos tk] at out0
  have out := out0
  have key : ∀ {hs : List Hd} {x : T}, OutS K (rxE L) W F (M.bind (hdsM hs x) (fun t => M.pure (.rt t)) C') S as D → ∃ t, hdsO hs x = some t ∧ OutS K (rxE L) W F (.ok (.rt t) C') S as D := by
   intro hs
   induction hs with
   | nil => intro x h; exact h.elim
   | cons h0 r ih =>
    intro x h
    cases x with
    | obj c ns vs =>
     show ∃ t, (if h0.cs.contains c then hbT ns vs h0.b else hdsO r (.obj c ns vs)) = some t ∧ _
     have h : OutS K (rxE L) W F (M.bind (if h0.cs.contains c then lift "clause" (hbT ns vs h0.b) else hdsM r (.obj c ns vs)) (fun t => M.pure (.rt t)) C') S as D := h
     by_cases e : h0.cs.contains c = true
     ·rw [if_pos e] at h ⊢
      cases q : hbT ns vs h0.b with
      | none => rw [q] at h; exact h.elim
      | some t => rw [q] at h; exact ⟨t, rfl, h⟩
     ·rw [if_neg e] at h ⊢
      exact ih h
    | _ => exact h.elim
  obtain ⟨t, et, o2⟩ := key out
  exact j06 (σ := σ') hn k rfl rx et (jN8 sim) fun v S2 as2 H2 l2 p2 sim2 r2 => o2 v [] S2 as2 H2 [] (l1.trans l2) (p1.trans p2) sim2 r2
theorem j14 {hs : List Hd} {b : Ss} {rsb : CkTs} (o : XOk X c CX k rx Φ G) (tk0 : Takes X W) (hq : X.stack = X.env :: X.outer ∧ X.env.frame = some X.env.locals)
  (h1 : ∀ (W : WX) (pn : List (Addr × Obj)) (xe : Value → Shared → Prop), Takes (X.tr pn xe) W → PassesOwn (model X.prog X.w) X.A X.env xe → IhT (X.tr pn xe) rx W Φ n c rsb b) (h : kTry G c hs rsb st = true) : Est X rx W Φ n st (.try_ b hs) := by
 unfold kTry at h
 split at h
 ·rename_i body h0 hds pos
  simp only [wab, wax, wac] at h
  obtain ⟨⟨h2, h3⟩, q, hq1, e1, e2⟩ := h
  have hF := o.g.trs q hq1
  rw [e1, jD7 e2] at hF
  have hF := jNj h3 hF
  have hH := jRz (fun hr => by
   unfold rprB at hr
   rw [wab] at hr
   have gg := o.blt (x := "repr") (by
    have := hr.2
    unfold bltB at this ⊢
    exact this)
   exact ⟨o.g.rps hr.1, gg.1, gg.2, o.gd, by have := o.room.dp; omega, o.units⟩) o.N o.sc o.g.xcs h3 hF
  have hk := jSv h3 hF
  have hrx := o.g.rxe
  subst hrx
  refine jBo (jV3 (tb := fun W => DSs X.K (rxE G.exs) (fun cls d σ H => σ.length = X.N.length → W cls d σ H) Φ n b) hq.1 hq.2 o.nd tk0 (fun W pn xe tk hp => h1 _ pn xe (jLu tk) hp body h2) hH) fun D σ H ⟨F, S, as, E, C, sim, no, out⟩ => ?_
  refine ⟨F, S, as, E, C, sim, ?_⟩
  rw [o.N]
  exact jUa hk out
 ·cases h
theorem j1g {X : Cx} {c : Sx} {rx : RX} {W : WX} {Φ : Calls} {h : Ex} {e : Expr} (hN : X.N = c.N) (hs : X.env.scope = c.sc) (hk : kHx c h e = true) : PE X e (DE X.K rx W Φ h) := by
 have vr : ∀ {i : Nat} {e : Expr}, kVar c i e = true → PE X e (DE X.K rx W Φ (.var i)) ∧ PE X e (DW X.K rx W Φ (.var i)) := fun {i e} h => by
  cases e with
  | Name x p =>
   have v := jCm hN hs (show varB c i x = true from h)
   exact ⟨jE1 v.ix v.vis v.d v.c, jC1 v.ix v.vis v.d v.c⟩
  | _ => cases h
 unfold kHx at hk
 split at hk
 ·exact (vr hk).1
 ·exact jMe (vr hk).2
 ·cases hk
theorem jTk {i : Nat} {x : Ex} {b h : Ss} {cs : List Str} {re : Ck} {rsb : CkTs} (o : XOk X c CX k rx Φ G) (hq : X.stack = X.env :: X.outer ∧ X.env.frame = some X.env.locals)
  (h0 : ∀ (W : WX) (pn : List (Addr × Obj)) (xe : Value → Shared → Prop), Takes (X.tr pn xe) W → PassesOwn (model X.prog X.w) X.A X.env xe → IhE (X.tr pn xe) rx W Φ c re x)
  (h1 : ∀ (W : WX) (pn : List (Addr × Obj)) (xe : Value → Shared → Prop), Takes (X.tr pn xe) W → PassesOwn (model X.prog X.w) X.A X.env xe → IhT (X.tr pn xe) rx W Φ n c rsb b) (hk : jWa G c i re rsb cs h st = true) : Est X rx W Φ n st (.tryA i x b cs h) := by
 unfold jWa at hk
 split at hk
 ·rename_i y p1 e p2 body xn p3 he p4 p5 p6
  simp only [wab, wax, wac, waT] at hk
  obtain ⟨⟨⟨⟨⟨⟨⟨k1, k2⟩, k3⟩, k4⟩, k5⟩, k6⟩, k7⟩, q, hq1, e1, e2⟩ := hk
  have hF := o.g.trs q hq1
  rw [e1, jD7 e2] at hF
  have hF1 : ∀ r ∈ G.exs, PySem.W.exmAny X.K (.ref (ca X.K r.1)) [.ref (ca X.K xn)] = some (cs.contains r.1) := fun r hr => by
   have hF2 : ((G.exs.all fun q => decide (PySem.W.exmAny X.K (.ref (ca X.K q.1)) ([xn].map fun x => .ref (ca X.K x)) = some (cs.contains q.1))) && (true && true)) = true := hF
   rw [wab, wag] at hF2
   have := hF2.1 r hr
   rw [wac] at this
   exact this
  obtain ⟨hr, rfl⟩ : ∃ hr, h = .cons (.ret hr) .nil := by
   unfold kHr at k5
   split at k5
   ·exact ⟨_, rfl⟩
   ·cases k5
  have k5 : kHx c hr he = true := k5
  have hrx := o.g.rxe
  subst hrx
  have hH : HdsC X [.ExceptHandler (some (.Name xn p3)) none [.Return (some he) p4] p5] [⟨[.ref (ca X.K xn)], none, fun _ _ _ => DSs X.K (rxE G.exs) W Φ n (.cons (.ret hr) .nil)⟩] := by
   refine .cons (c := ⟨[.ref (ca X.K xn)], none, fun _ _ _ => DSs X.K (rxE G.exs) W Φ n (.cons (.ret hr) .nil)⟩) (jTy (ce := .Name xn p3) o.sc o.g.xcs rfl fun z hz => ?_) trivial (fun a oe cls d pn _ _ => jDf (jOx (j1g o.N o.sc k5)) jD9) .nil
   have hz : z ∈ [xn] := hz
   rw [waB.mp hz]
   exact ⟨k6, k7⟩
  have tg := jFn o.N o.sc o.fn k1
  refine jBo (jLe (tb := fun W' => tSeq (tAsg (DR X.K (rxE G.exs) W' Φ x) (gName i)) (DSs X.K (rxE G.exs) W' Φ n b)) hq.1 hq.2 o.nd (fun W' pn xe tk hp => pss_cons (ps_set (X := X.tr pn xe) o.nd tg.ix tg.loc (h0 W' pn xe tk hp e k2).dr (jDr k3) tg.fn) (h1 W' pn xe tk hp body k4)) hH) fun D σ H ⟨F, S, as, E, C, sim, no, out⟩ => ?_
  have out : OutS X.K (rxE G.exs) W F (jWd (ev Φ x E) (fun t => exS Φ n b (E.set i (jAc x t))) cs (exS Φ n (.cons (.ret hr) .nil) E) C) S as D := out
  refine ⟨F, S, as, E, C, sim, no, ?_⟩
  unfold jWd at out
  cases ee : ev Φ x E C with
  | ok t C1 =>
   rw [ee] at out
   intro v S' as' H' l p sim' r
   have out2 : OutS X.K (rxE G.exs) (wC X.K D [⟨[.ref (ca X.K xn)], none, fun _ _ _ => DSs X.K (rxE G.exs) W Φ n (.cons (.ret hr) .nil)⟩]) F (exS Φ n b (E.set i (jAc x t)) C1) S as D := by
    have out : OutS X.K (rxE G.exs) W F (jAh (exS Φ n b (E.set i (jAc x t))) C1) S as D := out
    unfold jAh at out
    cases e9 : exS Φ n b (E.set i (jAc x t)) C1 with
    | ok a C2 => rw [e9] at out; cases a <;> exact out
    | exc a C2 => rw [e9] at out; exact out.elim
    | stuck w => rw [e9] at out; exact out.elim
   exact ⟨F, S', as', _, C1, sim'.setSlot r i, OutS.mono out2 l p⟩
  | exc z C1 =>
   rw [ee] at out
   intro cls d S' as' H' l p sim' rx
   obtain ⟨cn, ns, fs, ts, hm, _, rfl, hcls, _⟩ := rx
   have out : OutS X.K (rxE G.exs) W F (if cs.contains cn then exS Φ n (.cons (.ret hr) .nil) E C1 else .stuck "tryA") S as D := out
   have hex := hF1 (cn, ns) hm
   by_cases hc : cs.contains cn = true
   ·rw [if_pos hc] at out
    refine ⟨true, by rw [hcls, hex, hc], fun _ a _ => ⟨F, S', as', E, C1, sim', OutS.mono out l p⟩, fun z => Bool.noConfusion z⟩
   ·rw [if_neg hc] at out
    exact out.elim
  | stuck w =>
   rw [ee] at out
   exact out.elim
 ·cases hk
theorem jZ5 (h : kPas st = true) : Est X rx W Φ n st .pas := by
 unfold kPas at h
 split at h
 ·exact jWu
 ·cases h
end
section
variable {CX : CXT} {k : Nat} {rx : RX} {Φ : Calls} {G : Gs}
mutual
theorem j77 (nx : NoX CX) (n : Nat) (X : Cx) (c : Sx) (W : WX) (o : XOk X c CX k rx Φ G) (tk : Takes X W) (hx : ∀ σ, PassesAt CX X σ (WE W σ)) (hp : PassesOwn (model X.prog X.w) X.A X.env X.xe) (hq : X.stack = X.env :: X.outer ∧ X.env.frame = some X.env.locals) : ∀ (s : SI.St) (st : Stmt), es G s c st = true → Est X rx W Φ n st s
 | .set i x, st, h => by
  rw [es] at h
  cases x with
  | lc ws tg src cond elt =>
   rw [er] at h
   exact jRb o (jC3 nx src X c W o hx) (okB nx (jAl nx cond) c) (okB nx (jAl nx elt) c) h
  | lc2 ws tg src cond tg2 src2 cond2 elt =>
   rw [er] at h
   exact jLh o (jC3 nx src X c W o hx) (fun X' scope o' => jC3 nx src2 X' (c.in scope) WF o' fun σ => nx X' σ) (okB nx (jAl nx cond) c) (okB nx (jAl nx cond2) c) (okB nx (jAl nx elt) c) h
  | dc ws tg src cond xk xv =>
   rw [er] at h
   exact jPg o (jC3 nx src X c W o hx) (okB nx (jAl nx cond) c) (okB nx (jAl nx xk) c) (okB nx (jAl nx xv) c) h
  | _ => exact j0j o (jAl nx _ X c W o hx) rfl h
 | .par is xs, st, h => jYj o (jDx nx xs X c W o hx) (by rw [es] at h; exact h)
 | .unp is x, st, h => by rw [es] at h; exact absurd h waa
 | .dvm hh kk j a b, st, h => by rw [es] at h; exact absurd h waa
 | .setIx i a b, st, h => by rw [es] at h; exact absurd h waa
 | .setAt cl f x, st, h => by rw [es] at h; exact absurd h waa
 | .aug i op x, st, h => by rw [es] at h; exact absurd h waa
 | .setIf i t x, st, h => by rw [es] at h; exact absurd h waa
 | .setOwn cl a b x, st, h => by rw [es] at h; exact absurd h waa
 | .setIxs i ks xs, st, h => by rw [es] at h; exact absurd h waa
 | .app i x, st, h => by rw [es] at h; exact absurd h waa
 | .ext i x, st, h => by rw [es] at h; exact absurd h waa
 | .ins i a b, st, h => by rw [es] at h; exact absurd h waa
 | .rem i x, st, h => by rw [es] at h; exact absurd h waa
 | .pop i j, st, h => by rw [es] at h; exact absurd h waa
 | .appPop i j x, st, h => by rw [es] at h; exact absurd h waa
 | .exp x, st, h => jZp (jAl nx x X c W o hx) (by rw [es] at h; exact h)
 | .ret x, st, h => jR0 (jAl nx x X c W o hx) (by rw [es] at h; exact h)
 | .ite x a b, st, h => jZj (jAl nx x X c W o hx) (jCb nx n X c W o tk hx hp hq a) (jCb nx n X c W o tk hx hp hq b) (by rw [es] at h; exact h)
 | .for_ tg src b, st, h => jY1 o hp (jC3 nx src X c W o hx) (jCb nx n X c W o tk hx hp hq b) (by rw [es] at h; exact h)
 | .whl x b, st, h => jY5 hp (jAl nx x X c W o hx) (jCb nx n X c W o tk hx hp hq b) (by rw [es] at h; exact h)
 | .raise k ns xs, st, h => by rw [es] at h; exact absurd h waa
 | .try_ b hs, st, h => j14 o tk hq (fun W' pn xe tk' hp' => by
   have hcx := o.g.cxe
   exact jCb nx n (X.tr pn xe) c W' (o.tr pn xe) tk' (fun σ => by rw [hcx]; exact passAt tk' σ) hp' hq b) (by rw [es] at h; exact h)
 | .tryA i e b cs hh, st, h => jTk o hq (fun W' pn xe tk' hp' => by
   have hcx := o.g.cxe
   exact jAl nx e (X.tr pn xe) c W' (o.tr pn xe) (fun σ => by rw [hcx]; exact passAt tk' σ)) (fun W' pn xe tk' hp' => by
 have hcx := o.g.cxe
 exact jCb nx n (X.tr pn xe) c W' (o.tr pn xe) tk' (fun σ => by rw [hcx]; exact passAt tk' σ) hp' hq b) (by rw [es] at h; exact h)
 | .tryX i b cs hh, st, h => by rw [es] at h; exact absurd h waa
 | .acts i j f hs es2 rhs, st, h => by rw [es] at h; exact absurd h waa
 | .rzc i cl ns xs j f, st, h => j1w o hq (fun W' pn xe tk' st0 h0 => by
   have hcx := o.g.cxe
   exact jMg (o.tr pn xe) tk' (jDx nx xs (X.tr pn xe) c W' (o.tr pn xe) (fun σ => by rw [hcx]; exact passAt tk' σ)) h0) (by rw [es] at h; exact h)
 | .pas, st, h => jZ5 (by rw [es] at h; exact h)
 | .brk, st, h => by rw [es] at h; cases h
 | .cnt, st, h => by rw [es] at h; cases h
 | .dead, st, h => jW7
theorem jCb (nx : NoX CX) (n : Nat) (X : Cx) (c : Sx) (W : WX) (o : XOk X c CX k rx Φ G) (tk : Takes X W) (hx : ∀ σ, PassesAt CX X σ (WE W σ)) (hp : PassesOwn (model X.prog X.w) X.A X.env X.xe) (hq : X.stack = X.env :: X.outer ∧ X.env.frame = some X.env.locals) : ∀ (s : Ss) (ss : List Stmt), ess G s c ss = true → PSs X ss (DSs X.K rx W Φ n s)
 | .nil, ss, h => by
  rw [ess] at h
  cases ss with
  | nil => exact jD9
  | cons => cases h
 | .cons s r, ss, h => by
  rw [ess] at h
  have ihr := jCb nx n X c W o tk hx hp hq r
  have ihs := j77 nx n X c W o tk hx hp hq s
  cases hA : jNr G (ess G r) s with
  | none =>
   rw [hA] at h
   cases ss with
   | nil => cases h
   | cons st rest =>
    have h : (es G s c st && ess G r c rest) = true := h
    rw [wab] at h
    exact jDf (ihs st h.1) (ihr rest h.2)
  | some q =>
   rw [hA] at h
   unfold jNr at hA
   cases hA
end
end
theorem noX {P : Program} {w : World} : NoX (L2.CX P w) := fun _ _ _ _ _ _ _ _ h => (jZ7 h).elim
theorem j0x {a b : T} (h : dfB.eqD a b = true) : a = b := by
 unfold dfB.eqD at h
 split at h
 ·rfl
 ·exact jBf h
theorem jHy : ∀ {as bs : List T}, eqDs as bs = true → as = bs
 | [], [], _ => rfl
 | [], _ :: _, h => by cases h
 | _ :: _, [], h => by cases h
 | a :: as, b :: bs, h => by
  simp only [eqDs, wab] at h
  rw [j0x h.1, jHy h.2]
theorem DefI.scope_of {d : DefI} (h : d.shp = true) : FnScope d.N d.ps d.scope := by
 simp only [DefI.shp, wab, wac, waj, wam, wag, waD, bne_iff_ne] at h
 obtain ⟨⟨⟨⟨⟨⟨⟨⟨⟨h0, h1⟩, h2⟩, h3⟩, h4⟩, h5⟩, h6⟩, _⟩, _⟩, _⟩ := h
 exact ⟨h0.2, h1, h2, h3, h4, h5, h6⟩
theorem DefI.pars_of {d : DefI} (h : d.shp = true) : d.params.posonlyargs = [] ∧ d.params.args.map (·.arg) = d.ps ∧ d.params.kwonlyargs = [] ∧ d.params.vararg = none ∧ d.params.kwarg = none ∧ d.fd.ps = d.ps.length ∧ d.fd.n = d.N.length ∧ d.dT.length ≤ d.ps.length ∧ d.scope.kind = .function ∧ d.ps.length ≤ d.N.length := by
 have hs := DefI.scope_of h
 simp only [DefI.shp, wab, wac, waj, wam, waQ, Option.isNone_iff_eq_none] at h
 obtain ⟨⟨⟨⟨⟨⟨⟨⟨⟨h0, h1⟩, h2⟩, h3⟩, h4⟩, h5⟩, h6⟩, g1⟩, g2⟩, g3⟩ := h
 obtain ⟨⟨⟨⟨⟨q1, q2⟩, q3⟩, q4⟩, q5⟩, q6⟩ := h0
 refine ⟨q1, q2, q3, q4, q5, g1, g2, g3, q6, ?_⟩
 have := wbe List.length hs.pre
 rw [List.length_take] at this
 omega
structure DefK (K : PySem.W.Frag) (d : DefI) (f : Addr) : Prop where
 ex : ∃ (dvs : List V) (fd : FuncData), FunD K d.name d.qual d.params d.body d.scope dvs [] f fd ∧ ∀ S as, Reps K S as dvs d.dT
section
variable {P : Program} {w : World} {K : PySem.W.Frag} {mg : Str → Option Value} {base : Heap} {k : Nat} {rx : RX} {Φ : Calls} {G : Gs} {d : DefI} {f : Addr} {sp : Sp}
theorem jBi (hs : d.shp = true) (D : DefK K d f) (run : ∀ (dvs : List V) (fd : FuncData), FunD K d.name d.qual d.params d.body d.scope dvs [] f fd → FnG P w K mg base (L2.CX P w) k f fd d.ps sp) : jB6 P w K mg base (L2.CX P w) k f d.ps d.dT sp := by
 obtain ⟨dvs, fd, F, hR⟩ := D.ex
 have G1 := run dvs fd F
 obtain ⟨p1, p2, p3, p4, p5, _, _, p8, _⟩ := DefI.pars_of hs
 obtain ⟨oc, od, dV, kV, doc, pm, an, cdv, ct, osl, rfl, lk, hcd, hD, hK⟩ := F.ex
 have hdl : ∃ dl : List Value, Vals dvs dl ∧ ∀ (M : Model) (h : Heap), K.In h → ∃ dv : Option (Array Value), (dv.getD #[]).toList = dl ∧ ∀ {α : Type} (k : Option (Array Value) → Sem α) (r : α), PySem.W.Looks M h (k dv) r → PySem.W.Looks M h (seqItems? dV >>= k) r := by
  rcases hD with ⟨rfl, rfl⟩ | ⟨_, T, o, its, n, rfl, lT, oT, rT⟩
  ·exact ⟨[], .nil, fun M h X => ⟨none, rfl, fun k r h => by
    have e : seqItems? Value.none = pure none := rfl
    rw [e, wbu]
    exact h⟩⟩
  ·exact ⟨its, rT, fun M h X => ⟨some its.toArray, by simp, fun k r e => looks_items X lT oT e⟩⟩
 obtain ⟨dl, rd, hl⟩ := hdl
 have eD : dvs.length = d.dT.length := (hR (fun _ => none) []).length
 refine ⟨⟨_, dvs, dl, G1, rd, hR, fun s us ws zs n ks pl X h1 h2 h3 h4 => wbr fun M => ?_⟩, F.kp⟩
 obtain ⟨dv, e1, e2⟩ := hl M s.heap X
 exact jBu (dv := dv) (dl := dl) p1 p2 p3 p4 p5 h1 h2 (by rw [← rd.length, eD]) e2 e1 h3 h4
def LamK (K : PySem.W.Frag) (base : Heap) (mg : Str → Option Value) (qual : Str) (cdv : Value) : Prop :=
 ∃ cc P, cdv = .ref cc ∧ LamX.TabB base mg cc P ∧ (P, qual ++ ".<locals>." ++ "<lambda>") ∈ tabs K ∧ ∀ p ∈ tabs K, p.1 = P → p.2 = qual ++ ".<locals>." ++ "<lambda>"
def runM (Φ : Calls) (W : Nat) (d : FDef) (ts : List T) : M T := if ts.length = d.ps then M.bind (jBz Φ W d (ts.map .sh)) (fun r => match r with
 | .rt t => M.pure t
 | .nx _ => M.pure .non
 | _ => stuck "loop word") else stuck "arity"
theorem jEu {N : List Str} {vs : List V} {i : Nat} {v : V} (h : vs[i]? = some v) : (start N vs)[i]? = some (some v) := by
 unfold L2.start
 have hi := (waf.mp h).1
 rw [waM (by rw [waw]; exact hi), wba, h]
 rfl
theorem jDt {ts : List T} {n i : Nat} {x : Slot} (h : (ts.map Slot.sh ++ List.replicate n Slot.un)[i]? = some x) : (∃ t, x = .sh t ∧ ts[i]? = some t) ∨ x = .un := by
 by_cases q : i < ts.length
 ·rw [waM (by rw [waw]; exact q), wba, wad q] at h
  cases h
  exact .inl ⟨_, rfl, wad q⟩
 ·rw [wa3 (by rw [waw]; omega)] at h
  have := waf.mp h
  obtain ⟨h1, h2⟩ := this
  rw [List.getElem_replicate] at h2
  exact .inr h2.symm
theorem Sim.enter {F S : Hp} {as : List Addr} {H : Hp} {C : jAa} {N : List Str} {vs : List V} {ts : List T} (s : Sim K F S as [] H [] C) (r : Reps K S as vs ts) (hn : vs.length ≤ N.length) : Sim K F S as (start N vs) H (ts.map Slot.sh ++ List.replicate (N.length - ts.length) Slot.un) C := by
 refine ⟨s.sub', s.nof, s.frm, fun i t e => ?_, fun i t e => ?_, fun i j t t' a e => ?_, s.cl, s.ce, s.nd, ?_, fun a q w e => ⟨(s.pn a q w e).1, fun i t e => ?_⟩, s.tb⟩
 ·rcases jDt e with ⟨t', e1, e2⟩ | e1
  ·cases e1
   obtain ⟨v, h1, h2⟩ := r.get e2
   exact ⟨v, jEu h1, h2⟩
  ·cases e1
 ·rcases jDt e with ⟨t', e1, e2⟩ | e1 <;> cases e1
 ·rcases jDt e with ⟨t', e1, e2⟩ | e1 <;> cases e1
 ·unfold L2.start
  rw [wav, wav, waw, waw, wa0, wa0, ← r.length]
  omega
 ·rcases jDt e with ⟨t', e1, e2⟩ | e1 <;> cases e1
theorem jOv {A : Around} {qual : Str} {cdv : Value} (hL : d.lam = true → LamK K base mg qual cdv) (g : GOk P w K mg base (L2.CX P w) k rx Φ G) {fr : List PySem.Env} {s : Shared} {H : Hp} {E : XK} (hsc : d.shp = true)
  (hr : Room (k + 4) (A.deeper (envOfC qual d.scope s.heap.objs.size f cdv))) (hg : A.guards = some []) : XOk (cxOf (L2.CX P w) P w K mg base d.N qual d.scope f cdv A fr s H E) ⟨d.N, d.scope, none, d.lam⟩ (L2.CX P w) k rx Φ G :=
 ⟨rfl, rfl, fun _ _ => rfl, rfl, (DefI.scope_of hsc).nd, hr.mono (by omega), by
   show (A.deeper _).guards = some []
   exact hg, g, fun z => ⟨hr, by
 obtain ⟨cc, P, h1, h2, h3, h4⟩ := hL z
 exact ⟨cc, P, h1, h2, h3, h4⟩⟩, fun _ => hr⟩
theorem jEt {dvs : List V} {fd : FuncData} (W : Nat) (g : GOk P w K mg base (L2.CX P w) k rx Φ G) (ok : d.ok G = true) (hL : d.lam = true → LamK K base mg d.qual fd.code) (F : FunD K d.name d.qual d.params d.body d.scope dvs [] f fd) : FnG P w K mg base (L2.CX P w) (k + 5) f fd d.ps (spM K rx d.ps.length (runM Φ W d.fd)) := by
 unfold DefI.ok at ok
 rw [wab] at ok
 obtain ⟨hs, hb⟩ := ok
 obtain ⟨p1, p2, p3, p4, p5, p6, p7, p8, p9, p10⟩ := DefI.pars_of hs
 obtain ⟨oc, od, dV, kV, doc, pm, an, cdv, ct, osl, rfl, lk, hcd, hD, hK⟩ := F.ex
 refine jO5 lk hcd (DefI.scope_of hs) (fun vs H Q E h => h.1) fun A fr s H vs Q E hr hg ⟨hl, F', S, as, C, ts, sim, r, out⟩ => ?_
 have o := jOv (hL := hL) g (d := d) (f := f) (qual := d.qual) (cdv := cdv) (fr := fr) (s := s) (H := H) (E := E) hs hr hg
 refine ⟨_, (jCb noX W _ _ (fun cls dd _ H => E cls dd H) o (takes_of rfl rfl rfl rfl) (fun σ => passAt (takes_of rfl rfl rfl rfl) σ) (passes_of rfl) ⟨rfl, rfl⟩ d.fd.body d.body hb), ?_⟩
 have hlen : ts.length = d.fd.ps := by rw [← r.length, hl, p6]
 unfold runM at out
 rw [if_pos hlen] at out
 unfold jBz at out
 have hnn : d.fd.n - (ts.map Slot.sh).length = d.N.length - ts.length := by rw [waw, p7]
 rw [hnn] at out
 refine ⟨F', S, as, _, C, sim.enter r (by omega), ?_⟩
 unfold M.bind at out
 cases e : exS Φ W d.fd.body (ts.map Slot.sh ++ List.replicate (d.N.length - ts.length) Slot.un) C with
 | ok o C' =>
  rw [e] at out
  cases o with
  | nx E' => exact fun σ' S' as' H' l p sim' => out .non S' as' H' l p sim'.drop .non
  | bk E' => exact False.elim out
  | ct E' => exact False.elim out
  | rt t => exact fun v σ' S' as' H' E' l p sim' r' => out v S' as' H' l p sim'.drop r'
 | exc x C' =>
  rw [e] at out
  exact fun cls d σ' S' as' H' E' l p sim' r' => out cls d S' as' H' l p sim'.drop r'
 | stuck why => rw [e] at out; exact out
def runN (Φ : Calls) (W : Nat) (d : FDef) (c : Str) (ts : List T) : M T := if ts.length + 1 = d.ps then M.bind (jBz Φ W d (.ow (.obj c [] []) :: ts.map .sh)) (fun r => match r with
 | .nx E => lift "init" (own0 E)
 | _ => stuck "init") else stuck "arity"
def mkF (F : Hp) (dx x : Addr) : Hp := fun a => if a = dx then some (.frz default (.own x)) else unM (F a)
theorem jIw {F : Hp} {dx x : Addr} : mkF F dx x dx = some (.frz default (.own x)) := if_pos rfl
theorem jHk {F : Hp} {dx x a : Addr} (h : a ≠ dx) : mkF F dx x a = unM (F a) := if_neg h
theorem jQ2 {F S : Hp} {as : List Addr} {σ : L2.St} {H : Hp} {E : Env} {C : jAa} (s : Sim K F S as σ H E C) {a : Addr} {q : Obj} {w : HO} (e : unM (F a) = some (.frz q w)) : False := by
 have h := jCi s (a := a)
 rw [e] at h
 have h : some w = some (HO.frz q w) := h
 injection h with h
 have h3 := wbe sizeOf h
 simp at h3
theorem Sim.enterN {F S : Hp} {as : List Addr} {H : Hp} {C : jAa} {N : List Str} {ws : List V} {ts : List T} {c : Str} {x dx : Addr} (s : Sim K F S as [] H [] C) (r : Reps K S as ws ts) (hn : ws.length + 1 ≤ N.length)
  (h1 : H x = some (.ins (ca K c) dx [])) (h2 : S x = none) (h3 : x ∉ as) (h4 : F x = none) (h5 : H dx = some (.own x) ∧ S dx = none ∧ dx ∉ as ∧ F dx = none) :
  Sim K (mkF F dx x) S as (L2.start N (.ref x :: ws)) H (.ow (.obj c [] []) :: (ts.map Slot.sh ++ List.replicate (N.length - (ts.length + 1)) Slot.un)) C := by
 have hne : x ≠ dx := by rintro rfl; rw [h1] at h5; cases h5.1
 have own : ∀ (i : Nat) (t : T), (Slot.ow (.obj c [] []) :: (ts.map Slot.sh ++ List.replicate (N.length - (ts.length + 1)) Slot.un))[i]? = some (.ow t) → i = 0 ∧ t = .obj c [] [] := fun i t e => by
  cases i with
  | zero => cases e; exact ⟨rfl, rfl⟩
  | succ i =>
   rw [List.getElem?_cons_succ] at e
   rcases jDt e with ⟨t', e1, _⟩ | e1 <;> cases e1
 have s0 : (L2.start N (.ref x :: ws))[0]? = some (some (.ref x)) := jEu rfl
 refine ⟨s.sub', s.nof, fun a u e => ?_, fun i t e => ?_, fun i t e => ?_, fun i j t t' a e e' _ _ => ?_, s.cl, s.ce, s.nd, ?_, fun a q w e => ?_, fun q hq => ⟨(s.tb q hq).1, (s.tb q hq).2.1, fun b ps e => by
  by_cases ne : b = dx
  ·subst ne
   rw [jIw] at e
   cases e
  ·rw [jHk ne, jCi s] at e
   exact (s.tb q hq).2.2 _ _ e⟩⟩
 ·by_cases ha : a = dx
  ·subst ha
   rw [jIw] at e
   cases e
   exact ⟨h5.1, h5.2.1, h5.2.2.1⟩
  ·rw [jHk ha, jCi s] at e
   exact s.frm a u e
 ·cases i with
  | zero => cases e
  | succ i =>
   rw [List.getElem?_cons_succ] at e
   rcases jDt e with ⟨t', e1, e2⟩ | e1
   ·cases e1
    obtain ⟨v, g1, g2⟩ := r.get e2
    exact ⟨v, jEu (by rw [List.getElem?_cons_succ]; exact g1), g2⟩
   ·cases e1
 ·obtain ⟨rfl, rfl⟩ := own i t e
  exact ⟨x, _, s0, h1, h2, h3, by rw [jHk hne, h4]; rfl, RepO.obj (fs := []) .nil⟩
 ·rw [(own i t e).1, (own j t' e').1]
 ·unfold L2.start
  rw [wav, waq, wav, waw, waw, wa0, wa0, waq, ← r.length]
  omega
 ·by_cases ha : a = dx
  ·subst ha
   rw [jIw] at e
   cases e
   exact ⟨fun o u z => (by cases z), fun i t e _ => by obtain ⟨rfl, _⟩ := own i t e; exact ⟨x, rfl, s0⟩⟩
  ·rw [jHk ha] at e
   exact (jQ2 s e).elim
theorem Sim.leaveN {F S S' : Hp} {as as' : List Addr} {H H' : Hp} {C C' : jAa} {σ' : L2.St} {E' : Env} {x dx : Addr} (s : Sim K F S as [] H [] C) (h5 : F dx = none) (s' : Sim K (mkF F dx x) S' as' σ' H' E' C') : Sim K F S' as' [] H' [] C' := by
 refine ⟨s'.sub', s'.nof, fun a u e => ?_, fun i t e => by simp at e, fun i t e => by simp at e, fun i j t t' a e => by simp at e, s'.cl, s'.ce, s'.nd, waK _, fun a q w e => ⟨(s.pn a q w e).1, fun i t e => by simp at e⟩, fun q hq => ⟨(s'.tb q hq).1, (s'.tb q hq).2.1, (s.tb q hq).2.2⟩⟩
 have ha : a ≠ dx := by rintro rfl; rw [h5] at e; exact nomatch (show none = some u from e)
 exact s'.frm a u (by rw [jHk ha, jCi s]; exact e)
theorem jPx {dvs : List V} {fd : FuncData} {c : Str} {n : Nat} (W : Nat) (g : GOk P w K mg base (L2.CX P w) k rx Φ G) (ok : d.ok G = true) (hL : d.lam = true → LamK K base mg d.qual fd.code) (hn : d.ps.length = n + 1) (F : FunD K d.name d.qual d.params d.body d.scope dvs [] f fd) : FnG P w K mg base (L2.CX P w) (k + 5) f fd d.ps (spN K rx c n (runN Φ W d.fd c)) := by
 unfold DefI.ok at ok
 rw [wab] at ok
 obtain ⟨hs, hb⟩ := ok
 obtain ⟨p1, p2, p3, p4, p5, p6, p7, p8, p9, p10⟩ := DefI.pars_of hs
 obtain ⟨oc, od, dV, kV, doc, pm, an, cdv, ct, osl, rfl, lk, hcd, hD, hK⟩ := F.ex
 refine jO5 lk hcd (DefI.scope_of hs) (fun vs H Q E h => h.1.trans hn.symm) fun A fr s H vs Q E hr hg ⟨hl, F', S, as, C, ts, x, dx, ws, hvs, h1, h2, h3, h4, h5, sim, r, out⟩ => ?_
 subst hvs
 have o := jOv (hL := hL) g (d := d) (f := f) (qual := d.qual) (cdv := cdv) (fr := fr) (s := s) (H := H) (E := E) hs hr hg
 refine ⟨_, (jCb noX W _ _ (fun cls dd _ H => E cls dd H) o (takes_of rfl rfl rfl rfl) (fun σ => passAt (takes_of rfl rfl rfl rfl) σ) (passes_of rfl) ⟨rfl, rfl⟩ d.fd.body d.body hb), ?_⟩
 rw [waq] at hl
 have hlen : ts.length + 1 = d.fd.ps := by rw [← r.length, p6]; omega
 unfold runN at out
 rw [if_pos hlen] at out
 unfold jBz at out
 have hnn : d.fd.n - (Slot.ow (.obj c [] []) :: ts.map Slot.sh).length = d.N.length - (ts.length + 1) := by rw [waq, waw, p7]
 rw [hnn] at out
 refine ⟨mkF F' dx x, S, as, _, C, sim.enterN r (by omega) h1 h2 h3 h4 h5, ?_⟩
 unfold M.bind at out
 rw [List.cons_append] at out
 cases e : exS Φ W d.fd.body (.ow (.obj c [] []) :: (ts.map Slot.sh ++ List.replicate (d.N.length - (ts.length + 1)) Slot.un)) C with
 | ok o C' =>
  rw [e] at out
  cases o with
  | nx E' =>
   intro σ' S' as' H' l p sim'
   obtain ⟨t, ht, out2⟩ := Out.lift out
   have ht : E'[0]? = some (.ow t) ∧ isO t = true := by
    unfold own0 at ht
    rw [List.head?_eq_getElem?] at ht
    split at ht
    ·rename_i e2
     cases ht
     exact ⟨e2, rfl⟩
    ·cases ht
   obtain ⟨a', u, g1, g2, g3, g4, g5, g6⟩ := sim'.ow 0 t ht.1
   obtain ⟨x', q1, q2⟩ := (sim'.pn dx _ _ jIw).2 0 t ht.1 ht.2
   cases q1
   rw [g1] at q2
   cases q2
   exact out2 .non S' as' H' l p (sim.leaveN h5.2.2.2 sim') ⟨rfl, .inl ⟨u, g2, g3, g4, g6⟩⟩
  | bk E' => exact False.elim out
  | ct E' => exact False.elim out
  | rt t => exact False.elim out
 | exc y C' =>
  rw [e] at out
  exact fun cls d σ' S' as' H' E' l p sim' r' => out cls d S' as' H' l p (sim.leaveN h5.2.2.2 sim') r'
 | stuck why => rw [e] at out; exact out
def runC (Φ : Calls) (W : Nat) (d : FDef) (c : Str) (ts : List T) : M T := if ts.length + 1 = d.ps then (fun C => (M.bind (jBz Φ W d (.sh (.ref C.length) :: ts.map .sh)) (fun r => match r with
 | .nx _ => M.pure (.ref C.length)
 | _ => stuck "init")) (C ++ [.obj c [] []])) else stuck "arity"
theorem jUi {Φ : Calls} {W : Nat} {d : FDef} {c : Str} {ts : List T} (h : ts.length + 1 = d.ps) (C : jAa) : runC Φ W d c ts C = M.bind (exS Φ W d.body ((.sh (.ref C.length) :: ts.map .sh) ++ List.replicate (d.n - (Slot.sh (.ref C.length) :: ts.map .sh).length) .un)) (fun r => match r with
 | .nx _ => M.pure (.ref C.length)
 | _ => stuck "init") (C ++ [.obj c [] []]) := by
 exact congrFun (if_pos h) C
theorem Sim.cellAt {F S : Hp} {as : List Addr} {H : Hp} {C : jAa} {p : Addr} {u : HO} {t : T} (s : Sim K F S as [] H [] C) (h1 : H p = some u) (h2 : S p = none) (h3 : p ∉ as) (h4 : F p = none) (r : RepO K S as u t) : Sim K F S (as ++ [p]) [] H [] (C ++ [t]) := by
 have pr : as <+: as ++ [p] := List.prefix_append _ _
 refine ⟨s.sub', s.nof, fun a v e => ?_, fun i t e => by simp at e, fun i t e => by simp at e, fun i j t t' a e => by simp at e, by rw [wav, wav, s.cl]; rfl, fun n t' e => ?_, ?_, s.ln, s.pn, s.tb⟩
 ·obtain ⟨x, y, z⟩ := s.frm a v e
  have q : a ≠ p := by rintro rfl; rw [h4] at e; exact nomatch (show none = some v from e)
  exact ⟨x, y, by simp [z, q]⟩
 ·by_cases q : n < C.length
  ·rw [waM q] at e
   obtain ⟨a, v, x, y, z, r⟩ := s.ce n t' e
   exact ⟨a, v, by rw [waM (by rw [s.cl]; exact q)]; exact x, y, z, r.mono (Le.refl S) pr⟩
  ·have hn : n = C.length := by
    have := (waf.mp e).1
    rw [wav, List.length_singleton] at this
    omega
   subst hn
   rw [wa3 (waK _), Nat.sub_self] at e
   cases e
   exact ⟨p, u, by rw [← s.cl, wa3 (waK _), Nat.sub_self]; rfl, h1, h2, r.mono (Le.refl S) pr⟩
 ·refine List.nodup_append.mpr ⟨s.nd, by simp, fun a ha b hb e => ?_⟩
  rw [waB] at hb
  subst hb
  subst e
  exact h3 ha
theorem jLb {dvs : List V} {fd : FuncData} {c : Str} {n : Nat} (W : Nat) (g : GOk P w K mg base (L2.CX P w) k rx Φ G) (ok : d.ok G = true) (hL : d.lam = true → LamK K base mg d.qual fd.code) (hn : d.ps.length = n + 1) (F : FunD K d.name d.qual d.params d.body d.scope dvs [] f fd) : FnG P w K mg base (L2.CX P w) (k + 5) f fd d.ps (spN K rx c n (runC Φ W d.fd c)) := by
 unfold DefI.ok at ok
 rw [wab] at ok
 obtain ⟨hs, hb⟩ := ok
 obtain ⟨p1, p2, p3, p4, p5, p6, p7, p8, p9, p10⟩ := DefI.pars_of hs
 obtain ⟨oc, od, dV, kV, doc, pm, an, cdv, ct, osl, rfl, lk, hcd, hD, hK⟩ := F.ex
 refine jO5 lk hcd (DefI.scope_of hs) (fun vs H Q E h => h.1.trans hn.symm) fun A fr s H vs Q E hr hg ⟨hl, F', S, as, C, ts, x, dx, ws, hvs, h1, h2, h3, h4, h5, sim, r, out⟩ => ?_
 subst hvs
 have o := jOv (hL := hL) g (d := d) (f := f) (qual := d.qual) (cdv := cdv) (fr := fr) (s := s) (H := H) (E := E) hs hr hg
 refine ⟨_, (jCb noX W _ _ (fun cls dd _ H => E cls dd H) o (takes_of rfl rfl rfl rfl) (fun σ => passAt (takes_of rfl rfl rfl rfl) σ) (passes_of rfl) ⟨rfl, rfl⟩ d.fd.body d.body hb), ?_⟩
 rw [waq] at hl
 have hlen : ts.length + 1 = d.fd.ps := by rw [← r.length, p6]; omega
 rw [jUi hlen] at out
 have hnn : d.fd.n - (Slot.sh (.ref C.length) :: ts.map Slot.sh).length = d.N.length - (T.ref C.length :: ts).length := by rw [waq, waw, p7, waq]
 rw [hnn] at out
 have pr : as <+: as ++ [x] := List.prefix_append _ _
 have hx : (as ++ [x])[C.length]? = some x := by
  rw [← sim.cl, wa3 (waK _), Nat.sub_self]
  rfl
 have sim1 : Sim K F' S (as ++ [x]) [] H [] (C ++ [.obj c [] []]) := sim.cellAt h1 h2 h3 h4 (RepO.obj (c := c) (dx := dx) (fs := []) .nil)
 have r1 : Reps K S (as ++ [x]) (.ref x :: ws) (.ref C.length :: ts) := .cons (.ref hx) (r.mono (Le.refl S) pr)
 have s2 := sim1.enter (N := d.N) r1 (by rw [waq]; omega)
 refine ⟨F', S, as ++ [x], _, _, s2, ?_⟩
 have out := out.mono (Le.refl S) pr
 unfold M.bind at out
 rw [show (T.ref C.length :: ts).map Slot.sh ++ List.replicate (d.N.length - (T.ref C.length :: ts).length) Slot.un = (.sh (.ref C.length) :: ts.map .sh) ++ List.replicate (d.N.length - (T.ref C.length :: ts).length) Slot.un from rfl]
 cases e : exS Φ W d.fd.body ((.sh (.ref C.length) :: ts.map .sh) ++ List.replicate (d.N.length - (T.ref C.length :: ts).length) Slot.un) (C ++ [.obj c [] []]) with
 | ok o C' =>
  rw [e] at out
  cases o with
  | nx E' => exact fun σ' S' as' H' l p sim' => out .non S' as' H' l p sim'.drop ⟨rfl, .inr (.ref (jMh p hx))⟩
  | bk E' => exact False.elim out
  | ct E' => exact False.elim out
  | rt t => exact False.elim out
 | exc y C' =>
  rw [e] at out
  exact fun cls d σ' S' as' H' E' l p sim' r' => out cls d S' as' H' l p sim'.drop r'
 | stuck why => rw [e] at out; exact out
end
section
variable {CX : CXT} {P : Program} {w : World} {K : PySem.W.Frag} {mg : Str → Option Value} {base : Heap} {f : Addr} {name qual : Str} {params : Arguments} {body : List Stmt} {scope : Scope}
 {dV kV doc pm cdv ct oc : Value} {an od : Option Addr} {osl : Array (Option Value)} {N ps : List Str} {A : Around} {outer : List PySem.Env} {s : Shared} {H : Hp} {args : Args} {us : List Value} {vs : List V} {Q : VK} {E : XK} {t : TS}
end
structure ExI (K : PySem.W.Frag) (C : Addr) : Prop where
 cl : (PySem.W.clsIn K C).isSome = true
 ga : PySem.W.findIn K (.ref C) "__getattribute__" = some (some (.builtin "BaseException.__getattribute__"))
 gt : ∃ g, PySem.W.findIn K (.ref C) "__getattr__" = some g
 sub : PySem.W.subIn K (.ref C) (.type "BaseException") = some true
 ac : PySem.W.findIn K (.ref C) "__class__" = some (some (.builtin "object.__class__"))
 mro : PySem.W.mroIn K C (.type "object") = some true
def rIsP (K : PySem.W.Frag) (D a : Addr) (d : Option Addr) : List V → Hp → VK → Prop := fun xs H Q => ∃ (c : V) (cv : Value) (b : Bool), xs = [.ref a, c] ∧ (∀ u, RelV c u → u = cv) ∧ (∀ dd, d = some dd → ∃ fs, H dd = some (.xd fs)) ∧ PySem.W.kitOne K (.ref D) cv = some b ∧ Q (.bl b) H
theorem j3k {X : Cx} {a D : Addr} {d : Option Addr} {oe : Obj} (hpn : (a, oe) ∈ X.pn) (C : ExI X.K D) (T : jMr X.K) (hz : Zc (.ref D) d oe) (hf : ∃ vs, oe.data = .fields vs) : CallR X (.builtin "isinstance") (rIsP X.K D a d) := by
 intro pins s σ H xs us Q I r h
 obtain ⟨c, cv, b, rfl, hcv, hdd, e, q⟩ := h
 cases r with
 | cons rx rr =>
  cases rr with
  | cons rt rr =>
   cases rr
   cases rx
   have ec := hcv _ rt
   subst ec
   have hget := (I.pin (a, oe) (waJ _ hpn)).1
   obtain ⟨vs, hv⟩ := hf
   obtain ⟨g, hg⟩ := C.gt
   obtain ⟨z1, z2⟩ := hz
   have hno : PySem.W.notCls oe = true := by
    unfold PySem.W.notCls
    rw [hv]
   obtain ⟨od, J⟩ : ∃ od, PySem.W.InstAt s.heap a oe D od := by
    cases d with
    | none => exact ⟨none, hget, z1, hno, by rw [z2]; trivial⟩
    | some dd =>
     obtain ⟨fs, hx⟩ := hdd dd rfl
     obtain ⟨_, ⟨_, _, _, eo, _⟩, _⟩ := (show ∃ mA, s.heap.Ns1 dd mA ∧ ∀ f, RelO (fs.lookup f) (mA f) from I.hok dd _ hx)
     exact ⟨some _, hget, z1, hno, by rw [z2]; exact eo⟩
   exact PySem.W.kia_one (PySem.W.kitx_exc C.cl C.ga hg C.sub C.ac T.sp T.tk C.mro) I.kIn J e (fun z => nomatch z) fun tk => ⟨.bl b, H, I.kept (t' := tk) fun _ _ z => z, rfl, q⟩
structure X0k (X : Cx) (c : Sx) : Prop where
 N : X.N = c.N
 sc : X.env.scope = c.sc
 fn : ∀ x, c.fnB x = true → X.fn x = true
 nd : X.N.Nodup
 un : X.A.units + 66 < cLine
section
variable {X : Cx} {c : Sx} {rx : RX} {W : WX} {Φ : Calls} {L : Lf} {n : Nat}
def LfOk (X : Cx) (rx : RX) (W : WX) (Φ : Calls) (c : Sx) (L : Lf) : Prop := ∀ f i e, L c f i e = true → Er X rx W Φ e (.call f (.cons (.var i) .nil))
theorem j50 {i : Nat} {e : Expr} (o : X0k X c) (h : kVar c i e = true) : Er X rx W Φ e (.var i) := by
 cases e with
 | Name x p =>
  have v := jCm o.N o.sc (show varB c i x = true from h)
  exact ⟨jE1 v.ix v.vis v.d v.c, jC1 v.ix v.vis v.d v.c, (fun z => nomatch z), jC4 (jC1 v.ix v.vis v.d v.c) (jDb rfl X.env)⟩
 | _ => cases h
theorem j42 {t : T} {e : Expr} (h : hcon t e = true) : Er X rx W Φ e (.con t) := by
 cases e with
 | Constant k kk p =>
  refine .ofE ?_ rfl rfl rfl
  cases k with
  | int i => obtain rfl := jBf h; exact jBn pe_int fun S as => .int i
  | bool b => obtain rfl := jBf h; exact jBn pe_bl fun S as => .bl b
  | none => obtain rfl := jBf h; exact jBn pe_non fun S as => .non
  | str x =>
   simp only [hcon, wab, wac] at h
   obtain rfl := jBf h.1.1
   exact jBn pe_str fun S as => .str ⟨h.1.2, h.2⟩
  | _ => cases h
 | _ => cases h
variable {x y z : Ex} {ra rb rd : Ck} {e : Expr} {rl : CkL}
theorem j52 {op : CmpOp} (o : X0k X c) (ha : IhE X rx W Φ c ra x) (hb : IhE X rx W Φ c rb y) (h : kCmp c op ra rb e = true) : Er X rx W Φ e (.cmp op x y) := by
 unfold kCmp at h
 split at h
 ·simp only [wab, wac, wam] at h
  obtain ⟨⟨⟨rfl, h1⟩, h2⟩, h3⟩ := h
  have hu : X.A.units + 65 < cLine := by have := o.un; omega
  exact ⟨jDo hu h3 (ha _ h1).dw (hb _ h2).dw, peDW (jDo hu h3 (ha _ h1).dw (hb _ h2).dw) rfl, (fun z => nomatch z), jIe hu h3 (ha _ h1).dw (hb _ h2).dw⟩
 ·cases h
theorem jVq {op op' : CmpOp} (o : X0k X c) (ha : IhE X rx W Φ c ra x) (hb : IhE X rx W Φ c rb y) (hd : IhE X rx W Φ c rd z) (h : jFj c op op' ra rb rd e = true) : Er X rx W Φ e (.chain op op' x y z) := by
 unfold jFj at h
 split at h
 ·simp only [wab, wac, wam] at h
  obtain ⟨⟨⟨⟨⟨rfl, rfl⟩, h1⟩, h2⟩, h3⟩, h4⟩ := h
  have hu : X.A.units + 65 < cLine := by have := o.un; omega
  exact ⟨jC8 hu h4 (ha _ h1).dw (hb _ h2).dw (hd _ h3).dw, peDW (jC8 hu h4 (ha _ h1).dw (hb _ h2).dw (hd _ h3).dw) rfl, (fun z => nomatch z), jGz hu h4 (ha _ h1).dw (hb _ h2).dw (hd _ h3).dw⟩
 ·cases h
theorem j8l (o : X0k X c) (ha : IhE X rx W Φ c ra x) (hb : IhE X rx W Φ c rb y) (h : kIdx c ra rb e = true) : Er X rx W Φ e (.idx x y) := by
 cases e with
 | Subscript a b p =>
  simp only [kIdx, wab] at h
  have hu : X.A.units + 1 < cLine := by have := o.un; omega
  exact .ofE (jOl hu (jFu h.2) (ha a h.1.1).dw (hb b h.1.2).dw) rfl rfl rfl
 | _ => cases h
theorem h_bm {b : Bm} {xs : Exs} (o : X0k X c) (ha : IhE X rx W Φ c ra x) (hl : IhS X rx W Φ c rl xs) (h : kBm c b ra rl e = true) : Er X rx W Φ e (.bm b x xs) := by
 unfold kBm at h
 split at h
 ·simp only [wab, waD, waj] at h
  obtain ⟨⟨⟨⟨⟨⟨rfl, hb⟩, h1⟩, h2⟩, h3⟩, h4⟩, h5⟩ := h
  obtain ⟨xa, rfl, q⟩ := jSx (hl _ h5)
  have hu : X.A.units + 65 < cLine := by have := o.un; omega
  have hl2 : ∀ {p q : Pos}, p.endLine = q.line → (p.endLine == q.line) = true := fun e => by rw [e]; exact wa6 _
  rcases hb with ((((rfl | rfl) | rfl) | rfl) | rfl) | rfl
  ·exact .ofE (jG6 hu (ha _ h4).dw q.dw (jB8 h1) (hl2 h2) (jAd h3)) rfl rfl rfl
  ·exact .ofE (jHe hu (ha _ h4).dw q.dw (jB8 h1) (hl2 h2) (jAd h3)) rfl rfl rfl
  ·exact .ofE (jJ1 (ha _ h4).dw q.dw (jB8 h1) (hl2 h2) (jAd h3)) rfl rfl rfl
  ·exact .ofF (jG5 (ha _ h4).dw q.dw (jB8 h1) (hl2 h2) (jAd h3)) rfl rfl
  ·exact .ofE (jFr (ha _ h4).dw q.dw (jB8 h1) (hl2 h2) (jAd h3)) rfl rfl rfl
  ·exact .ofE (jFd hu (ha _ h4).dw q.dw (jB8 h1) (hl2 h2) (jAd h3)) rfl rfl rfl
 ·simp only [wab, waj] at h
  obtain ⟨⟨⟨⟨⟨rfl, rfl⟩, h1⟩, h2⟩, h4⟩, h5⟩ := h
  have hz := (hl _ h5).len
  cases xs with
  | nil => exact .ofE (jG0 (ha _ h4).dw (jB8 h1) (by rw [h2]; exact wa6 _)) rfl rfl rfl
  | cons => simp [lenS] at hz
 ·cases h
theorem h_lf {f : Str} {xs : Exs} (lf : LfOk X rx W Φ c L) (h : hLf L f xs c e = true) : Er X rx W Φ e (.call f xs) := by
 unfold hLf at h
 split at h
 ·exact lf _ _ _ h
 ·cases h
end
section
variable {X : Cx} {c : Sx} {rx : RX} {W : WX} {Φ : Calls} {L : Lf} (o : X0k X c) (lf : LfOk X rx W Φ c L)
include o lf
mutual
theorem jBw : ∀ x : Ex, IhE X rx W Φ c (hE L x) x
 | .var i => fun e h => j50 o (by rw [hE] at h; exact h)
 | .con t => fun e h => j42 (by rw [hE] at h; exact h)
 | .bin op a b => fun e h => jS7 (jBw a) (jBw b) (by rw [hE] at h; exact h)
 | .cmp op a b => fun e h => j52 o (jBw a) (jBw b) (by rw [hE] at h; exact h)
 | .chain op op2 a b d => fun e h => jVq o (jBw a) (jBw b) (jBw d) (by rw [hE] at h; exact h)
 | .and a b => fun e h => jN1 (jBw a) (jBw b) (by rw [hE] at h; exact h)
 | .ite t a b => fun e h => jL4 (jBw t) (jBw a) (jBw b) (by rw [hE] at h; exact h)
 | .idx a b => fun e h => j8l o (jBw a) (jBw b) (by rw [hE] at h; exact h)
 | .lst es => fun e h => jTb (jX8 es) (by rw [hE] at h; exact h)
 | .bm b a es => fun e h => h_bm o (jBw a) (jYl es) (by rw [hE] at h; exact h)
 | .call f es => fun e h => h_lf lf (by rw [hE] at h; exact h)
 | .neg _ => fun e h => absurd (show false = true from h) waa
 | .nt _ => fun e h => absurd (show false = true from h) waa
 | .or _ _ => fun e h => absurd (show false = true from h) waa
 | .tup _ => fun e h => absurd (show false = true from h) waa
 | .cel _ => fun e h => absurd (show false = true from h) waa
 | .dsp _ => fun e h => absurd (show false = true from h) waa
 | .slc _ _ _ _ _ => fun e h => absurd (show false = true from h) waa
 | .rev _ => fun e h => absurd (show false = true from h) waa
 | .callk _ _ _ => fun e h => absurd (show false = true from h) waa
 | .told _ _ _ => fun e h => absurd (show false = true from h) waa
 | .toldC _ _ _ _ _ _ _ _ _ _ => fun e h => absurd (show false = true from h) waa
 | .new _ _ _ => fun e h => absurd (show false = true from h) waa
 | .meth _ _ _ _ => fun e h => absurd (show false = true from h) waa
 | .methk _ _ _ _ _ => fun e h => absurd (show false = true from h) waa
 | .attr _ _ _ => fun e h => absurd (show false = true from h) waa
 | .prop _ _ _ => fun e h => absurd (show false = true from h) waa
 | .bi _ _ => fun e h => absurd (show false = true from h) waa
 | .spec _ _ _ => fun e h => absurd (show false = true from h) waa
 | .eqc _ _ _ _ _ => fun e h => absurd (show false = true from h) waa
 | .eqi _ _ _ _ _ => fun e h => absurd (show false = true from h) waa
 | .ownr _ _ => fun e h => absurd (show false = true from h) waa
 | .ownl _ _ => fun e h => absurd (show false = true from h) waa
 | .getc _ _ _ => fun e h => absurd (show false = true from h) waa
 | .clsm _ _ _ _ => fun e h => absurd (show false = true from h) waa
 | .newv _ _ _ _ => fun e h => absurd (show false = true from h) waa
 | .ownb _ _ => fun e h => absurd (show false = true from h) waa
 | .eqo _ _ _ => fun e h => absurd (show false = true from h) waa
 | .own1 _ _ _ => fun e h => absurd (show false = true from h) waa
 | .isi _ _ _ => fun e h => absurd (show false = true from h) waa
 | .isd _ _ _ => fun e h => absurd (show false = true from h) waa
 | .own2 _ _ _ => fun e h => absurd (show false = true from h) waa
 | .ownin _ _ _ _ => fun e h => absurd (show false = true from h) waa
 | .lc _ _ _ _ _ => fun e h => absurd (show false = true from h) waa
 | .lc2 _ _ _ _ _ _ _ _ => fun e h => absurd (show false = true from h) waa
 | .dc _ _ _ _ _ _ => fun e h => absurd (show false = true from h) waa
 | .minBy _ _ _ => fun e h => absurd (show false = true from h) waa
 | .fstr _ => fun e h => absurd (show false = true from h) waa
 | .xo _ _ => fun e h => absurd (show false = true from h) waa
 | .lend _ _ => fun e h => absurd (show false = true from h) waa
 | .dead => fun e h => absurd (show false = true from h) waa
theorem jYl : ∀ x : Exs, IhS X rx W Φ c (hS L x) x
 | .nil => fun es h => jHx (by rw [hS] at h; exact h)
 | .cons x xs => fun es h => jGj (jBw x) (jYl xs) (by rw [hS] at h; exact h)
theorem jX8 : ∀ x : Els, IhL X rx W Φ c (hL L x) x
 | .nil => fun es h => jL3 (by rw [hL] at h; exact h)
 | .one x xs => fun es h => jMt (jBw x) (jX8 xs) (by rw [hL] at h; exact h)
 | .star _ _ => fun es h => absurd (show false = true from h) waa
end
theorem j5j {i n : Nat} {x : Ex} {st : Stmt} (h : hSet c i (hE L x) st = true) : Est X rx W Φ n st (.set i x) := by
 unfold hSet at h
 split at h
 ·simp only [wab] at h
  obtain ⟨⟨h1, h2⟩, h3⟩ := h
  exact jCx o.nd (jFn o.N o.sc o.fn h1) (jBw o lf x _ h2).dr (jDr h3)
 ·cases h
mutual
theorem j8g (n : Nat) : ∀ (s : SI.St) (st : Stmt), hT L s c st = true → Est X rx W Φ n st s
 | .set i x => fun st h => j5j o lf (by rw [hT] at h; exact h)
 | .ite t a b => fun st h => jZj (jBw o lf t) (jLg n a) (jLg n b) (by rw [hT] at h; exact h)
 | .ret x => fun st h => jR0 (jBw o lf x) (by rw [hT] at h; exact h)
 | .par _ _ => fun st h => absurd (show false = true from h) waa
 | .unp _ _ => fun st h => absurd (show false = true from h) waa
 | .dvm _ _ _ _ _ => fun st h => absurd (show false = true from h) waa
 | .setIx _ _ _ => fun st h => absurd (show false = true from h) waa
 | .setAt _ _ _ => fun st h => absurd (show false = true from h) waa
 | .aug _ _ _ => fun st h => absurd (show false = true from h) waa
 | .setIf _ _ _ => fun st h => absurd (show false = true from h) waa
 | .setOwn _ _ _ _ => fun st h => absurd (show false = true from h) waa
 | .setIxs _ _ _ => fun st h => absurd (show false = true from h) waa
 | .app _ _ => fun st h => absurd (show false = true from h) waa
 | .ext _ _ => fun st h => absurd (show false = true from h) waa
 | .ins _ _ _ => fun st h => absurd (show false = true from h) waa
 | .rem _ _ => fun st h => absurd (show false = true from h) waa
 | .pop _ _ => fun st h => absurd (show false = true from h) waa
 | .appPop _ _ _ => fun st h => absurd (show false = true from h) waa
 | .exp _ => fun st h => absurd (show false = true from h) waa
 | .for_ _ _ _ => fun st h => absurd (show false = true from h) waa
 | .whl _ _ => fun st h => absurd (show false = true from h) waa
 | .raise _ _ _ => fun st h => absurd (show false = true from h) waa
 | .tryA _ _ _ _ _ => fun st h => absurd (show false = true from h) waa
 | .tryX _ _ _ _ => fun st h => absurd (show false = true from h) waa
 | .acts _ _ _ _ _ _ => fun st h => absurd (show false = true from h) waa
 | .rzc _ _ _ _ _ _ => fun st h => absurd (show false = true from h) waa
 | .try_ _ _ => fun st h => absurd (show false = true from h) waa
 | .pas => fun st h => absurd (show false = true from h) waa
 | .brk => fun st h => absurd (show false = true from h) waa
 | .cnt => fun st h => absurd (show false = true from h) waa
 | .dead => fun st h => absurd (show false = true from h) waa
theorem jLg (n : Nat) : ∀ (s : Ss), IhT X rx W Φ n c (hTs L s) s
 | .nil => fun ss h => by
  rw [hTs] at h
  cases ss with
  | nil => exact jD9
  | cons => cases h
 | .cons s r => fun ss h => by
  rw [hTs] at h
  cases ss with
  | nil => cases h
  | cons st rest =>
   have h : (hT L s c st && hTs L r c rest) = true := h
   rw [wab] at h
   exact jDf (j8g n s st h.1) (jLg n r rest h.2)
end
end
structure XKn (K : PySem.W.Frag) (c : Str) : Prop where
 exi : ExI K (ca K c)
 kit : ∀ z b, subX c z = some b → PySem.W.kitOne K (.ref (ca K c)) (clsU K z) = some b
section
variable {X : Cx} {G : Gs} {rx : RX} {W : WX} {c : Sx} {a : Addr} {d : Option Addr} {cn : Str} {oe : Obj} {pn : List (Addr × Obj)}
structure SrtK (P : Program) (w : World) (K : PySem.W.Frag) (mg : Str → Option Value) (G : Gs) (g : Addr) : Prop where
 ex : ∃ (params : Arguments) (body : List Stmt) (scope : Scope) (dV kV doc pm cdv ct oc : Value) (an od : Option Addr) (osl : Array (Option Value)) (N : List Str) (nm pv : Str),
  K.lookup g = some ⟨oc, od, .func (PySem.W.fnOf nm nm params body scope dV kV doc pm an cdv ct), osl⟩ ∧ PySem.W.codeIn K cdv nm = true ∧ L2.Binds K (PySem.W.fnOf nm nm params body scope dV kV doc pm an cdv ct) [pv] [] ∧ FnScope N [pv] scope ∧ N.length = 6 ∧ hTs (lfI G) jSn ⟨N, scope, none, false⟩ body = true
 kp : PySem.W.keepIn K (.ref g) = true
 blt : ∀ x ∈ G.blt, mg x = none
 xcs : ∀ x ∈ G.xcs, mg x = some (.ref (ca K x))
 typ : jMr K
end
structure XSr (K : PySem.W.Frag) (c : Str) : Prop where
 kn : XKn K c
 inT : srtT.any (fun p => p.1 == c) = true
 xf : XfC K (ca K c)
 fl : ∀ f, fldN f = true → PySem.W.findIn K (.ref (ca K c)) f = some none
theorem jC2 {k : FK} : ∀ {D : List DefI} {d : DefI}, jBg k D = some d → jD0 k (D.map fun d => (d.key, d.fd)) = some d.fd
 | [], _, h => by cases h
 | e :: D, d, h => by
  simp only [jBg] at h
  simp only [war, jD0]
  by_cases q : e.key = k
  ·rw [if_pos q] at h ⊢
   cases h
   rfl
  ·rw [if_neg q] at h ⊢
   exact jC2 h
theorem jDj {D : List DefI} {W n : Nat} {k : FK} {d : DefI} (hk : k.2 ≠ ("" : Str)) (hb : k.1 ≠ ("!" : Str)) (h : jBg k D = some d) : call (jAx D) W (n + 1) k = runM (call (jAx D) W n) W d.fd := by
 funext ts
 unfold call
 rw [if_neg hk, if_neg hb]
 show (match jD0 k (D.map fun d => (d.key, d.fd)) with
  | none => stuck "no such function"
  | some d => _) = _
 rw [jC2 h]
 unfold runM
 rfl
def runT (Φ : Calls) (W : Nat) (d : FDef) (ts : List T) : M T := if ts.length + 1 = d.ps then M.bind (jBz Φ W d (.un :: ts.map .sh)) (fun r => match r with
 | .rt t => M.pure t
 | .nx _ => M.pure .non
 | _ => stuck "loop word") else if d.ps = 1 then M.bind (jBz Φ W d [.un]) (fun r => match r with
 | .rt t => M.pure t
 | .nx _ => M.pure .non
 | _ => stuck "loop word") else stuck "arity"
theorem jOb {D : List DefI} {W n : Nat} {x : Str} {d : DefI} (hk : x ≠ ("" : Str)) (h : jBg ("!", x) D = some d) : call (jAx D) W (n + 1) ("!", x) = runT (call (jAx D) W n) W d.fd := by
 funext ts
 unfold call
 rw [if_neg hk, if_pos rfl]
 show (match jD0 ("!", x) (D.map fun d => (d.key, d.fd)) with
  | none => stuck "no such function"
  | some d => _) = _
 rw [jC2 h]
 unfold runT
 rfl
theorem jLq {s : Ss} (h : jOw s = true) : s = .cons (.ret (.var 1)) .nil := by
 unfold jOw at h
 split at h
 ·rfl
 ·cases h
theorem jJ8 {s : Ss} (h : jIl s = true) : s = .cons (.ret (.lst (.one (.var 1) .nil))) .nil := by
 unfold jIl at h
 split at h
 ·rfl
 ·cases h
theorem jKb {z : Str} {s : Ss} (h : jH8 z s = true) : ∃ c, s = .cons (.ret (.lst (.one (.con (.str z)) (.one (.own1 c "__str__" (.var 1)) .nil)))) .nil := by
 unfold jH8 at h
 split at h
 ·simp only [wab, wac] at h
  obtain ⟨rfl, rfl⟩ := h
  exact ⟨_, rfl⟩
 ·cases h
theorem jKk {D : List DefI} {W n : Nat} {c : Str} {d : DefI} (h : jBg (c, "__init__") D = some d) (hc : (jAx D).cells.contains c = true) : call (jAx D) W (n + 1) (c, "") = runC (call (jAx D) W n) W d.fd c := by
 funext ts
 unfold call
 rw [if_pos rfl]
 show (match jD0 (c, "__init__") (D.map fun d => (d.key, d.fd)) with
  | none => stuck "class"
  | some d => _) = _
 rw [jC2 h]
 unfold runC
 simp only [hc, if_true]
 rfl
theorem jLw {D : List DefI} {W n : Nat} {c : Str} {d : DefI} (h : jBg (c, "__init__") D = some d) (hc : (jAx D).cells.contains c = false) : call (jAx D) W (n + 1) (c, "") = runN (call (jAx D) W n) W d.fd c := by
 funext ts
 unfold call
 rw [if_pos rfl]
 show (match jD0 (c, "__init__") (D.map fun d => (d.key, d.fd)) with
  | none => stuck "class"
  | some d => _) = _
 rw [jC2 h]
 unfold runN
 simp only [hc, wa2, if_false]
 rfl
theorem jKa {K : PySem.W.Frag} {nm qual : Str} {ps : List Str} {params : Arguments} {body : List Stmt} {scope : Scope} {dV kV doc pm cdv ct : Value} {an : Option Addr} {dvs : List V} (q1 : params.posonlyargs = []) (q2 : params.args.map (·.arg) = ps) (q3 : params.kwonlyargs = []) (q4 : params.vararg = none) (q5 : params.kwarg = none)
  (hD : DflV K dV dvs) (hdv : dvs = []) (ok : plOk ps ps.length [] 0 (idPl ps.length) = true) : L2.Binds K (PySem.W.fnOf nm qual params body scope dV kV doc pm an cdv ct) ps [] := fun s us KX hl => by
 rw [waL] at hl ⊢
 refine wbr fun M => ?_
 rcases hD with ⟨_, e⟩ | ⟨e, _⟩
 ·subst e
  have hp : jAt us [] (idPl ps.length) = some us := by
   rw [← hl]
   exact jQ8
  have := jBu (M := M) (h := s.heap) (fd := PySem.W.fnOf nm qual params body scope .none kV doc pm an cdv ct) (ps := ps) (ks := []) (us := us) (ws := []) (zs := us) (dv := none) (dl := []) (n := ps.length) (nd := 0) (pl := idPl ps.length) q1 q2 q3 q4 q5 hl rfl rfl (fun k r h => by
    have e : seqItems? Value.none = pure none := rfl
    show PySem.W.Looks M s.heap (seqItems? Value.none >>= k) r
    rw [e, wbu]
    exact h) rfl ok (by rw [waL]; exact hp)
  exact this
 ·exact absurd hdv e
theorem jW1 {P : Program} {w : World} {K : PySem.W.Frag} {mg : Str → Option Value} {base : Heap} {p : CalI} {g : Addr} (ok : p.okB = true) (DK : DefK K p.toD g) (hL : ∀ fd, (∃ oc od osl, K.lookup g = some ⟨oc, od, .func fd, osl⟩) → LamK K base mg p.name fd.code) : CalP P w K mg base p g := by
 obtain ⟨dvs, fd, F, hR⟩ := DK.ex
 refine ⟨fun y d ls hb => ?_, F.kp⟩
 unfold CalI.okB at ok
 rw [hb] at ok
 simp only [wab, wac, waj, wam, wag] at ok
 obtain ⟨⟨hsh, hpl⟩, ⟨⟨⟨⟨⟨h1, h2⟩, h3⟩, h4⟩, h5⟩, h6⟩, h7⟩ := ok
 have Sg : FnScope p.N p.ps p.scope := DefI.scope_of (d := p.toD) hsh
 obtain ⟨q1, q2, q3, q4, q5, _⟩ := DefI.pars_of (d := p.toD) hsh
 obtain ⟨oc, od, dV, kV, doc, pm, an, cdv, ct, osl, rfl, lk, hcode, hD, hK⟩ := F.ex
 have hdv : dvs = [] := wat (hR (fun _ => none) []).length
 obtain ⟨cc, PP, l1, l2, l3, l4⟩ := hL _ ⟨_, _, _, lk⟩
 exact ⟨dV, kV, doc, pm, cdv, ct, oc, an, od, osl, p.N.idxOf y, cc, PP, lk, hcode, jKa q1 q2 q3 q4 q5 hD hdv hpl, Sg, h1, h2, h3, h4, h5, h6, fun l hl => waj.mpr (h7 l hl), fun A outer s H => ⟨l2, l1, l3, l4⟩⟩
structure GF (P : Program) (K : PySem.W.Frag) (mg : Str → Option Value) (D : List DefI) (G : Gs) : Prop where
 lms : ∀ p ∈ G.fns, ∀ d f fd, mg p.1 = some (.ref f) → jBg ("", p.1) D = some d → d.lam = true → (∃ oc od osl, K.lookup f = some ⟨oc, od, .func fd, osl⟩) → ∀ base, K.In base → (∀ p ∈ tabs K, base.BuiltinsAt mg p.1) → LamK K base mg d.qual fd.code
 cal : ∀ p ∈ G.cal, ∃ g, mg p.name = some (.ref g) ∧ p.okB = true ∧ DefK K p.toD g ∧ ∀ base, K.In base → (∀ q ∈ tabs K, base.BuiltinsAt mg q.1) → ∀ fd, (∃ oc od osl, K.lookup g = some ⟨oc, od, .func fd, osl⟩) → LamK K base mg p.name fd.code
 nol : ∀ k d, k.1 ≠ ("" : Str) → jBg k D = some d → d.lam = false
 tld : ∀ p ∈ G.tld, p.1 ≠ ("" : Str) ∧ ∃ g d, mg p.1 = some (.ref g) ∧ jBg ("!", p.1) D = some d ∧ d.okT G = true ∧ d.hdF K G = true ∧ d.hds = p.2 ∧ d.name = p.1 ∧ DefK K d g ∧ (d.srt G = true → ∃ g' d', mg "_law_sort" = some (.ref g') ∧ d'.okS G = true ∧ DefK K d' g')
 typ : jMr K
 xcs : ∀ x ∈ G.xcs, mg x = some (.ref (ca K x))
 trs : ∀ p ∈ G.trs, trF K G p.1 p.2 = true
 ids : ∀ c ∈ G.ids, j0g K (ca K c)
 kdf : ∀ x ∈ G.kdf, ∃ f, mg x = some (.ref f) ∧ jLs K f
 rps : G.rps = true → (∃ q, (("Order", "__repr__", q) : Str × Str × List Str) ∈ G.mts) ∧ (∃ d, jBg ("Order", "__repr__") D = some d ∧ d.repB = true) ∧ ((("Order", "spot_row") : Str × Str) ∈ G.fld ∧ (("Order", "rung_row") : Str × Str) ∈ G.fld) ∧ ("len" : Str) ∈ G.blt
 exs : ∀ p ∈ G.exs, mg p.1 = some (.ref (ca K p.1)) ∧ XCls P K mg (ca K p.1) p.2
 blt : ∀ x ∈ G.blt, mg x = none
 cons : ∀ p ∈ G.cons, ∃ u v, mg p.1 = some u ∧ RelV v u ∧ ∀ S as, Rep K S as v p.2
 fns : ∀ p ∈ G.fns, p.1 ≠ ("" : Str) ∧ ∃ fa d, mg p.1 = some (.ref fa) ∧ jBg ("", p.1) D = some d ∧ d.ok G = true ∧ d.ps = p.2.1 ∧ d.dT = p.2.2 ∧ DefK K d fa
 cls : ∀ p ∈ G.cls, p.1 ≠ ("" : Str) ∧ ∃ fa n d, mg p.1 = some (.ref (ca K p.1)) ∧ Mk K (ca K p.1) fa ∧ p.2.1.length = n + 1 ∧ jBg (p.1, "__init__") D = some d ∧ d.ok G = true ∧ d.ps = p.2.1 ∧ d.dT = p.2.2 ∧ DefK K d fa ∧ (jAx D).cells.contains p.1 = d.cel
 prp : ∀ p ∈ G.prp, (p.2 ≠ ("" : Str) ∧ p.1 ≠ ("!" : Str) ∧ p.1 ≠ ("" : Str)) ∧ ∃ fa q d, Cls K (ca K p.1) ∧ PropOf K (ca K p.1) p.2 q fa ∧ jBg p D = some d ∧ d.ok G = true ∧ d.ps.length = 1 ∧ plOk d.ps 1 [] d.dT.length (idPl 1) = true ∧ DefK K d fa
 fld : ∀ p ∈ G.fld, Cls K (ca K p.1) ∧ NoAttr K (ca K p.1) p.2
 isi : ∀ ty ks, (∀ k ∈ ks, k ∈ G.isc) → (∀ c, ty = .cls c → ∃ p ∈ G.cls, p.1 = c) → jOs K ty ks
 mts : ∀ p ∈ G.mts, (p.2.1 ≠ ("" : Str) ∧ p.1 ≠ ("!" : Str) ∧ p.1 ≠ ("" : Str)) ∧ (∃ fa d, Cls K (ca K p.1) ∧ Meth K (ca K p.1) p.2.1 fa ∧ jBg (p.1, p.2.1) D = some d ∧ d.ok G = true ∧ d.ps = p.2.2 ∧ plOk d.ps d.ps.length [] d.dT.length (idPl d.ps.length) = true ∧ PySem.W.typeIn K (.ref fa) = some (.type "function") ∧ DefK K d fa) ∧
  PySem.W.subIn K (.ref (ca K p.1)) (.type "object") = some true ∧ (p.2.1 = ("__eq__" : Str) → PySem.W.findIn K (.ref (ca K p.1)) "__ne__" = some (some (.builtin "object.__ne__"))) ∧ (p.2.1 = ("__len__" : Str) → p.1 = ("Order" : Str) → PySem.W.findIn K (.ref (ca K p.1)) "__bool__" = some none)
 cms : ∀ p ∈ G.cms, (p.2.1 ≠ ("" : Str) ∧ p.1 ≠ ("!" : Str) ∧ p.1 ≠ ("" : Str)) ∧ ∃ mc q fa d, mg p.1 = some (.ref (ca K p.1)) ∧ ClX.CRead K (ca K p.1) mc ∧ ClX.CMet K (ca K p.1) mc p.2.1 q fa ∧ jBg (p.1, p.2.1) D = some d ∧ d.ok G = true ∧ d.ps = p.2.2 ∧ plOk d.ps d.ps.length [] d.dT.length (idPl d.ps.length) = true ∧ DefK K d fa
 dcs : ∀ p ∈ G.dcs, ∃ a, mg p.1 = some (.ref a) ∧ DcK K a p.2
section
variable {P : Program} {w : World} {K : PySem.W.Frag} {mg : Str → Option Value} {base : Heap} {rx : RX} {D : List DefI} {G : Gs}
theorem jBc {k : Nat} {d : DefI} {fa : Addr} (hs : d.shp = true) (DK : DefK K d fa) {sp : Sp} (hf : ∀ vs H Q E, sp vs H Q E → False) : jB6 P w K mg base (L2.CX P w) k fa d.ps d.dT sp :=
 jBi hs DK fun dvs fd F => ⟨fun vs H Q E h => (hf _ _ _ _ h).elim, fun A fr s H args us vs Q E hr hg he hb hv h => (hf _ _ _ _ h).elim⟩
theorem jB5 {d : DefI} (h : d.ok G = true) : d.shp = true := by
 unfold DefI.ok at h
 rw [wab] at h
 exact h.1
def RunT (P : Program) (w : World) (K : PySem.W.Frag) (mg : Str → Option Value) (base : Heap) (k : Nat) (rx : RX) (G : Gs) (d : DefI) (g : Addr) (m : T → M T) : Prop :=
 ∀ (cdv : Value) (rest : List Stmt) (tf : Tf), tf.okB G d rest = true → FnScope d.N d.ps d.scope → d.ps.length = 1 → d.fd.n = d.N.length → 2 ≤ d.N.length → ∀ (A : Around) (fr : List PySem.Env) (s : Shared) (H : Hp), Room k (A.deeper (envOfC d.name d.scope s.heap.objs.size g cdv)) → A.guards = some [] →
  ∃ rs : V → Hp → VK → Prop, (∀ (pn : List (Addr × Obj)) (xe : Value → Shared → Prop), TfS ((cxOf (L2.CX P w) P w K mg base d.N d.name d.scope g cdv A fr s H X0).tr pn xe) rs tf) ∧
  ∃ t, PSs (cxOf (L2.CX P w) P w K mg base d.N d.name d.scope g cdv A fr s H X0) rest t ∧ ∀ F S as C (f : Addr) vv tt HZ (Q : VK), Sim K F S as [] HZ [] C → Rep K S as vv tt → Out K rx (fun _ _ _ _ => False) F [] [] (jAh (m tt) C) (RepR K) S as Q →
   tf.go rs { nx := t { nx := fun _ H' => Q .non H', rt := Q }, rt := Q } vv (L2.start d.N [.ref f]) HZ
theorem jJs {tt : T} {n i : Nat} {x : Slot} (h : (Slot.un :: [tt].map Slot.sh ++ List.replicate n Slot.un)[i]? = some x) : (i = 1 ∧ x = .sh tt) ∨ x = .un := by
 match i, h with
 | 0, h => cases h; exact .inr rfl
 | 1, h => cases h; exact .inl ⟨rfl, rfl⟩
 | i + 2, h =>
  have h : (List.replicate n Slot.un)[i]? = some x := h
  obtain ⟨h1, h2⟩ := waf.mp h
  rw [List.getElem_replicate] at h2
  exact .inr h2.symm
theorem jJ3 {n i : Nat} {x : Slot} (h : ([Slot.un] ++ List.replicate n Slot.un)[i]? = some x) : x = .un := by
 have : x ∈ [Slot.un] ++ List.replicate n Slot.un := waP h
 rcases wa1.mp this with z | z
 ·exact waB.mp z
 ·exact (List.mem_replicate.mp z).2
theorem jE0 {d : DefI} {f : Addr} (hN2 : 2 ≤ d.N.length) : (L2.start d.N [V.ref f]).length = d.N.length := by
 unfold L2.start
 rw [wav, waw, wa0]
 show 1 + (d.N.length - 1) = _
 omega
theorem jTz {k : Nat} {Φ : Calls} {d : DefI} {g : Addr} (W : Nat) (o : GOk P w K mg base (L2.CX P w) k rx Φ G) : RunT P w K mg base (k + 4) rx G d g (fun t => runT Φ W d.fd [t]) := by
 intro cdv rest tf hok Sg hps q7 hN2 A fr s H hr hg
 have o' : XOk (cxOf (L2.CX P w) P w K mg base d.N d.name d.scope g cdv A fr s H X0) ⟨d.N, d.scope, none, false⟩ (L2.CX P w) k rx Φ G :=
  ⟨rfl, rfl, fun _ _ => rfl, rfl, Sg.nd, hr.mono (by omega), by
    show (A.deeper _).guards = some []
    exact hg, o, (fun z => nomatch z), fun _ => hr⟩
 have run : ess G d.fd.body ⟨d.N, d.scope, none, false⟩ rest = true → PSs (cxOf (L2.CX P w) P w K mg base d.N d.name d.scope g cdv A fr s H X0) rest _ := fun hess =>
  jCb noX W _ _ (fun _ _ _ => fun _ => False) o' (takes_of rfl rfl rfl rfl) (fun σ => passAt (takes_of rfl rfl rfl rfl) σ) (passes_of rfl) ⟨rfl, rfl⟩ d.fd.body rest hess
 cases tf with
 | asg v pv p4 =>
  simp only [Tf.okB, wab, wac] at hok
  obtain ⟨⟨⟨_, _⟩, hfp⟩, hess⟩ := hok
  refine ⟨fun _ _ _ => False, fun _ _ => trivial, _, run hess, fun F S as C f vv tt HZ Q sim r out => ?_⟩
  have s1 : ((L2.start d.N [V.ref f]).set 1 (some vv))[1]? = some (some vv) := by
   rw [wan]
   rw [jE0 hN2]
   omega
  show DSs K rx _ Φ W d.fd.body _ ((L2.start d.N [V.ref f]).set 1 (some vv)) HZ
  refine ⟨F, S, as, (Slot.un :: [tt].map Slot.sh) ++ List.replicate (d.fd.n - (Slot.un :: [tt].map Slot.sh).length) .un, C, ?_, ?_⟩
  ·refine ⟨sim.sub', sim.nof, sim.frm, fun i t e => ?_, fun i t e => ?_, fun i j t t' a e => ?_, sim.cl, sim.ce, sim.nd, ?_, fun a q w e => ⟨(sim.pn a q w e).1, fun i t e => ?_⟩, sim.tb⟩
   ·rcases jJs e with ⟨rfl, e1⟩ | e1 <;> cases e1
    exact ⟨vv, s1, r⟩
   ·rcases jJs e with ⟨rfl, e1⟩ | e1 <;> cases e1
   ·rcases jJs e with ⟨rfl, e1⟩ | e1 <;> cases e1
   ·rw [waz, jE0 hN2, wav, wa0, q7]
    simp
    omega
   ·rcases jJs e with ⟨rfl, e1⟩ | e1 <;> cases e1
  ·have out : Out K rx (fun _ _ _ _ => False) F [] [] (jAh (runT Φ W d.fd [tt]) C) (RepR K) S as Q := out
   unfold jAh runT at out
   rw [if_pos (by rw [hfp]; rfl)] at out
   unfold jBz M.bind at out
   cases e : exS Φ W d.fd.body (Slot.un :: [tt].map Slot.sh ++ List.replicate (d.fd.n - (Slot.un :: [tt].map Slot.sh).length) Slot.un) C with
   | ok o C' =>
    rw [e] at out
    cases o with
    | nx E' => exact fun σ' S' as' H' l p sim' => out .non S' as' H' l p sim'.drop .non
    | bk E' => exact False.elim out
    | ct E' => exact False.elim out
    | rt t => exact fun v σ' S' as' H' E' l p sim' r' => out v S' as' H' l p sim'.drop r'
   | exc x C' => rw [e] at out; exact False.elim out
   | stuck why => rw [e] at out; exact False.elim out
 | exp p4 =>
  simp only [Tf.okB, wab, wac] at hok
  obtain ⟨hfp, hess⟩ := hok
  refine ⟨fun _ _ _ => False, fun _ _ => trivial, _, run hess, fun F S as C f vv tt HZ Q sim r out => ?_⟩
  show DSs K rx _ Φ W d.fd.body _ (L2.start d.N [V.ref f]) HZ
  refine ⟨F, S, as, [Slot.un] ++ List.replicate (d.fd.n - [Slot.un].length) .un, C, ?_, ?_⟩
  ·refine ⟨sim.sub', sim.nof, sim.frm, fun i t e => ?_, fun i t e => ?_, fun i j t t' a e => ?_, sim.cl, sim.ce, sim.nd, ?_, fun a q w e => ⟨(sim.pn a q w e).1, fun i t e => ?_⟩, sim.tb⟩
   ·cases jJ3 e
   ·cases jJ3 e
   ·cases jJ3 e
   ·rw [jE0 hN2, wav, wa0, q7]
    simp
    omega
   ·cases jJ3 e
  ·have out : Out K rx (fun _ _ _ _ => False) F [] [] (jAh (runT Φ W d.fd [tt]) C) (RepR K) S as Q := out
   unfold jAh runT at out
   rw [if_neg (by rw [hfp]; show ¬ (1 + 1 = 1); decide), if_pos hfp] at out
   unfold jBz M.bind at out
   cases e : exS Φ W d.fd.body ([Slot.un] ++ List.replicate (d.fd.n - [Slot.un].length) Slot.un) C with
   | ok o C' =>
    rw [e] at out
    cases o with
    | nx E' => exact fun σ' S' as' H' l p sim' => out .non S' as' H' l p sim'.drop .non
    | bk E' => exact False.elim out
    | ct E' => exact False.elim out
    | rt t => exact fun v σ' S' as' H' E' l p sim' r' => out v S' as' H' l p sim'.drop r'
   | exc x C' => rw [e] at out; exact False.elim out
   | stuck why => rw [e] at out; exact False.elim out
 | ret p4 =>
  simp only [Tf.okB, wab, wac, waQ] at hok
  obtain ⟨⟨hfp, hb⟩, rfl⟩ := hok
  refine ⟨fun _ _ _ => False, fun _ _ => trivial, _, pss_nil, fun F S as C f vv tt HZ Q sim r out => ?_⟩
  have hb := jLq hb
  have e : runT Φ W d.fd [tt] C = .ok tt C := by
   unfold runT
   rw [if_pos (by rw [hfp]; rfl)]
   unfold jBz
   rw [hb]
   rfl
  have out : Out K rx (fun _ _ _ _ => False) F [] [] (jAh (runT Φ W d.fd [tt]) C) (RepR K) S as Q := out
  unfold jAh at out
  rw [e] at out
  exact out.here sim r
 | retL p3 p4 =>
  simp only [Tf.okB, wab, wac, waQ] at hok
  obtain ⟨⟨hfp, hb⟩, rfl⟩ := hok
  refine ⟨fun _ _ _ => False, fun _ _ => trivial, _, pss_nil, fun F S as C f vv tt HZ Q sim r out => ?_⟩
  have hb := jJ8 hb
  have e : runT Φ W d.fd [tt] C = .ok (.lst [tt]) C := by
   unfold runT
   rw [if_pos (by rw [hfp]; rfl)]
   unfold jBz
   rw [hb]
   rfl
  have out : Out K rx (fun _ _ _ _ => False) F [] [] (jAh (runT Φ W d.fd [tt]) C) (RepR K) S as Q := out
  unfold jAh at out
  rw [e] at out
  have z : [vv].length ≤ sizeLine := jDc (by simp)
  exact ⟨z, fun p hp => (Out.settle (σ := []) (E := []) out).newL sim hp z (.cons r .nil)⟩
 | retS z kk kp ps pc p3 p4 =>
  simp only [Tf.okB, wab, wac, waQ, wax, waj] at hok
  obtain ⟨⟨⟨⟨⟨⟨hfp, hb⟩, rfl⟩, hbl⟩, hz1⟩, hz2⟩, ⟨c1, m1, ps1⟩, hq, ⟨e1, e2⟩, e3⟩ := hok
  obtain ⟨c, hb⟩ := jKb hb
  rw [hb] at e1
  obtain rfl : c1 = c := e1
  obtain rfl : m1 = "__str__" := e2
  have hM := o.mts _ hq
  refine ⟨fun v H Q => ∃ (a dx : Addr) (fs : List (Str × V)), v = .ref a ∧ H a = some (.ins (ca K c1) dx fs) ∧ spM K rx ps1.length (Φ (c1, "__str__")) [.ref a] H (fun v H1 => ∃ x : Str, v = .str x ∧ Q (.str x) H1) fun _ _ _ => False, fun pn xe => ⟨?_, ?_, ?_⟩, _, pss_nil, fun F S as C f vv tt HZ Q sim r out => ?_⟩
  ·intro pins s' σ H' xs us Q' I rv h
   obtain ⟨v, rfl, a, dx, fs, rfl, h1, h2⟩ := h
   exact jLd (X := (cxOf (L2.CX P w) P w K mg base d.N d.name d.scope g cdv A fr s H X0).tr pn xe) hM e3 (hr.mono (by omega)) hg (noX _) pins s' σ H' _ us Q' I rv ⟨a, dx, fs, rfl, h1, h2⟩
  ·exact (o'.blt hbl).1
  ·exact (o'.blt hbl).2
  ·have e : runT Φ W d.fd [tt] C = (M.bind (jK6 Φ c1 "__str__" tt) fun r => M.pure (.lst [.str z, r])) C := by
    unfold runT
    rw [if_pos (by rw [hfp]; rfl)]
    unfold jBz
    rw [hb]
    have h1 : exS Φ W (.cons (.ret (.lst (.one (.con (.str z)) (.one (.own1 c1 "__str__" (.var 1)) .nil)))) .nil) (Slot.un :: [tt].map Slot.sh ++ List.replicate (d.fd.n - (Slot.un :: [tt].map Slot.sh).length) Slot.un) = M.bind (jK6 Φ c1 "__str__" tt) fun r => M.pure (.rt (.lst [.str z, r])) := by
     have hv : ev Φ (.var 1) (frzE (jA7 (.ret (.lst (.one (.con (.str z)) (.one (.own1 c1 "__str__" (.var 1)) .nil))))) (Slot.un :: [tt].map Slot.sh ++ List.replicate (d.fd.n - (Slot.un :: [tt].map Slot.sh).length) Slot.un)) = M.pure tt := rfl
     rw [jEa, jJ4, jL0, jEd, jEd, jVi, hv]
     have hc : ∀ E', ev Φ (.con (.str z)) E' = M.pure (.str z) := fun _ => rfl
     have hn : ∀ E', evL Φ .nil E' = M.pure [] := fun _ => rfl
     simp only [hc, hn, jBx, jAg]
     congr 1
    rw [h1, jAg]
    rfl
   have out : Out K rx (fun _ _ _ _ => False) F [] [] (jAh (runT Φ W d.fd [tt]) C) (RepR K) S as Q := out
   unfold jAh at out
   rw [e] at out
   unfold M.bind at out
   cases e1 : jK6 Φ c1 "__str__" tt C with
   | stuck why => rw [e1] at out; exact out.elim
   | exc x C' => rw [e1] at out; exact out.elim
   | ok r0 C0 =>
    rw [e1] at out
    have out : Out K rx (fun _ _ _ _ => False) F [] [] (.ok (.lst [.str z, r0]) C0) (RepR K) S as Q := out
    unfold jK6 at e1
    obtain ⟨y, C1, d1, e1⟩ := jGa e1
    obtain ⟨u, C2, d2, e1⟩ := jGa e1
    obtain ⟨r1, C3, d3, e1⟩ := jGa e1
    cases d1
    have hc : isC c1 (jAu C tt) = true ∧ C2 = C := by
     unfold need at d2
     split at d2
     ·rename_i q
      rw [wab] at q
      cases d2
      exact ⟨q.1, rfl⟩
     ·cases d2
    obtain ⟨hc, rfl⟩ := hc
    have rv := (Rep.vw r sim).deref sim
    generalize jAu C2 tt = td at rv hc
    cases rv with
    | @obj a dx fs c' ts q rs =>
     obtain rfl : c' = c1 := by simpa [isC] using hc
     refine ⟨a, dx, fs, rfl, q, ?_⟩
     have out4 : Out K rx (fun _ _ _ _ => False) F [] [] (Φ (c', "__str__") [tt] C2) (RepR K) S as (fun v H1 => ∃ x : Str, v = .str x ∧ ([V.str z, V.str x].length ≤ sizeLine ∧ ∀ p, H1 p = none → Q (.ref p) (upd H1 p (.lst [.str z, .str x])))) := by
      unfold jAh at d3
      cases e2 : Φ (c', "__str__") [tt] C2 with
      | stuck why => rw [e2] at d3; cases d3
      | exc x C' => rw [e2] at d3; cases d3
      | ok r2 C4 =>
       rw [e2] at d3
       cases d3
       cases r1 with
       | str n =>
        cases e1
        intro v S2 as2 H2 l2 p2 sim2 r3
        have rn : Rep K S2 as2 v (.str n) := r3
        cases rn with
        | str g => exact ⟨n, rfl, jDc (by simp), fun p hp => (Out.settle (σ := []) (E := []) (out.mono l2 p2)).newL sim2 hp (jDc (by simp)) (.cons (.str ⟨hz1, hz2⟩) (.cons (.str g) .nil))⟩
       | _ => cases e1
     exact sim.call (.cons r .nil) (by rw [e3]; rfl) out4
    | _ => cases hc
theorem jK1 {k : Nat} {d : DefI} {g : Addr} {m : T → M T} (hblt : ∀ x ∈ G.blt, mg x = none) (hm : ∀ t C, ∃ why, m t C = .stuck why) : RunT P w K mg base k rx G d g m := by
 intro cdv rest tf hok Sg hps q7 hN2 A fr s H hr hg
 have hT : ∀ (pn : List (Addr × Obj)) (xe : Value → Shared → Prop), TfS ((cxOf (L2.CX P w) P w K mg base d.N d.name d.scope g cdv A fr s H X0).tr pn xe) (fun _ _ _ => False) tf := fun pn xe => by
  cases tf with
  | retS z kk kp ps pc p3 p4 =>
   simp only [Tf.okB, wab] at hok
   have hbl := hok.1.1.1.2
   unfold bltB at hbl
   rw [wab] at hbl
   refine ⟨fun pins s' σ H' xs us Q' I rv h => ?_, ?_, hblt _ (by simpa using hbl.2)⟩
   ·obtain ⟨v, _, h⟩ := h
    exact h.elim
   ·exact jHg rfl hbl.1
  | _ => trivial
 refine ⟨fun _ _ _ => False, hT, fun _ _ _ => False, ⟨fun _ _ _ _ _ _ h => h.elim⟩, fun F S as C f vv tt HZ Q sim r out => ?_⟩
 obtain ⟨why, e⟩ := hm tt C
 unfold jAh at out
 rw [e] at out
 exact out.elim
theorem jEc {nm qual a : Str} {params : Arguments} {body : List Stmt} {scope : Scope} {dV kV doc pm cdv ct : Value} {an : Option Addr} {dvs : List V} (q1 : params.posonlyargs = []) (q2 : params.args.map (·.arg) = [a]) (q3 : params.kwonlyargs = []) (q4 : params.vararg = none) (q5 : params.kwarg = none)
  (hD : DflV K dV dvs) (hdv : dvs = []) : L2.Binds K (PySem.W.fnOf nm qual params body scope dV kV doc pm an cdv ct) [a] [] := fun s us KX hl => by
 rw [waL] at hl ⊢
 obtain ⟨u, rfl⟩ := List.length_eq_one_iff.mp hl
 refine wbr fun M => ?_
 rcases hD with ⟨_, e⟩ | ⟨e, _⟩
 ·subst e
  have := jBu (M := M) (h := s.heap) (fd := PySem.W.fnOf nm qual params body scope .none kV doc pm an cdv ct) (ps := [a]) (ks := []) (us := [u]) (ws := []) (zs := [u]) (dv := none) (dl := []) (n := 1) (nd := 0) (pl := idPl 1) q1 q2 q3 q4 q5 rfl rfl rfl (fun k r h => by
    have e : seqItems? Value.none = pure none := rfl
    show PySem.W.Looks M s.heap (seqItems? Value.none >>= k) r
    rw [e, wbu]
    exact h) rfl (by simp [plOk, idPl, jE3, ixN, ixD, addD, PArg.ix, List.range_succ]) rfl
  exact this
 ·exact absurd hdv e
theorem jOt {d : DefI} {g : Addr} (ok : d.keyB = true) (DK : DefK K d g) : jLs K g := by
 obtain ⟨dvs, fd, F, hR⟩ := DK.ex
 unfold DefI.keyB at ok
 simp only [wab, wac, waQ] at ok
 obtain ⟨hsh, hdT, hq, hb⟩ := ok
 have Sg : FnScope d.N d.ps d.scope := DefI.scope_of hsh
 obtain ⟨q1, q2, q3, q4, q5, q6, q7, q8, q9, q10⟩ := DefI.pars_of hsh
 obtain ⟨oc, od, dV, kV, doc, pm, an, cdv, ct, osl, rfl, lk, hcode, hD, hK⟩ := F.ex
 rw [← hq] at lk hcode
 have hdv : dvs = [] := by
  have e := (hR (fun _ => none) []).length
  rw [hdT] at e
  exact wat e
 split at hb
 ·rename_i ln p1 y p2 p3 y2 p4 x1 p5 p6 a eb ea
  simp only [wab, waj, wac, wam] at hb
  obtain ⟨⟨⟨⟨⟨rfl, rfl⟩, rfl⟩, b1⟩, b2⟩, b3⟩ := hb
  rw [eb] at lk
  rw [ea] at Sg q2
  exact ⟨⟨d.name, d.name, d.params, d.scope, dV, kV, doc, pm, cdv, ct, oc, an, od, osl, d.N, y2, p1, p2, p3, p4, p5, p6, x1, lk, hcode, Sg, b1, b2, b3, jEc q1 q2 q3 q4 q5 hD hdv⟩⟩
 ·cases hb
theorem jMz {d : DefI} {g : Addr} (ok : d.repB = true) (DK : DefK K d g) : jMl K g "Order of " "spot_row" " places and " "rung_row" " steps" := by
 obtain ⟨dvs, fd, F, hR⟩ := DK.ex
 unfold DefI.repB at ok
 simp only [wab, wac, waQ] at ok
 obtain ⟨hsh, hdT, hq, hb⟩ := ok
 have Sg : FnScope d.N d.ps d.scope := DefI.scope_of hsh
 obtain ⟨q1, q2, q3, q4, q5, q6, q7, q8, q9, q10⟩ := DefI.pars_of hsh
 obtain ⟨oc, od, dV, kV, doc, pm, an, cdv, ct, osl, rfl, lk, hcode, hD, hK⟩ := F.ex
 have hdv : dvs = [] := by
  have e := (hR (fun _ => none) []).length
  rw [hdT] at e
  exact wat e
 split at hb
 ·rename_i c1 n1 p1 l1 p2 y1 p3 f1 p4 p5 v1 p6 c2 n2 p7 l2 p8 y2 p9 f2 r0 r1 v2 r2 c3 n3 r3 r4 p0 a eb ea
  simp only [wab, waj, wac, wam] at hb
  obtain ⟨⟨⟨⟨rfl, rfl⟩, rfl, rfl, rfl⟩, ⟨rfl, rfl⟩, ⟨rfl, rfl⟩, rfl, rfl⟩, ⟨b1, b2⟩, b3⟩ := hb
  rw [eb] at lk
  rw [ea] at Sg q2
  exact ⟨⟨_, _, d.params, d.scope, dV, kV, doc, pm, cdv, ct, oc, an, od, osl, d.N, y2, n1, n2, n3, p0, p1, p2, p3, p4, p5, p6, p7, p8, p9, r0, r1, r2, r3, r4, lk, hcode, Sg, b1, b2, b3, jEc q1 q2 q3 q4 q5 hD hdv⟩⟩
 ·cases hb
theorem jI5 (F : GF P K mg D G) (h : G.rps = true) : RpO K mg := by
 obtain ⟨⟨q, hq⟩, ⟨d, e1, e2⟩, ⟨f1, f2⟩, hl⟩ := F.rps h
 obtain ⟨_, ⟨fa, d', h1, h2, h3, h4, h5, h6, h7, h8⟩, _⟩ := F.mts _ hq
 have h3 : jBg ("Order", "__repr__") D = some d' := h3
 rw [h3] at e1
 cases e1
 exact ⟨⟨fa, jMz e2 h8, h2, h7⟩, (F.fld _ f1).1, (F.fld _ f1).2, (F.fld _ f2).2, F.blt _ hl⟩
theorem jM8 {d : DefI} {g : Addr} (ok : d.okS G = true) (DK : DefK K d g) (hb : ∀ x ∈ G.blt, mg x = none) (hx : ∀ x ∈ G.xcs, mg x = some (.ref (ca K x))) (T : jMr K) : SrtK P w K mg G g := by
 obtain ⟨dvs, fd, F, hR⟩ := DK.ex
 unfold DefI.okS at ok
 simp only [wab, wac, waQ] at ok
 obtain ⟨hsh, hps, hdT, hq, hN6, hb6⟩ := ok
 have Sg : FnScope d.N d.ps d.scope := DefI.scope_of hsh
 obtain ⟨q1, q2, q3, q4, q5, q6, q7, q8, q9, q10⟩ := DefI.pars_of hsh
 obtain ⟨oc, od, dV, kV, doc, pm, an, cdv, ct, osl, rfl, lk, hcode, hD, hK⟩ := F.ex
 rw [← hq] at lk hcode
 obtain ⟨a, ha⟩ := List.length_eq_one_iff.mp hps
 have hdv : dvs = [] := by
  have e := (hR (fun _ => none) []).length
  rw [hdT] at e
  exact wat e
 exact ⟨⟨d.params, d.body, d.scope, dV, kV, doc, pm, cdv, ct, oc, an, od, osl, d.N, d.name, a, lk, hcode, jEc q1 (q2.trans ha) q3 q4 q5 hD hdv, ha ▸ Sg, hN6, hb6⟩, F.kp, hb, hx, T⟩
theorem jSb {k : Nat} {d : DefI} {g : Addr} {m : T → M T} (hro : G.rps = true → RpO K mg) (hbl : ∀ x ∈ G.blt, mg x = none) (o : RunT P w K mg base k (rxE G.exs) G d g m) (ok : d.okT G = true) (hF : d.hdF K G = true) (hx : ∀ x ∈ G.xcs, mg x = some (.ref (ca K x))) (DK : DefK K d g) (hk : 1 ≤ k) (hS : d.srt G = true → ∃ g', mg "_law_sort" = some (.ref g') ∧ SrtK P w K mg G g') : Tld P w K mg base k (rxE G.exs) G.exs d.name g d.hds m := absurd ok waa
theorem j0v {x qual : Str} {params : Arguments} {body : List Stmt} {scope : Scope} {dvs : List V} {kws : List (Str × V)} {f : Addr} {fd : FuncData} (F : FunD K x qual params body scope dvs kws f fd) : ∃ oc od osl, K.lookup f = some ⟨oc, od, .func fd, osl⟩ := by
 obtain ⟨oc, od, dV, kV, doc, pm, an, cdv, ct, osl, rfl, lk, _⟩ := F.ex
 exact ⟨oc, od, osl, lk⟩
theorem jN2 {C fa : Addr} {m : Str} {d : DefI} (h2 : Meth K C m fa) (h8 : DefK K d fa) : ∀ fa', PySem.W.findIn K (.ref C) m = some (some (.ref fa')) → PySem.W.fnIn K fa' = true := by
 intro fa' e
 have h := h2.at_
 rw [e] at h
 obtain rfl : fa' = fa := by cases h; rfl
 obtain ⟨_, fd, FD, _⟩ := h8.ex
 obtain ⟨oc, od, dV, kV, doc, pm, an, cdv, ct, osl, rfl, lk, _⟩ := FD.ex
 unfold PySem.W.fnIn
 rw [lk]
theorem jRk (F : GF P K mg D G) (KB : K.In base) (hB : ∀ p ∈ tabs K, base.BuiltinsAt mg p.1) : ∀ p ∈ G.cal, ∃ g, mg p.name = some (.ref g) ∧ CalP P w K mg base p g := fun p hp => by
 obtain ⟨g, h1, h2, h3, h4⟩ := F.cal p hp
 exact ⟨g, h1, jW1 h2 h3 (h4 base KB hB)⟩
theorem jX2 (hrx : rx = rxE G.exs) (W : Nat) (F : GF P K mg D G) (KB : K.In base) (hB : ∀ p ∈ tabs K, base.BuiltinsAt mg p.1) : GOk P w K mg base (L2.CX P w) 0 rx (call (jAx D) W 0) G := by
 subst hrx
 have st : ∀ n k vs H Q E, spM K (rxE G.exs) n (call (jAx D) W 0 k) vs H Q E → False := fun n k vs H Q E ⟨_, F, S, as, C, ts, _, _, out⟩ => out
 have sn : ∀ c n k vs H Q E, spN K (rxE G.exs) c n (call (jAx D) W 0 k) vs H Q E → False := fun c n k vs H Q E ⟨_, F, S, as, C, ts, x, dx, ws, _, _, _, _, _, _, _, _, out⟩ => out
 refine ⟨F.blt, F.cons, fun p hp => ?_, fun p hp => ?_, fun p hp => ?_, F.fld, F.isi, fun p hp => ?_, fun p hp => ?_, F.dcs, rfl, F.exs, rfl, F.xcs, F.trs, F.ids, F.kdf, jI5 F, jRk F KB hB, fun x hx => ?_⟩
 ·obtain ⟨_, fa, d, h1, h2, h3, h4, h5, h6⟩ := F.fns p hp
  exact ⟨fa, h1, by rw [← h4, ← h5]; exact jBc (jB5 h3) h6 (st _ _)⟩
 ·obtain ⟨h0, fa, n, d, h1, h2, h3, h4, h5, h6, h7, h8, _⟩ := F.cls p hp
  exact ⟨fa, n, h1, h2, h3, by rw [← h6, ← h7]; exact jBc (jB5 h5) h8 (sn _ _ _)⟩
 ·obtain ⟨_, fa, q, d, h1, h2, h3, h4, h5, h6, h7⟩ := F.prp p hp
  exact ⟨fa, q, d.ps, d.dT, h1, h2, h5, h6, jBc (jB5 h4) h7 (st _ _)⟩
 ·obtain ⟨_, ⟨fa, d, h1, h2, h3, h4, h5, h6, h7, h8⟩, h9, h10⟩ := F.mts p hp
  rw [← h5]
  exact ⟨⟨fa, d.dT, h1, h2, h6, h7, jBc (jB5 h4) h8 (st _ _)⟩, h9, h10.1, h10.2, jN2 h2 h8⟩
 ·obtain ⟨_, mc, q, fa, d, h1, h2, h3, h4, h5, h6, h7, h8⟩ := F.cms p hp
  rw [← h6]
  exact ⟨mc, q, fa, d.dT, h1, h2, h3, h7, jBc (jB5 h5) h8 (st _ _)⟩
 ·obtain ⟨_, g, d, h1, h2, h3, hF, h6, h4, h5, hS⟩ := F.tld x hx
  exact ⟨g, h1, by rw [← h4, ← h6]; exact jSb (jI5 F) F.blt (jK1 F.blt fun t C => ⟨_, rfl⟩) h3 hF F.xcs h5 (waK 1) (fun z => by
   obtain ⟨g', d', e1, e2, e3⟩ := hS z
   exact ⟨g', e1, jM8 e2 e3 F.blt F.xcs F.typ⟩)⟩
theorem jP1 {k n W : Nat} (F : GF P K mg D G) (KB : K.In base) (hB : ∀ p ∈ tabs K, base.BuiltinsAt mg p.1) (g : GOk P w K mg base (L2.CX P w) k rx (call (jAx D) W n) G) : GOk P w K mg base (L2.CX P w) (k + 5) rx (call (jAx D) W (n + 1)) G := by
 refine ⟨F.blt, F.cons, fun p hp => ?_, fun p hp => ?_, fun p hp => ?_, F.fld, F.isi, fun p hp => ?_, fun p hp => ?_, F.dcs, g.rxe, F.exs, rfl, F.xcs, F.trs, F.ids, F.kdf, jI5 F, jRk F KB hB, fun x hx => ?_⟩
 ·obtain ⟨h0, fa, d, h1, h2, h3, h4, h5, h6⟩ := F.fns p hp
  refine ⟨fa, h1, ?_⟩
  rw [← h4, ← h5, jDj h0 (show (("" : Str)) ≠ "!" by decide) h2]
  exact jBi (jB5 h3) h6 fun dvs fd D => jEt W g h3 (fun z => F.lms p hp _ _ _ h1 h2 z (j0v D) _ KB hB) D
 ·obtain ⟨h0, fa, n, d, h1, h2, h3, h4, h5, h6, h7, h8, h9⟩ := F.cls p hp
  refine ⟨fa, n, h1, h2, h3, ?_⟩
  rw [← h6] at h3
  cases hc : d.cel with
  | false =>
   rw [← h6, ← h7, jLw h4 (h9.trans hc)]
   exact jBi (jB5 h5) h8 fun dvs fd D => jPx W g h5 (fun z => by rw [F.nol (p.1, "__init__") _ h0 h4] at z; cases z) h3 D
  | true =>
   rw [← h6, ← h7, jKk h4 (h9.trans hc)]
   exact jBi (jB5 h5) h8 fun dvs fd D => jLb W g h5 (fun z => by rw [F.nol (p.1, "__init__") _ h0 h4] at z; cases z) h3 D
 ·obtain ⟨h0, fa, q, d, h1, h2, h3, h4, h5, h6, h7⟩ := F.prp p hp
  refine ⟨fa, q, d.ps, d.dT, h1, h2, h5, h6, ?_⟩
  have h3' : jBg (p.1, p.2) D = some d := h3
  rw [jDj h0.1 h0.2.1 h3']
  exact jBi (jB5 h4) h7 fun dvs fd D => jEt W g h4 (fun z => by rw [F.nol _ _ h0.2.2 h3] at z; cases z) D
 ·obtain ⟨h0, ⟨fa, d, h1, h2, h3, h4, h5, h6, h7, h8⟩, h9, h10⟩ := F.mts p hp
  rw [← h5]
  refine ⟨⟨fa, d.dT, h1, h2, h6, h7, ?_⟩, h9, h10.1, h10.2, jN2 h2 h8⟩
  rw [jDj h0.1 h0.2.1 h3]
  exact jBi (jB5 h4) h8 fun dvs fd D => jEt W g h4 (fun z => by rw [F.nol (p.1, p.2.1) _ h0.2.2 h3] at z; cases z) D
 ·obtain ⟨h0, mc, q, fa, d, h1, h2, h3, h4, h5, h6, h7, h8⟩ := F.cms p hp
  rw [← h6]
  refine ⟨mc, q, fa, d.dT, h1, h2, h3, h7, ?_⟩
  rw [jDj h0.1 h0.2.1 h4]
  exact jBi (jB5 h5) h8 fun dvs fd D => jEt W g h5 (fun z => by rw [F.nol (p.1, p.2.1) _ h0.2.2 h4] at z; cases z) D
 ·obtain ⟨h0, ga, d, h1, h2, h3, hF, h6, h4, h5, hS⟩ := F.tld x hx
  refine ⟨ga, h1, ?_⟩
  have hrx := g.rxe
  subst hrx
  have T := jSb (jI5 F) F.blt (jTz W g (d := d) (g := ga)) h3 hF F.xcs h5 (by omega) (fun z => by
   obtain ⟨g', d', e1, e2, e3⟩ := hS z
   exact ⟨g', e1, jM8 e2 e3 F.blt F.xcs F.typ⟩)
  rw [h4, h6] at T
  have e : (fun t => call (jAx D) W (n + 1) ("!", x.1) [t]) = fun t => runT (call (jAx D) W n) W d.fd [t] := by
   rw [jOb h0 h2]
  rw [e]
  exact T.mono (by omega)
theorem jRq (hrx : rx = rxE G.exs) (W : Nat) (F : GF P K mg D G) (KB : K.In base) (hB : ∀ p ∈ tabs K, base.BuiltinsAt mg p.1) : ∀ n, GOk P w K mg base (L2.CX P w) (5 * n) rx (call (jAx D) W n) G
 | 0 => jX2 hrx W F KB hB
 | n + 1 => jP1 F KB hB (jRq hrx W F KB hB n)
end
theorem jKy {v : Value} (h : jOh v = true) : v = .none := by cases v <;> first | rfl | cases h
theorem jIs {K : PySem.W.Frag} {fd : FuncData} {ps : List Str} (h1 : fd.params.posonlyargs = []) (h2 : fd.params.args.map (·.arg) = ps) (h3 : fd.params.kwonlyargs = []) (h4 : fd.params.vararg = none) (h5 : fd.params.kwarg = none) (hd : fd.defaults = .none)
  (ok : plOk ps ps.length [] 0 (idPl ps.length) = true) : L2.Binds K fd ps [] := fun s us KX hl => by
 rw [waL] at hl ⊢
 refine wbr fun M => ?_
 have hp : jAt (us ++ []) [] (idPl ps.length) = some us := by
  rw [waL, ← hl]
  have h : ∀ (m k : Nat), k + m = us.length → jAt us ([] : List Value) ((List.range' k m).map .arg) = some (us.drop k) := by
   intro m
   induction m with
   | zero =>
    intro k e
    rw [wbc (by omega)]
    rfl
   | succ m ih =>
    intro k e
    rw [List.range'_succ, war]
    have hk : k < us.length := by omega
    show ((us[k]?).bind fun x => (jAt us [] ((List.range' (k + 1) m).map .arg)).map (x :: ·)) = _
    rw [ih (k + 1) (by omega), wad hk, waF hk]
    rfl
  have := h us.length 0 (by omega)
  rw [← List.range_eq_range'] at this
  exact this
 have := jBu (M := M) (h := s.heap) (fd := fd) (ps := ps) (ks := []) (us := us) (ws := []) (zs := us) (dv := none) (dl := []) (n := ps.length) (nd := 0) (pl := idPl ps.length) h1 h2 h3 h4 h5 hl rfl rfl (fun k r h => by
  have e : seqItems? Value.none = pure none := rfl
  rw [hd, e, wbu]
  exact h) rfl ok hp
 exact this
theorem j10 {P : Program} {K : PySem.W.Frag} {mg : Str → Option Value} {fl : Str} {C : Addr} {fs : List Str} {b : XB} (h : xinB K fl C fs b = true) (hf : ((P.main.file : Str) == fl) = true) (ht : (P.main.scope.names.lookup ("super" : Str)).isSome = false) (hm : mg "super" = none) :
  ∃ fI as fd, XIn P K mg b.B b.nw b.it b.bm C fI fs as fd := by
 unfold xinB xcB at h
 simp only [wab, wac, wag, wam, List.isEmpty_eq_false_iff] at h
 obtain ⟨h0, c1, c2, c3, c4, c5, c6, c7, c8, c9, c10, c11, c12, c13, c14⟩ := h
 split at h0
 ·rename_i fI hfI
  rw [wab, wac] at h0
  obtain ⟨h0, hty⟩ := h0
  split at h0
  ·rename_i oc od fd osl lk
   rw [wab] at h0
   obtain ⟨hb, hn⟩ := h0
   unfold xfnB at hn
   simp only [wab, wac, wag, wam, waj, bne_iff_ne, waQ, Option.isNone_iff_eq_none] at hn
   obtain ⟨n1, n2, n3, n4, n5, n6, n7, n8, n9, n10, n11, n12, n13, n14, n15⟩ := hn
   have n5 := jKy n5
   unfold j16 at hb
   split at hb
   ·rename_i s0 ps0 ps1 i0 p2 p3 p4 rest cn cc cda ar args hbody hclo hcode hargs
    simp only [wab, wac, wag, wam, waj] at hb
    obtain ⟨rfl, rfl, rfl, b4, b5, b6, b7, b8, b9, b10, b11, b12⟩ := hb
    unfold jRn at b9
    split at b9
    ·rename_i ccl cdd vs ccs lkc
     split at b9
     ·rename_i f tf hvs
      unfold j1v at b10
      split at b10
      ·rename_i cl cld C' csl lkcc
       rw [wac] at b10
       subst b10
       have hcl : ∃ cd, PySem.W.clsIn K C' = some cd := by
        obtain ⟨cd, hc, _⟩ := PySem.W.any_some c6
        exact ⟨cd, hc⟩
       obtain ⟨cd, hcl⟩ := hcl
       have hps : fd.params.args.map (·.arg) = ("self" : Str) :: args.map (·.arg) := by rw [hargs, war, b5]
       rw [hps] at n15
       refine ⟨fI, args.map (·.arg), fd, ⟨fd.name, fd.qualname, fd.params, rest, fd.scope, fd.defaults, fd.kwdefaults, fd.doc, fd.pyModule, fd.closureTuple, oc, ccl, cl, fd.annotations, od, cdd, cld, cda, cc, osl, ccs, csl, vs, f, tf, cd, ar, ps0, ps1, p2, p3, p4, ?_, lk, b8, b6, ?_, b5, lkc, hvs, ?_, lkcc, hcl, n8, n9, n10, n11, n12, n13, fun x hx => n14 x hx, fun a ha => b12 a ha, c1, by rw [b4]; exact wa6 _, ?_⟩, wbe List.length b7, b11, c2, c3, b.KF, b.FB, b.SF, c4, c5, c6, c7, c8, c9, c10, c11, ht, hm, hfI, hty, c12, c13, c14, fun s us ws zs n ks pl hu hw ok hp => wbr fun M => jBu (M := M) (h := s.heap) (fd := fd) (dv := none) (dl := []) (nd := 0) n1 hps n2 n3 n4 hu hw rfl (fun k r h => by
        have e : seqItems? Value.none = pure none := rfl
        rw [n5, e, wbu]
        exact h) rfl ok hp, b7⟩
       ·obtain ⟨g1, g2, g3, g4, g5, g6, g7, g8, g9, g10, g11, g12, g13, g14, g15⟩ := fd
        dsimp only at hbody hclo hcode n6 n7
        subst hbody hclo hcode n6 n7
        rfl
       ·rw [n1, hargs]
        rfl
       ·rw [waj] at hf
        rw [hf]
        exact b9
       ·exact jIs n1 hps n2 n3 n4 n5 n15
      ·cases b10
     ·cases b9
    ·cases b9
   ·cases hb
  ·cases h0
 ·cases h0
theorem j1u {K : PySem.W.Frag} {C : Addr} {b : XB} (h : xnoB K C b = true) : XNo K b.B b.nw b.it b.bm C := by
 unfold xnoB xcB at h
 simp only [wab, wac] at h
 exact ⟨b.FB, h.1, h.2.1, h.2.2.1, h.2.2.2⟩
theorem jT8 {P : Program} {K : PySem.W.Frag} {mg : Str → Option Value} {fl : Str} {C : Addr} {fs : List Str} (h : jVd K fl C fs = true) (hf : ((P.main.file : Str) == fl) = true) (ht : (P.main.scope.names.lookup ("super" : Str)).isSome = false) (hm : mg "super" = none) : XCls P K mg C fs := by
 unfold jVd at h
 split at h
 ·rw [waD, waD] at h
  rcases h with h | h | h <;> exact .bare (j1u h)
 ·rw [waD, waD] at h
  rcases h with h | h | h <;> (obtain ⟨_, _, _, T⟩ := j10 (P := P) (mg := mg) h hf ht hm; exact .ini T)
mutual
theorem jR7 {K : PySem.W.Frag} : ∀ (u : Value) (t : T), dvB K u t = true → ∃ v, RelV v u ∧ ∀ S as, Rep K S as v t
 | u, .non, h => by
  simp only [dvB] at h
  split at h
  ·exact ⟨.non, rfl, fun S as => .non⟩
  ·cases h
 | u, .bl b, h => by
  simp only [dvB] at h
  split at h
  ·rw [waj] at h
   subst h
   exact ⟨.bl b, rfl, fun S as => .bl b⟩
  ·cases h
 | u, .int i, h => by
  simp only [dvB] at h
  split at h
  ·rw [wac] at h
   subst h
   exact ⟨.int i, ⟨_, rfl⟩, fun S as => .int i⟩
  ·cases h
 | u, .str x, h => by
  simp only [dvB] at h
  split at h
  ·simp only [wab, wac] at h
   obtain ⟨⟨rfl, h1⟩, h2⟩ := h
   exact ⟨.str x, ⟨_, rfl⟩, fun S as => .str ⟨h1, h2⟩⟩
  ·cases h
 | u, .tup ts, h => by
  simp only [dvB] at h
  split at h
  ·rename_i a
   split at h
   ·rename_i c its n osl q
    simp only [wab, wac] at h
    obtain ⟨⟨rfl, h1⟩, h2⟩ := h
    obtain ⟨vs, r, rs⟩ := jIg its.toList ts h2
    refine ⟨.ref a, rfl, fun S as => .tup (.inr ⟨.inr ⟨_, its, n, q, rfl, rfl, h1, r⟩, _, q, rfl⟩) ?_ (rs S as)⟩
    rw [r.length]
    simpa using h1
   ·cases h
  ·cases h
 | u, .lst ts, h => by simp only [dvB] at h; cases h
 | u, .dic ks vs, h => by simp only [dvB] at h; cases h
 | u, .obj c ns vs, h => by simp only [dvB] at h; cases h
 | u, .ref n, h => by simp only [dvB] at h; cases h
theorem jIg {K : PySem.W.Frag} : ∀ (us : List Value) (ts : List T), dvsB K us ts = true → ∃ vs, Vals vs us ∧ ∀ S as, Reps K S as vs ts
 | [], [], h => ⟨[], .nil, fun S as => .nil⟩
 | [], _ :: _, h => by simp only [dvsB] at h; cases h
 | _ :: _, [], h => by simp only [dvsB] at h; cases h
 | u :: us, t :: ts, h => by
  simp only [dvsB, wab] at h
  obtain ⟨v, h1, h2⟩ := jR7 u t h.1
  obtain ⟨vs, h3, h4⟩ := jIg us ts h.2
  exact ⟨v :: vs, .cons h1 h3, fun S as => .cons (h2 S as) (h4 S as)⟩
end
theorem jRf {K : PySem.W.Frag} {C : Addr} {m : Str} (h : cmB K C m = true) : ClX.CRead K C (.type "type") ∧ ClX.CMet K C (.type "type") m (pq K C m) (cg K C m) := by
 unfold cmB at h
 simp only [wab, wac] at h
 obtain ⟨⟨⟨⟨h1, h2⟩, h3⟩, h4⟩, h5⟩ := h
 refine ⟨⟨h1, h2⟩, ⟨?_, ?_, h5⟩⟩
 ·split at h3
  ·rename_i g a c e
   simp only [wab, waj] at h3
   obtain ⟨rfl, rfl, rfl⟩ := h3
   exact e
  ·cases h3
 ·unfold cg
  split at h4
  ·rename_i g rest e
   exact ⟨rest, by rw [e]⟩
  ·cases h4
theorem jJi : ∀ {es : List DictEntry} {D : List (Str × Int)} {h : Heap}, jQk es D = true → PyProof.Rows.KTD.Rows (PyProof.Rows.KTD.Dat.At h) es (D.map fun q => (q.1, PyProof.Rows.KTD.Dat.flat (.int q.2)))
 | [], [], _, _ => .nil
 | [], _ :: _, _, h => by cases h
 | _ :: _, [], _, h => by cases h
 | e :: es, p :: D, hp, h => by
  simp only [jQk, wab] at h
  obtain ⟨⟨h1, h2⟩, h3⟩ := h
  have r := jJi (h := hp) h3
  split at h1
  ·rename_i x t ek
   rw [wac] at h1
   subst h1
   split at h2
   ·rename_i i t2 ev
    rw [wac] at h2
    exact .cons ek (by rw [ev, h2]; exact fun h => .int _ _) r
   ·cases h2
  ·cases h1
theorem jRd {K : PySem.W.Frag} {a : Addr} {D : List (Str × Int)} (h : jTj K a D = true) : DcK K a D := by
 unfold jTj at h
 rw [wab, waj] at h
 obtain ⟨h1, h2⟩ := h
 split at h2
 ·rename_i c es n sl e
  simp only [wab, wac] at h2
  obtain ⟨⟨rfl, h3⟩, h4⟩ := h2
  have hs : sl = #[] := by simpa using h3
  subst hs
  exact fun hp hK => ⟨h1, _, es, n, hK _ _ e, ⟨rfl, rfl, rfl⟩, rfl, jJi h4⟩
 ·cases h2
theorem jBy {K : PySem.W.Frag} {f : Addr} {d : DefI} (e : fnAt K f = d.val) (c : defB K f d = true) : DefK K d f := by
 unfold defB at c
 rw [wab] at c
 obtain ⟨kp, c⟩ := c
 unfold fnAt at e
 cases q : K.lookup f with
 | none => rw [q] at c; cases c
 | some o =>
  obtain ⟨oc, od, dt, osl⟩ := o
  rw [q] at c e
  cases dt with
  | func fd =>
   obtain ⟨n1, n2, n3, n4, n5, n6, n7, n8, n9, n10, n11, n12, n13, n14, n15⟩ := fd
   have e2 : (some (n1, n2, n3, n4, n5, n6, n7, n15) : FnW) = some (d.name, d.qual, d.params, .stmts d.body, d.scope, mainGlobals, [], builtinsNs) := e
   simp only [Option.some.injEq, Prod.mk.injEq] at e2
   obtain ⟨h1, h2, h3, h4, h5, h6, h7, h8⟩ := e2
   subst h1 h2 h3 h4 h5 h6 h7 h8
   have c2 : (PySem.W.codeIn K n13 d.qual && dflT K n8 d.dT) = true := c
   rw [wab] at c2
   have hd : ∃ dvs, DflV K n8 dvs ∧ ∀ S as, Reps K S as dvs d.dT := by
    have c3 := c2.2
    cases ht : d.dT with
    | nil =>
     rw [ht] at c3
     simp only [dflT] at c3
     split at c3
     ·exact ⟨[], .inl ⟨rfl, rfl⟩, fun S as => .nil⟩
     ·cases c3
    | cons t ts =>
     rw [ht] at c3
     simp only [dflT] at c3
     split at c3
     ·split at c3
      ·rename_i T _ oc2 od2 its nn osl2 hq
       obtain ⟨vs, r, rs⟩ := jIg _ _ c3
       refine ⟨vs, .inr ⟨?_, _, _, its.toList, nn, rfl, hq, by simp, r⟩, rs⟩
       rintro rfl
       have := (rs (fun _ => Option.none) []).length
       simp at this
      ·cases c3
     ·cases c3
   obtain ⟨dvs, hD, hR⟩ := hd
   exact ⟨dvs, _, ⟨⟨oc, od, n8, n9, n10, n11, n12, n13, n14, osl, rfl, q, c2.1, hD, .inl rfl⟩, kp⟩, hR⟩
  | _ => cases c
theorem jAw {D : List DefI} {k : FK} {f : DefI → Bool} (h : optB D k f = true) : ∃ d, jBg k D = some d ∧ f d = true := by
 unfold optB at h
 split at h
 ·exact ⟨_, by assumption, h⟩
 ·cases h
theorem jOe {K : PySem.W.Frag} {f : Addr} {q : Str} {fd : FuncData} {base : Heap} {mg : Str → Option Value} (h : lamB K f q = true) (lk : ∃ oc od osl, K.lookup f = some ⟨oc, od, .func fd, osl⟩) (KB : K.In base) (hB : ∀ p ∈ tabs K, base.BuiltinsAt mg p.1) : LamK K base mg q fd.code := by
 obtain ⟨oc, od, osl, lk⟩ := lk
 unfold lamB at h
 rw [lk] at h
 have h : (match fd.code with
  | .ref c => (tabs K).any fun p => decide (p.2 = q ++ ".<locals>." ++ "<lambda>") && PySem.W.codeHdIn K c p.1 && p.1 != mainGlobals && (tabs K).all fun r => r.1 != p.1 || decide (r.2 = p.2)
  | _ => false) = true := h
 cases e : fd.code with
 | ref c =>
  rw [e] at h
  obtain ⟨p, hp, h⟩ := wax.mp h
  simp only [wab, wac, bne_iff_ne, wag, waD] at h
  obtain ⟨⟨⟨h1, h2⟩, h3⟩, h4⟩ := h
  refine ⟨c, p.1, rfl, ⟨PySem.W.codeHd_of_K KB h2, hB p hp, fun z => h3 z.symm⟩, by rw [← h1]; exact hp, fun r hr er => ?_⟩
  rcases h4 r hr with z | z
  ·exact absurd er z
  ·rw [z, h1]
 | _ => rw [e] at h; cases h
def Gs.xok (P : Program) (G : Gs) : Bool := G.exs.isEmpty || (((P.main.file : Str) == G.xfl) && !(P.main.scope.names.lookup ("super" : Str)).isSome)
theorem jA2 {α β : Type} {f g : α → β} : ∀ {l : List α}, l.map f = l.map g → ∀ a ∈ l, f a = g a
 | [], _, a, h => by cases h
 | b :: l, e, a, h => by
  rw [war, war] at e
  injection e with e1 e2
  rcases waE.mp h with rfl | h
  ·exact e1
  ·exact jA2 e2 a h
theorem Gs.gf {P : Program} {K : PySem.W.Frag} {h : Heap} {mg : Str → Option Value} {D : List DefI} {G : Gs} (X : K.In h) (N : h.Ns mainGlobals mg) (ht : G.txt D = true) (hf : G.fact K D = true) (hv : G.adrs K = G.vals D) (hxo : G.xok P = true) : GF P K mg D G := by
 unfold Gs.txt at ht
 simp only [wab, wag, bne_iff_ne] at ht
 obtain ⟨⟨⟨⟨⟨⟨⟨⟨⟨⟨t1, t2⟩, t3⟩, t4⟩, t5⟩, t6⟩, t7⟩, t8⟩, t9⟩, t10⟩, t11⟩ := ht
 unfold Gs.fact at hf
 simp only [wab, wag, wac] at hf
 obtain ⟨⟨⟨⟨⟨⟨⟨⟨⟨⟨⟨⟨⟨⟨⟨⟨f1, f2⟩, f3⟩, f4⟩, f5⟩, f6⟩, f7⟩, f8⟩, f9⟩, f10⟩, f11⟩, f16⟩, f12⟩, f17⟩, f18⟩, f13, f14, f15, f19, f20⟩, f21⟩ := hf
 unfold Gs.adrs Gs.vals at hv
 obtain ⟨hv, hv8⟩ := wbn hv (by simp)
 obtain ⟨hv, hv7⟩ := wbn hv (by simp)
 obtain ⟨hv, hv6⟩ := wbn hv (by simp)
 obtain ⟨hv, hv5⟩ := wbn hv (by simp)
 obtain ⟨hv1, hv4⟩ := wbn hv (by simp)
 obtain ⟨hv1, hv2⟩ := wbn hv1 (by simp)
 obtain ⟨hv1, hv3⟩ := wbn hv1 (by simp)
 have val : ∀ {k : FK} {d : DefI}, jBg k D = some d → jF9 D k = d.val := fun {k d} e => by unfold jF9; rw [e]
 have glo : ∀ {x : Str} {f : Addr}, (He.Fa.glo x).ok K = true → mg x = some (.ref f) → f = He.ga K x := fun {x f} c e => by
  have := He.glo_ok X N c
  rw [e] at this
  cases this
  rfl
 refine ⟨fun p hp d f fd e1 e2 e3 lk base KB hB => ?_, fun p hp => by
   obtain ⟨g1, o2⟩ := f21 p hp
   obtain ⟨h1, h2⟩ := t11 p hp
   exact ⟨He.ga K p.name, He.glo_ok X N g1, h1, jBy (d := p.toD) (jA2 hv8 p hp) o2, fun base KB hB fd lk => jOe (f12 p.name (by simpa using h2)) lk KB hB⟩, fun k d hk e => ?_, fun x hx => ?_, ⟨He.eqO_ok f9.1, f9.2⟩, fun x hx => He.glo_ok X N (f14 x hx), f19, fun c hc => ⟨He.eqO_ok (f20 c hc).1.1.1.2, He.eqO_ok (f20 c hc).1.1.2, (f20 c hc).1.2, (f20 c hc).2⟩, fun x hx => by
   obtain ⟨u1, u2⟩ := t9 x hx
   obtain ⟨p, hp, e⟩ := wax.mp u1
   rw [← beq_iff_eq.mp e] at u2 ⊢
   obtain ⟨d0, v1, v2⟩ := jAw u2
   obtain ⟨g1, o2⟩ := f3 p hp
   obtain ⟨d', d3, d4⟩ := jAw o2
   rw [v1] at d3
   cases d3
   exact ⟨_, He.glo_ok X N g1, jOt v2 (jBy ((jA2 hv1 p hp).trans (val v1)) d4)⟩, fun h => by
   rw [h] at t10
   simp only [Bool.not_true, Bool.false_or, wab, waT] at t10
   obtain ⟨⟨⟨m1, m2⟩, m3⟩, m4⟩ := t10
   obtain ⟨⟨c, m, q⟩, hq, e⟩ := wax.mp m1
   simp only [wab, waj] at e
   obtain ⟨rfl, rfl⟩ := e
   obtain ⟨d, v1, v2⟩ := jAw m2
   exact ⟨⟨q, hq⟩, ⟨d, v1, v2⟩, m3, m4⟩, fun p hp => ?_, fun x hx => He.free_ok X N (f1 x hx), fun p hp => ?_, fun p hp => ?_, fun p hp => ?_, fun p hp => ?_, fun p hp => ?_, fun ty ks hks hty => ?_, fun p hp => ?_, fun p hp => ?_, fun p hp => ?_⟩
 ·obtain ⟨_, o1⟩ := t1 p hp
  obtain ⟨d', d1, d2⟩ := jAw o1
  rw [e2] at d1
  cases d1
  simp only [wab, wac, waD, wam, waT] at d2
  obtain ⟨_, d2⟩ := d2
  rcases d2 with z | ⟨z1, z2⟩
  ·rw [e3] at z; cases z
  ·rw [z2]
   rw [glo (f3 p hp).1 e1] at lk
   exact jOe (f12 p.1 z1) lk KB hB
 ·have hd : ∀ {D : List DefI} {d : DefI}, jBg k D = some d → d ∈ D ∧ d.key = k := by
   intro D
   induction D with
   | nil => intro d h; cases h
   | cons a r ih =>
    intro d h
    simp only [jBg] at h
    split at h
    ·rename_i q
     cases h
     exact ⟨wah, q⟩
    ·exact ⟨wak _ (ih h).1, (ih h).2⟩
  obtain ⟨h1, h2⟩ := hd e
  have := t5 d h1
  simp only [waD, waj, wam] at this
  rcases this with z | z
  ·rw [h2] at z
   exact absurd z hk
  ·exact z
 ·obtain ⟨n1, o1⟩ := t6 x hx
  obtain ⟨d, d1, d2⟩ := jAw o1
  simp only [wab, wac] at d2
  obtain ⟨g1, o2⟩ := f11 x hx
  obtain ⟨d', d3, d4⟩ := jAw o2
  rw [d1] at d3
  cases d3
  rw [wab] at d4
  exact ⟨n1, _, d, He.glo_ok X N g1, d1, d2.1.1, d4.2, jD7 d2.2, d2.1.2, jBy ((jA2 hv5 x hx).trans (val d1)) d4.1, fun hs => by
   have hc : ("_law_sort" : Str) ∈ G.srt := by
    unfold DefI.srt at hs
    split at hs
    ·unfold jVw at hs
     split at hs
     ·simp only [wab, waT] at hs
      exact hs.2
     ·cases hs
    ·cases hs
   obtain ⟨d', d5, d6⟩ := jAw (t7 _ hc)
   obtain ⟨g2, o3⟩ := f16 _ hc
   obtain ⟨d'', d7, d8⟩ := jAw o3
   rw [d5] at d7
   cases d7
   exact ⟨_, d', He.glo_ok X N g2, d6, jBy ((jA2 hv6 _ hc).trans (val d5)) d8⟩⟩
 ·obtain ⟨g1, g2⟩ := f13 p hp
  have ne : G.exs.isEmpty = false := by
   cases e : G.exs with
   | nil => rw [e] at hp; cases hp
   | cons => rfl
  unfold Gs.xok at hxo
  rw [ne, Bool.false_or, wab, wam] at hxo
  rw [ne, Bool.false_or] at f15
  exact ⟨He.glo_ok X N g1, jT8 g2 hxo.1 hxo.2 (He.free_ok X N f15)⟩
 ·have c := f2 p hp
  split at c
  ·rename_i u e
   obtain ⟨v, h1, h2⟩ := jR7 _ _ c
   exact ⟨u, v, PySem.W.mg_of X N e, h1, h2⟩
  ·cases c
 ·obtain ⟨n1, o1⟩ := t1 p hp
  obtain ⟨d, d1, d2⟩ := jAw o1
  simp only [wab, wac] at d2
  obtain ⟨g1, o2⟩ := f3 p hp
  obtain ⟨d', d3, d4⟩ := jAw o2
  rw [d1] at d3
  cases d3
  exact ⟨n1, _, d, He.glo_ok X N g1, d1, d2.1.1.1, d2.1.1.2, jHy d2.1.2, jBy ((jA2 hv1 p hp).trans (val d1)) d4⟩
 ·obtain ⟨n0, o1⟩ := t2 p hp
  obtain ⟨d, d1, d2⟩ := jAw o1
  simp only [wab, wac] at d2
  obtain ⟨⟨g1, g2⟩, o2⟩ := f4 p hp
  obtain ⟨d', d3, d4⟩ := jAw o2
  rw [d1] at d3
  cases d3
  obtain ⟨⟨⟨⟨d5, d6⟩, d7⟩, d8⟩, d9⟩ := d2
  exact ⟨n0, _, d.ps.length - 1, d, He.glo_ok X N g1, He.mkr_ok g2, by rw [← d6]; omega, d1, d5, d6, jHy d7, jBy ((jA2 hv3 p hp).trans (val d1)) d4, waj.mp d9⟩
 ·obtain ⟨n1, o1⟩ := t3 p hp
  obtain ⟨d, d1, d2⟩ := jAw o1
  simp only [wab, wac] at d2
  obtain ⟨⟨⟨⟨⟨g1, g2⟩, g3⟩, g4⟩, g5⟩, o2⟩ := f5 p hp
  obtain ⟨d', d3, d4⟩ := jAw o2
  rw [d1] at d3
  cases d3
  refine ⟨n1, _, _, d, He.cls_ok g1, ⟨He.eqO_ok g2, He.eqO_ok g3, g4, ?_⟩, d1, d2.1.1, d2.1.2, d2.2, jBy ((jA2 hv2 p hp).trans (val d1)) d4⟩
  unfold pg
  split at g5
  ·rename_i g rest e
   exact ⟨rest, by rw [e]⟩
  ·cases g5
 ·obtain ⟨g1, g2⟩ := f6 p hp
  exact ⟨He.cls_ok g1, He.noat_ok g2⟩
 ·refine ⟨fun c hc => ?_, fun c' e n hn => ?_, ⟨He.eqO_ok f9.1, f9.2⟩⟩
  ·obtain ⟨⟨⟨⟨g1, g2⟩, g3⟩, g4⟩, g5⟩ := f7 c (hks c hc)
   refine ⟨⟨He.cls_ok g1, He.eqO_ok g2, g3⟩, ?_⟩
   cases ty with
   | cls c' =>
    obtain ⟨p, hp, e⟩ := hty c' rfl
    have := g5 p hp
    rw [e] at this
    exact this
   | _ => exact g4 _ (by decide)
  ·subst e
   obtain ⟨p, hp, e⟩ := hty c' rfl
   have := f8 p hp n hn
   rw [e] at this
   exact this
 ·obtain ⟨n1, o1⟩ := t4 p hp
  obtain ⟨d, d1, d2⟩ := jAw o1
  simp only [wab, wac] at d2
  obtain ⟨⟨⟨⟨⟨⟨g1, g2⟩, g3⟩, g4⟩, g5⟩, g6⟩, o2⟩ := f10 p hp
  obtain ⟨d', d3, d4⟩ := jAw o2
  rw [d1] at d3
  cases d3
  refine ⟨n1, ⟨_, d, He.cls_ok g1, He.meth_ok g2, d1, d2.1.1, d2.1.2, d2.2, g3, jBy ((jA2 hv4 p hp).trans (val d1)) d4⟩, g4, fun e => ?_, fun e1 e2 => ?_⟩
  ·simp only [waD, bne_iff_ne] at g5
   exact He.eqO_ok (g5.resolve_left fun z => z e)
  ·simp only [waD, bne_iff_ne] at g6
   exact He.eqO_ok (g6.resolve_left fun z => z.elim (fun z => z e1) fun z => z e2)
 ·obtain ⟨n1, o1⟩ := t8 p hp
  obtain ⟨d, d1, d2⟩ := jAw o1
  simp only [wab, wac] at d2
  obtain ⟨⟨g1, g2⟩, o2⟩ := f17 p hp
  obtain ⟨d', d3, d4⟩ := jAw o2
  rw [d1] at d3
  cases d3
  exact ⟨n1, _, _, _, d, He.glo_ok X N g1, (jRf g2).1, (jRf g2).2, d1, d2.1.1, d2.1.2, d2.2, jBy ((jA2 hv7 p hp).trans (val d1)) d4⟩
 ·have c := f18 p hp
  split at c
  ·rename_i a e
   exact ⟨a, PySem.W.mg_of X N e, jRd c⟩
  ·cases c
theorem jQ5 {α β : Type} [BEq α] [LawfulBEq α] {a : α} {l r : List (α × β)} : (l ++ r).lookup a = (l.lookup a).or (r.lookup a) := by
 induction l with
 | nil => simp
 | cons p l ih =>
  obtain ⟨b, c⟩ := p
  rw [List.cons_append, waV, waV, ih]
  cases a == b <;> simp
theorem jF5 {p : Addr → Bool} {a : Addr} {o : Obj} : ∀ {l : PySem.W.Frag}, (l.filter fun q => p q.1).lookup a = some o → l.lookup a = some o ∧ p a = true
 | [], h => by cases h
 | (b, c) :: l, h => by
  rw [List.filter_cons] at h
  rw [waV]
  cases hp : p b with
  | true =>
   rw [if_pos hp, waV] at h
   cases e : a == b with
   | true =>
    rw [e] at h
    rw [waj.mp e]
    exact ⟨h, hp⟩
   | false =>
    rw [e] at h
    exact jF5 h
  | false =>
   rw [if_neg (by rw [hp]; simp)] at h
   have ih := jF5 h
   cases e : a == b with
   | true =>
    rw [waj.mp e, hp] at ih
    cases ih.2
   | false => exact ih
theorem jJ9 {ps : List (Addr × Str)} {a : Addr} {o : Obj} {l : PySem.W.Frag} (h : (jIj ps l).lookup a = some o) : l.lookup a = some o := by
 cases l with
 | nil => cases h
 | cons q r =>
  obtain ⟨b, c⟩ := q
  unfold jIj at h
  rw [jQ5] at h
  cases e : ((b, c) :: r).lookup a with
  | some o' => rw [e] at h; exact h
  | none =>
   rw [e] at h
   have h : (ps.map fun p => (b, jV0 p)).lookup a = some o := h
   rw [waV] at e
   cases q : a == b with
   | true => rw [q] at e; cases e
   | false =>
    have : ∀ ps : List (Addr × Str), (ps.map fun p => (b, jV0 p)).lookup a = none := by
     intro ps
     induction ps with
     | nil => rfl
     | cons p r ih => rw [war, waV, q]; exact ih
    rw [this] at h
    cases h
theorem jJu {G : Gs} {K : PySem.W.Frag} {a : Addr} {o : Obj} (h : (fixK G K).lookup a = some o) : K.lookup a = some o := by
 unfold fixK at h
 split at h
 ·exact h
 ·exact (jF5 (p := fun a => !(((lmsT G K).map (·.1)).contains a)) (jJ9 h)).1
theorem obsAG_eq {as : List Addr} {D : List DefI} {G : Gs} {g : Addr → Option Obj} {s : Shared} (h : ∀ a, g a = s.heap.get? a) : jV6 as D G g = (hookA as D G).obs s := by
 have e : g = s.heap.get? := funext h
 rw [e] <;> rfl
abbrev lstO (us : List Value) : Obj := { cls := .type "list", data := .seq us.toArray }
def scr (Ps : List Addr) (a : Addr) (us : List Value) (is : List Int) : Hp := fun b => if b ∈ Ps then some (.tbl #[]) else upd (fun _ => none) a (.frz (lstO us) (.lst (is.map V.int))) b
theorem jMa {Ps : List Addr} {a b : Addr} {us : List Value} {is : List Int} (h : b ∈ Ps) : scr Ps a us is b = some (.tbl #[]) := if_pos h
theorem jO0 {Ps : List Addr} {a : Addr} {us : List Value} {is : List Int} (h : a ∉ Ps) : scr Ps a us is a = some (.frz (lstO us) (.lst (is.map V.int))) := (if_neg h).trans way
theorem jLy {Ps : List Addr} {a b : Addr} {us : List Value} {is : List Int} (n : b ∉ Ps) (h : b ≠ a) : scr Ps a us is b = none := (if_neg n).trans (upd_ne h)
abbrev tabO : Obj := { cls := .none, data := .fields #[] }
abbrev Done (s : Shared) (r : Result) (t : Shared) : Prop := r = .ok (.ret (.bool true)) ∧ OldK s.heap t.heap ∧ t.os = s.os ∧ AllBare t.gens
theorem jMq {P : Program} {w : World} {K : PySem.W.Frag} {mg mb : Str → Option Value} {k : Nat} {fa a : Addr} {fd : FuncData} {x : Str} {sp : Sp} {s : Shared} {us : List Value} {is : List Int}
  (X : K.In s.heap) (nl : ∀ b o, K.lookup b = some o → jFf o = true) (hT : ∀ p ∈ tabs K, s.heap.get? p.1 = some tabO ∧ K.lookup p.1 = none ∧ ∃ c, PySem.W.CodeHd s.heap c p.1)
  (hbm : ∃ (bm : Addr) (ob : Obj), mg "__builtins__" = some (.ref bm) ∧ bm ≠ builtinsNs ∧ s.heap.get? bm = some ob ∧ ob.cls = .type "module" ∧ ob.dict = some builtinsNs ∧ ob.data = .plain)
  (g1 : s.heap.Ns mainGlobals mg) (g2 : s.heap.Ns builtinsNs mb) (g3 : ∀ y : Str, y ≠ "__name__" → mb y = bootBuiltins y) (g4 : s.heap.NoLimit) (g5 : s.gens = #[])
  (ha : s.heap.get? a = some (lstO us)) (hi : IntsAre us is) (hl : is.length ≤ sizeLine) (hr : Room k callerA)
  (F : ∀ base : Heap, K.In base → base.Ns mainGlobals mg → (∀ p ∈ tabs K, base.BuiltinsAt mg p.1) → FnG P w K mg base (L2.CX P w) k fa fd [x] sp) (hb : BindsTo s fd ⟨[.ref a], []⟩ [(x, .ref a)])
  (hsp : sp [.ref a] (scr ((tabs K).map (·.1)) a us is) (fun v _ => v = .bl true) fun _ _ _ => False) : codeAny (model P w) callerA (.call (.ref fa) ⟨[.ref a], []⟩) (Done s) s := by
 generalize hPs : (tabs K).map (·.1) = Ps at hsp
 have isT : ∀ b, b ∈ Ps → s.heap.get? b = some tabO ∧ K.lookup b = none ∧ ∃ c, PySem.W.CodeHd s.heap c b := fun b hb => by
  rw [← hPs] at hb
  obtain ⟨p, hp, e⟩ := wbg.mp hb
  rw [← e]
  exact hT p hp
 have aT : a ∉ Ps := fun z => by
  have q := (isT a z).1
  rw [ha] at q
  have z' : Data.seq us.toArray _ = Data.fields #[] := wbe Obj.data (waA q)
  cases z'
 have vals := vals_ints hi
 have keep : ∀ b o, s.heap.get? b = some o → b ≠ a → b ∉ Ps → (hidT s.heap (scr Ps a us is)).get? b = some o := fun b o e n m => hidT_get e (jLy m n)
 have dict : ∀ b (o : Obj) (es : Array DictEntry) (ep : Nat), s.heap.get? b = some o → o.data = .dict es ep → b ≠ a ∧ b ∉ Ps := by
  refine fun b o es ep e q => ⟨?_, fun z => ?_⟩
  ·rintro rfl
   rw [ha] at e
   cases e
   cases q
  ·rw [(isT b z).1] at e
   cases e
   cases q
 have ns : ∀ b (m : Str → Option Value), s.heap.Ns b m → (hidT s.heap (scr Ps a us is)).Ns b m := by
  rintro b m ⟨o, es, ep, e, q, r⟩
  exact ⟨o, es, ep, keep b o e (dict b o es ep e q).1 (dict b o es ep e q).2, q, r⟩
 have kin : K.In (hidT s.heap (scr Ps a us is)) := by
  intro b o e
  refine keep b o (X b o e) ?_ fun z => ?_
  ·rintro rfl
   have e1 := X _ o e
   rw [ha] at e1
   cases e1
   have := nl _ _ e
   simp [jFf] at this
  ·rw [(isT b z).2.1] at e
   cases e
 have mod : Mod K mg (hidT s.heap (scr Ps a us is)) := by
  obtain ⟨mc, c1, c2⟩ := g4
  exact ⟨kin, ns _ _ g1, ⟨mb, ns _ _ g2, g3⟩, ⟨mc, ns _ _ c1, c2⟩⟩
 have hok : HOk P w (scr Ps a us is) s.heap := by
  intro b u e
  by_cases q : b = a
  ·subst q
   rw [jO0 aT] at e
   cases e
   refine ⟨ha, ?_, us, _, vals, ha⟩
   rw [waw]
   exact hl
  ·by_cases m : b ∈ Ps
   ·rw [jMa m] at e
    cases e
    exact (isT b m).1
   ·rw [jLy m q] at e
    cases e
 have env : Env0 P w K mg (hidT s.heap (scr Ps a us is)) callerA [] s (scr Ps a us is) :=
  { frames := rfl, mod := mod, bs := fun b o e => of_hidT e, bsz := by rw [hidT_size]; exact waK _, funs := trivial, frf := fun b z => (nomatch z), hok := hok, bare := .of_eq g5 }
 have bat : ∀ p ∈ tabs K, (hidT s.heap (scr Ps a us is)).BuiltinsAt mg p.1 := fun p hp => by
  obtain ⟨bm, ob, b1, b2, b3, b4, b5, b6⟩ := hbm
  have nT : bm ∉ Ps := fun z => by
   rw [(isT bm z).1] at b3
   cases b3
   cases b6
  have nA : bm ≠ a := fun z => by
   rw [z, ha] at b3
   cases b3
   cases b6
  refine ⟨bm, ob, b1, b2, fun z => ?_, fun z => nT ?_, keep bm ob b3 nA nT, b4, b5, b6⟩
  ·obtain ⟨o, es, ep, e, hd, _⟩ := g1
   rw [← z, b3] at e
   cases e
   rw [b6] at hd
   cases hd
  ·rw [z, ← hPs]
   exact wbg.mpr ⟨p, hp, rfl⟩
 refine wa9 ((F _ kin (ns _ _ g1) bat).run _ _ _ _ _ [.ref a] [.ref a] _ _ hr rfl env hb (.cons rfl .nil) hsp) ?_
 intro r t h
 have hr2 : ∃ u, r = .ok (.ret u) ∧ CE [] P w (scr Ps a us is) s (fun v _ => v = .bl true) u t := by
  rcases r with e | fl
  ·exact (jZ7 (show L2.CX P w [] (scr Ps a us is) s X0 e t from h)).elim
  ·cases fl with
   | ret u => exact ⟨u, rfl, h⟩
   | _ => exact (show False from h).elim
 obtain ⟨u, rfl, v, H', os, bare, un, hok', rv, q⟩ := hr2
 have q : v = .bl true := q
 subst q
 obtain rfl : u = Value.bool true := rv
 have grown : ∀ b ∈ Ps, ∃ more : Array Value, t.heap.get? b = some { cls := .none, data := .fields more } := fun b hb => by
  obtain ⟨more, z⟩ := un.tbls b #[] (jMa hb)
  exact ⟨_, hok' b _ z⟩
 have key : ∀ b o, b ∉ Ps → s.heap.get? b = some o → t.heap.get? b = some o := fun b o nb e => by
  by_cases hba : b = a
  ·subst hba
   rw [ha] at e
   cases e
   exact (hok' _ _ (un.frzs _ _ _ (jO0 aT))).1
  ·exact un.keep b o e (jLy nb hba) (fun z => nomatch z) (fun z => nomatch z)
 refine ⟨rfl, ⟨fun b o e => ?_, fun b o e => ?_⟩, os, bare⟩
 ·by_cases hb : b ∈ Ps
  ·obtain ⟨more, hm⟩ := grown b hb
   obtain ⟨h1, _, c, h3⟩ := isT b hb
   rw [h1] at e
   cases e
   exact .inr (.inl ⟨(h3.tab h1).isCodeTable, rfl, #[], more, rfl, by rw [Array.empty_append]; exact hm⟩)
  ·exact .inl (key b o hb e)
 ·by_cases hb : b ∈ Ps
  ·obtain ⟨more, hm⟩ := grown b hb
   exact ⟨_, hm⟩
  ·exact ⟨o, key b o hb e⟩
theorem jQd {K : PySem.W.Frag} {d : DefI} {f : Addr} {dvs : List V} {fd : FuncData} (hs : d.shp = true) (F : FunD K d.name d.qual d.params d.body d.scope dvs [] f fd) : ∃ dl, Vals dvs dl ∧ ∀ (s : Shared) (us ws zs : List Value) (n : Nat) (ks : List Str) (pl : List PArg), K.In s.heap → us.length = n → ws.length = ks.length →
  plOk d.ps n ks dvs.length pl = true → jAt (us ++ ws) dl pl = some zs → BindsTo s fd ⟨us, ks.zip ws⟩ (d.ps.zip zs) := by
 obtain ⟨p1, p2, p3, p4, p5, _, _, p8, _⟩ := DefI.pars_of hs
 obtain ⟨oc, od, dV, kV, doc, pm, an, cdv, ct, osl, rfl, lk, hcd, hD, hK⟩ := F.ex
 have hdl : ∃ dl : List Value, Vals dvs dl ∧ ∀ (M : Model) (h : Heap), K.In h → ∃ dv : Option (Array Value), (dv.getD #[]).toList = dl ∧ ∀ {α : Type} (k : Option (Array Value) → Sem α) (r : α), PySem.W.Looks M h (k dv) r → PySem.W.Looks M h (seqItems? dV >>= k) r := by
  rcases hD with ⟨rfl, rfl⟩ | ⟨_, T, o, its, n, rfl, lT, oT, rT⟩
  ·exact ⟨[], .nil, fun M h X => ⟨none, rfl, fun k r h => by
    have e : seqItems? Value.none = pure none := rfl
    rw [e, wbu]
    exact h⟩⟩
  ·exact ⟨its, rT, fun M h X => ⟨some its.toArray, by simp, fun k r e => looks_items X lT oT e⟩⟩
 obtain ⟨dl, rd, hl⟩ := hdl
 refine ⟨dl, rd, fun s us ws zs n ks pl X h1 h2 h3 h4 => wbr fun M => ?_⟩
 obtain ⟨dv, e1, e2⟩ := hl M s.heap X
 exact jBu (dv := dv) (dl := dl) p1 p2 p3 p4 p5 h1 h2 rd.length.symm e2 e1 h3 h4
def rx0 : RX := fun _ _ _ _ _ _ _ => False
theorem walkI {l : PySem.W.OpenLaw} {n W N : Nat} {m : List Addr} {q : Program} {loose : List Str} {XP : (Str → Option Value) → Heap → Prop} {dr : DefRec} {D : List DefI} {G : Gs} {x : Str} (hn : l.most = some n) (hn2 : n ≤ sizeLine) (hdf : dr.params.defaults = []) (hdn : dr.name = ("law" : Str))
  (ht : G.txt D = true) (hxo : G.xok l.prog = true) (hG0 : (G.fns.any fun p => p.1 == ("law" : Str) && p.2.1 == [x] && p.2.2.isEmpty) = true) (hr : Room (5 * N + 5) callerA)
  (law : ∀ is : List Int, is.length ≤ n → ∃ C', call (jAx D) W (N + 1) ("", "law") [.lst (is.map .int)] [] = .ok (.bl true) C') :
  PySem.W.WalkO q loose XP (hookA m D G).says l.row.toRowW dr [] (fun f vs => PySem.call f vs) := by
 refine Att.attach_call hn hdf fun w s₀ s₁ mg mb fa o pm cd doc a us is G1 Y ho hd' hcd hmg hobj hints hlen hg => ?_
 obtain ⟨K0, KX0, hobs, nl0⟩ := Y
 have hob1 : (G.fact (fixK G K0) D && jRm G K0) = true := wbe Prod.fst hobs
 have hob2 : G.adrs (fixK G K0) = G.vals D := wbe Prod.snd hobs
 rw [wab] at hob1
 obtain ⟨hob1, hob3⟩ := hob1
 have KX : (fixK G K0).In s₁.heap := fun b o e => KX0 b o (jJu e)
 have nl : ∀ b o, (fixK G K0).lookup b = some o → jFf o = true := fun b o e => nl0 b o (jJu e)
 have hT : ∀ p ∈ tabs (fixK G K0), s₁.heap.get? p.1 = some tabO ∧ (fixK G K0).lookup p.1 = none ∧ ∃ c, PySem.W.CodeHd s₁.heap c p.1 := fun p hp => by
  have h := wag.mp hob3 p hp
  rw [wab, wab] at h
  obtain ⟨⟨h1, h2⟩, h3⟩ := h
  refine ⟨?_, ?_, ?_⟩
  ·split at h3
   ·rename_i ar sl e
    rw [wab] at h3
    have e1 : ar = #[] := Array.isEmpty_iff.mp h3.1
    have e2 : sl = #[] := Array.isEmpty_iff.mp h3.2
    rw [e1, e2] at e
    exact KX0 _ _ e
   ·cases h3
  ·split at h1
   ·assumption
   ·cases h1
  ·obtain ⟨x, _, h⟩ := wax.mp h2
   exact ⟨_, PySem.W.codeHd_of_K KX0 h⟩
 generalize fixK G K0 = K at hob1 hob2 KX nl hT
 have hG : (("law" : Str), [x], ([] : List T)) ∈ G.fns := by
  obtain ⟨p, hp, e⟩ := wax.mp hG0
  simp only [wab, waj, waQ] at e
  obtain ⟨⟨e1, e2⟩, e3⟩ := e
  obtain ⟨p1, p2, p3⟩ := p
  have e1 : p1 = "law" := e1
  have e2 : p2 = [x] := e2
  have e3 : p3 = [] := e3
  rw [← e1, ← e2, ← e3]
  exact hp
 have gf : GF l.prog K mg D G := Gs.gf KX G1.T.g ht hob1 hob2 hxo
 obtain ⟨h0, fa', d, e1, e2, e3, e4, e5, e6⟩ := gf.fns _ hG
 rw [hdn] at hmg
 obtain rfl : fa = fa' := by
  have e1 : mg "law" = some (.ref fa') := e1
  rw [hmg] at e1
  cases e1
  rfl
 obtain ⟨dvs, fd, F, hR⟩ := e6
 obtain ⟨dl, rd, hb⟩ := jQd (jB5 e3) F
 have hdv : dvs.length = 0 := by
  have := (hR (fun _ => none) []).length
  rw [e5] at this
  exact this
 have e4 : d.ps = [x] := e4
 have hbind : BindsTo s₁ fd ⟨[.ref a], []⟩ [(x, .ref a)] := by
  have := hb s₁ [.ref a] [] [.ref a] 1 [] (idPl 1) KX rfl rfl (by
   rw [hdv, e4]
   simp [plOk, idPl, jE3, ixN, ixD, addD, PArg.ix, List.range_succ]) rfl
  rw [e4] at this
  exact this
 have hrun : ∀ base : Heap, K.In base → base.Ns mainGlobals mg → (∀ p ∈ tabs K, base.BuiltinsAt mg p.1) → FnG l.prog w K mg base (L2.CX l.prog w) (5 * N + 5) fa fd [x] (spM K (rxE G.exs) 1 (runM (call (jAx D) W N) W d.fd)) := fun base KB _ hB => by
  have := jEt W (jRq (P := l.prog) (w := w) (base := base) (rx := rxE G.exs) rfl W gf KB hB N) e3 (fun z => gf.lms _ hG _ _ _ e1 e2 z (j0v F) _ KB hB) F
  rw [e4] at this
  exact this
 have hbm : ∃ (bm : Addr) (ob : Obj), mg "__builtins__" = some (.ref bm) ∧ bm ≠ builtinsNs ∧ s₁.heap.get? bm = some ob ∧ ob.cls = .type "module" ∧ ob.dict = some builtinsNs ∧ ob.data = .plain := G1.T.bmain
 have aT : a ∉ (tabs K).map (·.1) := fun z => by
  obtain ⟨p, hp, e⟩ := wbg.mp z
  have q := (hT p hp).1
  rw [e, hobj] at q
  have z' : Data.seq us.toArray _ = Data.fields #[] := wbe Obj.data (waA q)
  cases z'
 refine jMq KX nl hT hbm G1.T.g G1.T.b G1.T.builtins G1.T.nolimit hg hobj hints (wau hlen hn2) hr hrun hbind ?_
 obtain ⟨C', hC⟩ := law is hlen
 rw [jDj h0 (show (("" : Str)) ≠ "!" by decide) e2] at hC
 refine ⟨rfl, fun _ => none, upd (fun _ => none) a (.frz (lstO us) (.lst (is.map V.int))), [], [], [.lst (is.map .int)], ?_, .cons (.lst (.inr ⟨_, way⟩) ?_ ?_) .nil, ?_⟩
 ·refine ⟨fun b u e => ?_, fun b ob u e => ?_, fun b u e => (nomatch (show none = some u from e)), fun i t e => by simp at e, fun i t e => by simp at e, fun i j t t' a e => by simp at e, rfl, fun i t e => by simp at e, List.nodup_nil, waK _, fun b ob u e => (nomatch (show none = some _ from e)), fun p hp => ⟨LamX.TabS.nil (jMa (wbg.mpr ⟨p, hp, rfl⟩)), fun b ps e => ?_, fun b ps e => (nomatch (show none = some _ from e))⟩⟩
  ·by_cases q : b = a
   ·subst q
    rw [way] at e
    cases e
    exact .inl (jO0 aT)
   ·rw [upd_ne q] at e
    cases e
  ·by_cases q : b = a
   ·subst q
    rw [way] at e
    cases e
    exact .inl ⟨_, rfl⟩
   ·rw [upd_ne q] at e
    cases e
  ·by_cases q : b = a
   ·subst q
    rw [way] at e
    cases e
   ·rw [upd_ne q] at e
    cases e
 ·rw [waw]
  exact wau hlen hn2
 ·generalize upd (fun _ => none) a (HO.frz (lstO us) (HO.lst (is.map V.int))) = S
  clear hC hlen hints
  induction is with
  | nil => exact .nil
  | cons i is ih => exact .cons (.int i) ih
 ·rw [hC]
  intro v S' as' H' _ _ _ r
  cases r
  rfl
end SI
namespace SI
open PySem
def jKr (ks : List Str) : FDef := ⟨1, 5, (.cons (.set 1 (.lst .nil))
 (.cons (.for_ (.nm 2) (.of (.prop (.var 0) "Order" "places")) (.cons (.set 3 (.call "hosts_of" (.cons (.var 0) (.cons (.var 2) .nil))))
 (.cons (.set 1 (.bin .Add (.var 1) (.lc [4] (.nm 4) (.of (.prop (.var 0) "Order" "places")) (.cmp .In (.var 4) (.var 3)) (.tup (.one (.var 2) (.one (.var 4) .nil))))))
 .nil)))
 (.cons (.ret (.var 1))
 .nil)))⟩
def jFb (ks : List Str) : FDef := ⟨1, 1, (.cons (.ret (.attr (.var 0) "Order" "spot_row"))
 .nil)⟩
def jK7 (ks : List Str) : FDef := ⟨2, 9, (.cons (.set 2 (.call "nearest_of" (.cons (.var 0) .nil)))
 (.cons (.par [3, 4] (.cons (.lc [5, 6] (.tp [5, 6]) (.of (.var 2)) (.cmp .Eq (.var 5) (.var 1)) (.var 6)) (.cons (.lc [5, 6] (.tp [5, 6]) (.of (.var 2)) (.cmp .Eq (.var 6) (.var 1)) (.var 5)) .nil)))
 (.cons (.ret (.lc2 [7, 8] (.nm 7) (.of (.tup (.one (.var 3) (.one (.var 4) .nil)))) (.cmp .Eq (.bi .len (.cons (.var 7) .nil)) (.con (.int 1))) (.nm 8) (.of (.var 7)) (.con (.bl true)) (.var 8)))
 .nil)))⟩
def jHl (ks : List Str) : FDef := ⟨1, 1, (.cons (.ret (.call "nearest_in" (.cons (.var 0) (.cons (.prop (.var 0) "Order" "places") .nil))))
 .nil)⟩
def jG4 (ks : List Str) : FDef := ⟨2, 7, (.cons (.set 2 (.lst .nil))
 (.cons (.for_ (.nm 3) (.of (.var 1)) (.cons (.set 4 (.lc [5] (.nm 5) (.of (.var 1)) (.call "is_below_of" (.cons (.var 0) (.cons (.var 3) (.cons (.var 5) .nil)))) (.var 5)))
 (.cons (.for_ (.nm 5) (.of (.var 4)) (.cons (.ite (.nt (.bi .any (.cons (.lc [6] (.nm 6) (.of (.var 4)) (.con (.bl true)) (.call "is_below_of" (.cons (.var 0) (.cons (.var 6) (.cons (.var 5) .nil))))) .nil))) (.cons (.app 2 (.tup (.one (.var 3) (.one (.var 5) .nil))))
 .nil) .nil)
 .nil))
 .nil)))
 (.cons (.ret (.var 2))
 .nil)))⟩
def jGr (ks : List Str) : FDef := ⟨3, 3, (.cons (.ret (.cmp .In (.var 2) (.idx (.prop (.var 0) "Order" "above") (.var 1))))
 .nil)⟩
def jF4 (ks : List Str) : FDef := ⟨1, 1, (.cons (.ret (.attr (.var 0) "Order" "over_map"))
 .nil)⟩
def jF6 (ks : List Str) : FDef := ⟨1, 1, (.cons (.ite (.nt (.isi (.var 0) (.cls "Order") ks)) (.cons (.raise "NotAnOrder" ["given"] (.cons (.var 0) .nil))
 .nil) .nil)
 .nil)⟩
def jE4 (ks : List Str) : FDef := ⟨3, 8, (.cons (.ite (.or (.nt (.isi (.var 1) .tuple ks)) (.cmp .Eq (.var 1) (.tup .nil))) (.cons (.raise "InvalidPlaces" ["index"] (.cons (.con .non) .nil))
 .nil) .nil)
 (.cons (.set 3 (.call "wrong_place" (.cons (.var 1) .nil)))
 (.cons (.ite (.cmp .IsNot (.var 3) (.con .non)) (.cons (.raise "InvalidPlaces" ["index"] (.cons (.var 3) .nil))
 .nil) .nil)
 (.cons (.ite (.nt (.isi (.var 2) .tuple ks)) (.cons (.raise "InvalidSteps" ["index"] (.cons (.con .non) .nil))
 .nil) .nil)
 (.cons (.set 3 (.call "wrong_step" (.cons (.var 1) (.cons (.var 2) .nil))))
 (.cons (.ite (.cmp .IsNot (.var 3) (.con .non)) (.cons (.raise "InvalidSteps" ["index"] (.cons (.var 3) .nil))
 .nil) .nil)
 (.cons (.setAt "Order" "spot_row" (.var 1))
 (.cons (.setAt "Order" "rung_row" (.var 2))
 (.cons (.set 4 (.dsp .nil))
 (.cons (.for_ (.nm 5) (.of (.var 1)) (.cons (.set 6 (.call "reached_from" (.cons (.var 5) (.cons (.var 2) .nil))))
 (.cons (.setIx 4 (.var 5) (.bi .tuple (.cons (.lc [7] (.nm 7) (.of (.var 1)) (.cmp .In (.var 7) (.var 6)) (.var 7)) .nil)))
 .nil)))
 (.cons (.setAt "Order" "over_map" (.var 4))
 .nil)))))))))))⟩
def jG1 (ks : List Str) : FDef := ⟨2, 4, (.cons (.for_ (.tp [2, 3]) (.enm (.var 1)) (.cons (.ite (.or (.nt (.call "are_two" (.cons (.var 0) (.cons (.var 3) .nil)))) (.cmp .In (.var 3) (.slc false true (.var 1) (.con .non) (.var 2)))) (.cons (.ret (.var 2))
 .nil) .nil)
 (.cons (.ite (.cmp .In (.idx (.var 3) (.con (.int 0))) (.call "reached_from" (.cons (.idx (.var 3) (.con (.int 1))) (.cons (.slc false true (.var 1) (.con .non) (.var 2)) .nil)))) (.cons (.ret (.var 2))
 .nil) .nil)
 .nil)))
 (.cons (.ret (.con .non))
 .nil))⟩
def jE8 (ks : List Str) : FDef := ⟨2, 7, (.cons (.par [2, 3] (.cons (.lst .nil) (.cons (.lst (.one (.var 0) .nil)) .nil)))
 (.cons (.whl (.cmp .NotEq (.var 3) (.lst .nil)) (.cons (.set 3 (.lc [4, 5] (.tp [4, 5]) (.of (.var 1)) (.and (.cmp .In (.var 4) (.var 3)) (.cmp .NotIn (.var 5) (.var 2))) (.var 5)))
 (.cons (.set 3 (.lc [6, 5] (.tp [6, 5]) (.enm (.var 3)) (.cmp .NotIn (.var 5) (.slc false true (.var 3) (.con .non) (.var 6))) (.var 5)))
 (.cons (.set 2 (.bin .Add (.var 2) (.var 3)))
 .nil))))
 (.cons (.ret (.var 2))
 .nil)))⟩
def jNw (ks : List Str) : FDef := ⟨2, 3, (.cons (.ite (.or (.nt (.isi (.var 1) .tuple ks)) (.or (.cmp .NotEq (.bi .len (.cons (.var 1) .nil)) (.con (.int 2))) (.nt (.bi .all (.cons (.lc [2] (.nm 2) (.of (.var 1)) (.con (.bl true)) (.isi (.var 2) .str ks)) .nil))))) (.cons (.ret (.con (.bl false)))
 .nil) .nil)
 (.cons (.ret (.and (.cmp .In (.idx (.var 1) (.con (.int 0))) (.var 0)) (.and (.cmp .In (.idx (.var 1) (.con (.int 1))) (.var 0)) (.cmp .NotEq (.idx (.var 1) (.con (.int 0))) (.idx (.var 1) (.con (.int 1)))))))
 .nil))⟩
def jFy (ks : List Str) : FDef := ⟨1, 3, (.cons (.for_ (.tp [1, 2]) (.enm (.var 0)) (.cons (.ite (.or (.cmp .Eq (.var 1) (.con (.int 6))) (.or (.nt (.call "is_name" (.cons (.var 2) .nil))) (.cmp .In (.var 2) (.slc false true (.var 0) (.con .non) (.var 1))))) (.cons (.ret (.var 1))
 .nil) .nil)
 .nil))
 (.cons (.ret (.con .non))
 .nil))⟩
def jM3 (ks : List Str) : FDef := ⟨1, 2, (.cons (.ret (.and (.isi (.var 0) .str ks) (.and (.chain .Lt .Lt (.con (.int 0)) (.bi .len (.cons (.var 0) .nil)) (.con (.int 9))) (.bi .all (.cons (.lc [1] (.nm 1) (.of (.var 0)) (.con (.bl true)) (.cmp .In (.var 1) (.con (.str "abcdefghijklmnopqrstuvwxyz")))) .nil)))))
 .nil)⟩
def jHs (ks : List Str) : FDef := ⟨3, 6, (.cons (.set 3 (.bin .Add (.var 1) (.call "_law_sip" (.cons (.var 0) (.cons (.bin .Add (.bin .Sub (.var 2) (.var 1)) (.con (.int 1))) .nil)))))
 (.cons (.par [4, 5] (.cons (.call "_law_labels" (.cons (.var 0) (.cons (.var 3) .nil))) (.cons (.call "_law_links" (.cons (.var 0) (.cons (.var 3) .nil))) .nil)))
 (.cons (.ret (.lst (.one (.var 4) (.one (.call "_law_closed" (.cons (.var 3) (.cons (.var 5) .nil))) (.one (.call "_law_ground" (.cons (.var 0) (.cons (.var 4) (.cons (.var 5) .nil)))) .nil)))))
 .nil)))⟩
def jK4 (ks : List Str) : FDef := ⟨2, 3, (.cons (.setIx 0 (.con (.int 2)) (.bin .Add (.idx (.var 0) (.con (.int 2))) (.con (.int 1))))
 (.cons (.ite (.cmp .Gt (.idx (.var 0) (.con (.int 0))) (.con (.int 0))) (.cons (.dvm 0 0 2 (.idx (.var 0) (.con (.int 0))) (.var 1))
 (.cons (.ret (.var 2))
 .nil)) .nil)
 (.cons (.setIx 0 (.con (.int 1)) (.bin .Mod (.bi .int (.cons (.bin .Add (.bin .Mult (.idx (.var 0) (.con (.int 1))) (.con (.int 48271))) (.bin .Mult (.con (.int 6089)) (.idx (.var 0) (.con (.int 2))))) .nil)) (.con (.int 2147483477))))
 (.cons (.ret (.bin .Mod (.bi .int (.cons (.bin .FloorDiv (.idx (.var 0) (.con (.int 1))) (.con (.int 1024))) .nil)) (.var 1)))
 .nil))))⟩
def jHm (ks : List Str) : FDef := ⟨2, 8, (.cons (.par [2, 3, 4] (.cons (.call "_law_row" (.cons (.var 0) (.cons (.var 1) .nil))) (.cons (.bin .Add (.con (.int 1)) (.call "_law_sip" (.cons (.var 0) (.cons (.con (.int 3)) .nil)))) (.cons (.lst .nil) .nil))))
 (.cons (.set 5 (.cmp .Eq (.call "_law_sip" (.cons (.var 0) (.cons (.con (.int 3)) .nil))) (.con (.int 0))))
 (.cons (.for_ (.nm 6) (.rng1 (.var 1)) (.cons (.for_ (.nm 7) (.rng2 (.bin .Add (.var 6) (.con (.int 1))) (.var 1)) (.cons (.ite (.and (.cmp .Lt (.call "_law_sip" (.cons (.var 0) (.cons (.con (.int 5)) .nil))) (.bin .Add (.var 3) (.con (.int 1)))) (.or (.nt (.var 5)) (.chain .Lt .LtE (.bi .int (.cons (.var 6) .nil)) (.bin .FloorDiv (.var 1) (.con (.int 2))) (.var 7)))) (.cons (.app 4 (.tup (.one (.idx (.var 2) (.var 6)) (.one (.idx (.var 2) (.var 7)) .nil))))
 .nil) .nil)
 .nil))
 .nil))
 (.cons (.ret (.var 4))
 .nil))))⟩
def jKn (ks : List Str) : FDef := ⟨2, 4, (.cons (.set 2 (.lst .nil))
 (.cons (.for_ (.nm 3) (.rng1 (.var 1)) (.cons (.ins 2 (.call "_law_sip" (.cons (.var 0) (.cons (.bin .Add (.var 3) (.con (.int 1))) .nil))) (.var 3))
 .nil))
 (.cons (.ret (.var 2))
 .nil)))⟩
def jGk (ks : List Str) : FDef := ⟨2, 6, (.cons (.set 2 (.con (.str "abcdefghijklmnopqrstuvwxyz")))
 (.cons (.ite (.cmp .Eq (.call "_law_sip" (.cons (.var 0) (.cons (.con (.int 3)) .nil))) (.con (.int 0))) (.cons (.ret (.slc false true (.lst (.one (.con (.str "places")) (.one (.con (.str "a")) (.one (.con (.str "still")) (.one (.con (.str "least")) (.one (.con (.str "seat")) (.one (.con (.str "undo")) .nil))))))) (.con .non) (.var 1)))
 .nil) .nil)
 (.cons (.par [3, 4] (.cons (.idx (.lst (.one (.con (.str "")) (.one (.con (.str "x")) (.one (.con (.str "abc")) .nil)))) (.call "_law_sip" (.cons (.var 0) (.cons (.con (.int 3)) .nil)))) (.cons (.lst .nil) .nil)))
 (.cons (.for_ (.nm 5) (.rng1 (.var 1)) (.cons (.app 4 (.bin .Add (.var 3) (.idx (.var 2) (.var 5))))
 .nil))
 (.cons (.ret (.ite (.cmp .Eq (.call "_law_sip" (.cons (.var 0) (.cons (.con (.int 2)) .nil))) (.con (.int 0))) (.rev (.var 4)) (.var 4)))
 .nil)))))⟩
def jF8 (ks : List Str) : FDef := ⟨3, 5, (.cons (.ret (.new "Order" [.arg 0, .arg 1] (.cons (.bi .tuple (.cons (.var 1) .nil)) (.cons (.bi .tuple (.cons (.lc [3, 4] (.tp [3, 4]) (.of (.call "_law_mixed" (.cons (.var 0) (.cons (.var 2) .nil)))) (.con (.bl true)) (.tup (.one (.idx (.var 1) (.var 3)) (.one (.idx (.var 1) (.var 4)) .nil)))) .nil)) .nil))))
 .nil)⟩
def jG7 (ks : List Str) : FDef := ⟨2, 4, (.cons (.set 2 (.lst .nil))
 (.cons (.for_ (.nm 3) (.of (.var 1)) (.cons (.ins 2 (.call "_law_sip" (.cons (.var 0) (.cons (.bin .Add (.bi .len (.cons (.var 2) .nil)) (.con (.int 1))) .nil))) (.var 3))
 .nil))
 (.cons (.ret (.var 2))
 .nil)))⟩
def jFx (ks : List Str) : FDef := ⟨2, 8, (.cons (.set 2 (.bi .sortedSet (.cons (.var 1) .nil)))
 (.cons (.for_ (.nm 3) (.rng1 (.var 0)) (.cons (.set 4 (.lc [5, 6] (.tp [5, 6]) (.of (.var 2)) (.cmp .Eq (.var 6) (.var 3)) (.var 5)))
 (.cons (.set 7 (.lc [5, 6] (.tp [5, 6]) (.of (.var 2)) (.cmp .Eq (.var 5) (.var 3)) (.var 6)))
 (.cons (.for_ (.nm 5) (.of (.var 4)) (.cons (.set 2 (.bin .Add (.var 2) (.lc [6] (.nm 6) (.of (.var 7)) (.cmp .NotIn (.tup (.one (.var 5) (.one (.var 6) .nil))) (.var 2)) (.tup (.one (.var 5) (.one (.var 6) .nil))))))
 .nil))
 .nil))))
 (.cons (.ret (.bi .sorted (.cons (.var 2) .nil)))
 .nil)))⟩
def jHq (ks : List Str) : FDef := ⟨3, 6, (.cons (.set 3 (.lst .nil))
 (.cons (.for_ (.nm 4) (.of (.var 2)) (.cons (.set 3 (.bin .Add (.var 3) (.lc [5] (.nm 5) (.of (.call "_law_hosts" (.cons (.var 0) (.cons (.var 1) (.cons (.var 2) (.cons (.var 4) .nil)))))) (.con (.bl true)) (.tup (.one (.var 4) (.one (.var 5) .nil))))))
 .nil))
 (.cons (.ret (.var 3))
 .nil)))⟩
def jHa (ks : List Str) : FDef := ⟨4, 11, (.cons (.set 4 (.lc [5] (.nm 5) (.of (.var 2)) (.cmp .In (.tup (.one (.var 3) (.one (.var 5) .nil))) (.var 1)) (.var 5)))
 (.cons (.set 6 (.lc [7] (.nm 7) (.of (.var 2)) (.cmp .In (.tup (.one (.var 7) (.one (.var 3) .nil))) (.var 1)) (.var 7)))
 (.cons (.set 8 (.lc [5] (.nm 5) (.of (.var 4)) (.cmp .Eq (.lc [9] (.nm 9) (.of (.var 4)) (.cmp .In (.tup (.one (.var 9) (.one (.var 5) .nil))) (.var 1)) (.var 9)) (.lst .nil)) (.var 5)))
 (.cons (.set 10 (.lc [7] (.nm 7) (.of (.var 6)) (.cmp .Eq (.lc [9] (.nm 9) (.of (.var 6)) (.cmp .In (.tup (.one (.var 7) (.one (.var 9) .nil))) (.var 1)) (.var 9)) (.lst .nil)) (.var 7)))
 (.cons (.ret (.bi .sorted (.cons (.bin .Add (.ite (.cmp .Eq (.bi .len (.cons (.var 8) .nil)) (.con (.int 1))) (.var 8) (.lst .nil)) (.ite (.cmp .Eq (.bi .len (.cons (.var 10) .nil)) (.con (.int 1))) (.var 10) (.lst .nil))) .nil)))
 .nil)))))⟩
def jKs (ks : List Str) : FDef := ⟨2, 5, (.cons (.set 2 (.ite (.cmp .Lt (.var 1) (.bi .len (.cons (.var 0) .nil))) (.idx (.var 0) (.var 1)) (.bin .Add (.var 1) (.con (.int 2)))))
 (.cons (.set 3 (.bin .Add (.con (.int 160001)) (.bin .Mult (.con (.int 5003)) (.var 1))))
 (.cons (.for_ (.nm 4) (.of (.bin .Add (.slc false true (.var 0) (.con .non) (.con (.int 4))) (.lst (.one (.var 2) .nil)))) (.cons (.set 3 (.bin .Mod (.bi .int (.cons (.bin .Add (.bin .Mult (.var 3) (.con (.int 26021))) (.var 4)) .nil)) (.con (.int 2147483477))))
 .nil))
 (.cons (.ret (.cel (.cons (.ite (.or (.cmp .Lt (.var 2) (.con (.int 0))) (.cmp .GtE (.var 2) (.bin .Pow (.con (.int 10)) (.con (.int 18))))) (.bi .abs (.cons (.var 2) .nil)) (.con (.int 0))) (.cons (.var 3) (.cons (.con (.int 0)) .nil)))))
 .nil))))⟩
def jG2 (ks : List Str) : FDef := ⟨1, 4, (.cons (.par [1, 2] (.cons (.lst .nil) (.cons (.var 0) .nil)))
 (.cons (.whl (.cmp .NotEq (.call "loose_of" (.cons (.var 2) .nil)) (.lst .nil)) (.cons (.set 3 (.idx (.call "loose_of" (.cons (.var 2) .nil)) (.con (.int 0))))
 (.cons (.app 1 (.var 3))
 (.cons (.set 2 (.call "without_places" (.cons (.var 2) (.cons (.tup (.one (.idx (.var 3) (.con (.int 0))) .nil)) .nil))))
 .nil))))
 (.cons (.ret (.var 1))
 .nil)))⟩
def jD1 (ks : List Str) : FDef := ⟨2, 4, (.cons (.ite (.cmp .Eq (.bi .len (.cons (.var 1) .nil)) (.con (.int 0))) (.cons (.ret (.var 0))
 .nil) .nil)
 (.cons (.set 2 (.bi .tuple (.cons (.lc [3] (.nm 3) (.of (.prop (.var 0) "Order" "places")) (.cmp .NotIn (.var 3) (.var 1)) (.var 3)) .nil)))
 (.cons (.ret (.new "Order" [.arg 0, .arg 1] (.cons (.var 2) (.cons (.bi .tuple (.cons (.call "nearest_in" (.cons (.var 0) (.cons (.var 2) .nil))) .nil)) .nil))))
 .nil)))⟩
def jGv (ks : List Str) : FDef := ⟨1, 1, (.cons (.ret (.bi .len (.cons (.attr (.var 0) "Order" "spot_row") .nil)))
 .nil)⟩
def jLr (ks : List Str) : FDef := ⟨2, 4, (.cons (.ret (.call "without_places" (.cons (.var 0) (.cons (.bi .tuple (.cons (.lc [2, 3] (.tp [2, 3]) (.of (.var 1)) (.con (.bl true)) (.var 2)) .nil)) .nil))))
 .nil)⟩
def Ok0 {α : Type} (m : M α) (C : jAa) (Q : α → jAa → Prop) : Prop := match m C with
 | .ok a C' => Q a C'
 | _ => False
section
variable {α β : Type} {m : M α} {C : jAa} {Q Q' : α → jAa → Prop} {f : α → M β} {R : β → jAa → Prop} {w : String} {Φ : Calls} {E : Env}
theorem jT6 (h : ∀ a D, Q a D ↔ Q' a D) : Ok0 m C Q ↔ Ok0 m C Q' := by
 have : Q = Q' := by funext a D; exact propext (h a D)
 subst this
 rfl
theorem jPb (h : Ok0 m C Q) (k : ∀ a C', Q a C' → Q' a C') : Ok0 m C Q' := by
 unfold Ok0 at *
 cases e : m C with
 | ok a C' => rw [e] at h; exact k a C' h
 | exc => rw [e] at h; exact h
 | stuck => rw [e] at h; exact h
theorem j1c (e : m C = .ok a C') (h : Q a C') : Ok0 m C Q := by unfold Ok0; rw [e]; exact h
theorem jVe : Ok0 m C Q ↔ ∃ a C', m C = .ok a C' ∧ Q a C' := by
 unfold Ok0
 cases e : m C with
 | ok a C' => exact ⟨fun h => ⟨a, C', rfl, h⟩, fun ⟨b, D, h1, h2⟩ => by cases h1; exact h2⟩
 | exc => exact ⟨fun h => h.elim, fun ⟨b, D, h1, h2⟩ => by cases h1⟩
 | stuck => exact ⟨fun h => h.elim, fun ⟨b, D, h1, h2⟩ => by cases h1⟩
theorem jQq {a : α} : Ok0 (M.pure a) C Q ↔ Q a C := Iff.rfl
theorem jAe : Ok0 (M.bind m f) C R ↔ Ok0 m C fun a C' => Ok0 (f a) C' R := by
 unfold Ok0 M.bind
 cases m C <;> rfl
theorem jV9 {m : M (List T)} {Q : T → jAa → Prop} : Ok0 (jA4 (jAh m)) C Q ↔ Ok0 (jA4 m) C Q := by
 have e : ∀ m : M (List T), jA4 m = M.bind m fun r => if szOk r.length then M.pure (.lst r) else stuck "size" := fun _ => rfl
 rw [e, e, jAe, jAe]
 unfold Ok0 jAh
 cases m C <;> rfl
theorem jQ1 {a : α} : Ok0 (lift w (some a)) C Q ↔ Q a C := Iff.rfl
theorem jPk {Q : Unit → jAa → Prop} : Ok0 (need w true) C Q ↔ Q () C := Iff.rfl
theorem jM6 {t : T} {Q : T → jAa → Prop} : Ok0 (deref t) C Q ↔ Q (jAu C t) C := Iff.rfl
theorem jL1 : Ok0 (jAh m) C Q ↔ Ok0 m C Q := by
 unfold Ok0 jAh
 cases m C <;> rfl
theorem jTf {i : Nat} {Q : T → jAa → Prop} : Ok0 (ev Φ (.var i) E) C Q ↔ Ok0 (lift "var" (getE E i)) C Q := by rfl
theorem jVt {t : T} {Q : T → jAa → Prop} : Ok0 (ev Φ (.con t) E) C Q ↔ Q t C := by rfl
theorem jU9 {op : Operator} {a b : Ex} {Q : T → jAa → Prop} : Ok0 (ev Φ (.bin op a b) E) C Q ↔ Ok0 (ev Φ a E) C fun x C => Ok0 (ev Φ b E) C fun y C => Ok0 (lift "bin" (binT op x y)) C Q := by simp only [jSy, jAe]
theorem jU0 {a : Ex} {Q : T → jAa → Prop} : Ok0 (ev Φ (.neg a) E) C Q ↔ Ok0 (ev Φ a E) C fun x C => Ok0 (lift "neg" ((intT x).map fun i => .int (-i))) C Q := by simp only [jRu, jAe]
theorem jY7 {a : Ex} {Q : T → jAa → Prop} : Ok0 (ev Φ (.nt a) E) C Q ↔ Ok0 (ev Φ a E) C fun x C => Ok0 (lift "truth" (truT x)) C fun b C => Q (.bl (!b)) C := by simp only [jQr, truM, jAe]; rfl
theorem jUd {op : CmpOp} {a b : Ex} {Q : T → jAa → Prop} : Ok0 (ev Φ (.cmp op a b) E) C Q ↔ Ok0 (ev Φ a E) C fun x C => Ok0 (ev Φ b E) C fun y C => Ok0 (lift "cmp" (cmpT op x y)) C fun k C => Q (.bl k) C := by simp only [jFh, cmpM, jAe]; rfl
theorem jT9 {a b : Ex} {Q : T → jAa → Prop} : Ok0 (ev Φ (.and a b) E) C Q ↔ Ok0 (ev Φ a E) C fun x C => Ok0 (lift "truth" (truT x)) C fun k C => Ok0 (if k = true then ev Φ b E else M.pure x) C Q := by simp only [jHr, truM, jAe]
theorem j1d {a b : Ex} {Q : T → jAa → Prop} : Ok0 (ev Φ (.or a b) E) C Q ↔ Ok0 (ev Φ a E) C fun x C => Ok0 (lift "truth" (truT x)) C fun k C => Ok0 (if k = true then M.pure x else ev Φ b E) C Q := by simp only [jUl, truM, jAe]
theorem jTx {es : Els} {Q : T → jAa → Prop} : Ok0 (ev Φ (.tup es) E) C Q ↔ Ok0 (evL Φ es E) C fun ts C => Ok0 (if szOk ts.length = true then M.pure (.tup ts) else stuck "size") C Q := by simp only [jSs, jAe]
theorem jW5 {es : Els} {Q : T → jAa → Prop} : Ok0 (ev Φ (.lst es) E) C Q ↔ Ok0 (evL Φ es E) C fun ts C => Ok0 (if szOk ts.length = true then M.pure (.lst ts) else stuck "size") C Q := by simp only [jL0, jAe]
theorem j3l  {Q : T → jAa → Prop} : Ok0 (ev Φ (.dsp .nil) E) C Q ↔ Q (.dic [] []) C := by simp only [jMj, jAe]; exact Iff.rfl
theorem jUh {a b : Ex} {Q : T → jAa → Prop} : Ok0 (ev Φ (.idx a b) E) C Q ↔ Ok0 (ev Φ a E) C fun x C => Ok0 (ev Φ b E) C fun y C => Ok0 (lift "idx" (idxT (jAu C x) y)) C Q := by simp only [jRs, jM6, jAe]
theorem jTs {l h : Bool} {a b c : Ex} {Q : T → jAa → Prop} : Ok0 (ev Φ (.slc l h a b c) E) C Q ↔ Ok0 (ev Φ a E) C fun x C => Ok0 (jCg l (ev Φ b E)) C fun l C => Ok0 (jCg h (ev Φ c E)) C fun h C => Ok0 (lift "slc" (slcT x l h)) C Q := by simp only [jS0, jAe]
theorem jPj {f : Str} {es : Exs} {Q : T → jAa → Prop} : Ok0 (ev Φ (.call f es) E) C Q ↔ Ok0 (evS Φ es E) C fun us C => Ok0 (Φ ("", f) us) C Q := by simp only [jNa, jAe]
theorem j05 {b : Bi} {es : Exs} {Q : T → jAa → Prop} : Ok0 (ev Φ (.bi b es) E) C Q ↔ Ok0 (evS Φ es E) C fun ts C => Ok0 (lift "bi" (biT b ts)) C Q := by simp only [jOg, jAe]
theorem j6x {a : Ex} {ty : Ty} {ks : List Str} {Q : T → jAa → Prop} : Ok0 (ev Φ (.isi a ty ks) E) C Q ↔ Ok0 (ev Φ a E) C fun x C => Ok0 (lift "isi" (isiT ks x ty)) C fun b C => Q (.bl b) C := by simp only [jMo, jAe]; rfl
theorem j12 {ws : List Nat} {tg : Tg} {src : Src} {cond elt : Ex} {Q : T → jAa → Prop} : Ok0 (ev Φ (.lc ws tg src cond elt) E) C Q ↔ Ok0 (evR Φ src E) C fun xs C => Ok0 (jA4 (jA1 (lcF Φ ws tg cond elt E) xs)) C Q := by simp only [jXs, jAe, jV9]
theorem j30 {a b : Ex} {Q : T → jAa → Prop} : Ok0 (ev Φ (.dsp (.star a (.star b .nil))) E) C Q ↔ Ok0 (ev Φ a E) C fun x C => Ok0 (lift "dict" (dicT x)) C fun p C => Ok0 (need "size" (szOk (0 + p.1.length))) C fun _ C => Ok0 (ev Φ b E) C fun y C => Ok0 (lift "dict" (dicT y)) C fun q C => Ok0 (need "size" (szOk ((jAi p.1 p.2 ([], [])).1.length + q.1.length))) C fun _ C => Ok0 (need "size" (szOk (jAi q.1 q.2 (jAi p.1 p.2 ([], []))).1.length)) C fun _ C => Q (.dic (jAi q.1 q.2 (jAi p.1 p.2 ([], []))).1 (jAi q.1 q.2 (jAi p.1 p.2 ([], []))).2) C := by simp only [jMd, jAe]; rfl
theorem j4d {acc : Str} {Q : Str → jAa → Prop} : Ok0 (evF Φ .nil E acc) C Q ↔ Q acc C := Iff.rfl
section
variable {Q : List T → jAa → Prop}
theorem jPc : Ok0 (evS Φ .nil E) C Q ↔ Q [] C := Iff.rfl
theorem jQ4 {e : Ex} {es : Exs} : Ok0 (evS Φ (.cons e es) E) C Q ↔ Ok0 (ev Φ e E) C fun x C => Ok0 (evS Φ es E) C fun r C => Q (x :: r) C := by simp only [jA5, jAe]; rfl
theorem jP8 : Ok0 (evL Φ .nil E) C Q ↔ Q [] C := Iff.rfl
theorem jPq {e : Ex} {es : Els} : Ok0 (evL Φ (.one e es) E) C Q ↔ Ok0 (ev Φ e E) C fun x C => Ok0 (evL Φ es E) C fun r C => Q (x :: r) C := by simp only [jEd, jAe]; rfl
theorem j3f {e : Ex} {es : Els} : Ok0 (evL Φ (.star e es) E) C Q ↔ Ok0 (ev Φ e E) C fun x C => Ok0 (lift "star" (items x)) C fun xs C => Ok0 (evL Φ es E) C fun r C => Q (xs ++ r) C := by simp only [jGi, jAe]; rfl
theorem jQl {e : Ex} : Ok0 (evR Φ (.of e) E) C Q ↔ Ok0 (ev Φ e E) C fun t C => Ok0 (jFp t) C Q := by simp only [jSf, jAe]
theorem jPn {e : Ex} : Ok0 (evR Φ (.rng1 e) E) C Q ↔ Ok0 (ev Φ e E) C fun t C => Ok0 (jFs t) C Q := by simp only [jI1, jAe]
theorem j4p {e : Ex} : Ok0 (evR Φ (.enm e) E) C Q ↔ Ok0 (ev Φ e E) C fun t C => Ok0 (lift "enum" (items t)) C fun xs C => Q (xs.zipIdx.map fun p => .tup [.int p.2, p.1]) C := by simp only [jNm, jAe]; rfl
end
theorem jM7 {m : M T} {Q : Option Int → jAa → Prop} : Ok0 (jCg false m) C Q ↔ Q none C := Iff.rfl
theorem jNz {m : M T} {Q : Option Int → jAa → Prop} : Ok0 (jCg true m) C Q ↔ Ok0 m C fun t C => Ok0 (lift "part" (intT t)) C fun i C => Q (some i) C := by
 unfold jCg
 rw [if_pos rfl]
 simp only [jAe]
 rfl
section
variable {W : Nat} {Q : RS → jAa → Prop}
theorem jW8 : Ok0 (exS Φ W .nil E) C Q ↔ Q (.nx E) C := Iff.rfl
theorem jO9 {s : SI.St} {r : Ss} : Ok0 (exS Φ W (.cons s r) E) C Q ↔ Ok0 (ex Φ W s (frzE (jA7 s) E)) C fun o C => Ok0 (jOo Φ W r o) C Q := by simp only [jEa, jAe]
theorem jVf {i : Nat} {e : Ex} : Ok0 (ex Φ W (.set i e) E) C Q ↔ Ok0 (ev Φ e E) C fun t C => Q (.nx (E.set i (jAc e t))) C := by simp only [jM2, jAe]; rfl
theorem j70 {is : List Nat} {es : Exs} : Ok0 (ex Φ W (.par is es) E) C Q ↔ Ok0 (evS Φ es E) C fun ts C => Ok0 (lift "par" (jBh is (jBe es ts) E)) C fun E C => Q (.nx E) C := by simp only [jLm, jAe]; rfl
theorem j89 {h k j : Nat} {a b : Ex} : Ok0 (ex Φ W (.dvm h k j a b) E) C Q ↔ Ok0 (ev Φ a E) C fun x C => Ok0 (ev Φ b E) C fun y C => Ok0 (lift "dvm" (intT x)) C fun m C => Ok0 (lift "dvm" (intT y)) C fun n C => Ok0 (need "dvm" (decide (0 < n) && decide (n < 1073741824))) C fun _ C => Ok0 (atX E h) C fun p C => Ok0 (lift "dvm" (lstT p.1)) C fun xs C => Ok0 (need "dvm" (decide (k < xs.length))) C fun _ C => Ok0 (p.2 (.lst (xs.set k (.int (m / n))))) C fun E C => Q (.nx (E.set j (.sh (.int (m % n))))) C := by simp only [jSo, jAe]; rfl
theorem j71 {x : Nat} {e : Ex} : Ok0 (ex Φ W (.app x e) E) C Q ↔ Ok0 (atX E x) C fun p0 C => Ok0 (lift "app" (lstT p0.1)) C fun _ C => Ok0 (ev Φ e E) C fun t C => Ok0 (atX E x) C fun p C => Ok0 (lift "app" (lstT p.1)) C fun xs C => Ok0 (need "size" (szOk (xs.length + 1))) C fun _ C => Ok0 (p.2 (.lst (xs ++ [t]))) C fun E C => Q (.nx E) C := by simp only [jNo, jAe]; rfl
theorem j5f {x : Nat} {i e : Ex} : Ok0 (ex Φ W (.ins x i e) E) C Q ↔ Ok0 (atX E x) C fun p0 C => Ok0 (lift "ins" (lstT p0.1)) C fun _ C => Ok0 (ev Φ i E) C fun k C => Ok0 (ev Φ e E) C fun t C => Ok0 (atX E x) C fun p C => Ok0 (lift "ins" (lstT p.1)) C fun xs C => Ok0 (lift "ins" (intT k)) C fun i C => Ok0 (need "ins" (decide (0 ≤ i) && decide (i ≤ xs.length) && szOk (xs.length + 1))) C fun _ C => Ok0 (p.2 (.lst (xs.take i.toNat ++ t :: xs.drop i.toNat))) C fun E C => Q (.nx E) C := by simp only [jS4, jAe]; rfl
theorem j9k {e : Ex} : Ok0 (ex Φ W (.exp e) E) C Q ↔ Ok0 (ev Φ e E) C fun _ C => Q (.nx E) C := by simp only [jL2, jAe]; rfl
theorem jWv {e : Ex} : Ok0 (ex Φ W (.ret e) E) C Q ↔ Ok0 (ev Φ e E) C fun t C => Q (.rt t) C := by simp only [jJ4, jAe]; rfl
theorem jPr {c : Ex} {a b : Ss} : Ok0 (ex Φ W (.ite c a b) E) C Q ↔ Ok0 (ev Φ c E) C fun t C => Ok0 (lift "truth" (truT t)) C fun k C => Ok0 (if k = true then exS Φ W a E else exS Φ W b E) C Q := by simp only [jS9, tst, truM, jAe]
theorem jUw {tg : Tg} {src : Src} {b : Ss} : Ok0 (ex Φ W (.for_ tg src b) E) C Q ↔ Ok0 (evR Φ src E) C fun xs C => Ok0 (forL (forF Φ W tg b) xs E) C Q := by simp only [jRl, jAe]
theorem j8r {c : Ex} {b : Ss} : Ok0 (ex Φ W (.whl c b) E) C Q ↔ Ok0 (whlL (whlC Φ c) (fun E => exS Φ W b E) W E) C Q := by rfl
end
end
theorem j40 {E : Env} {x : Nat} {t : T} {C : jAa} {Q : T × (T → M Env) → jAa → Prop} (h : E[x]? = some (.ow t)) : Ok0 (atX E x) C Q ↔ Q (t, fun t' => M.pure (E.set x (.ow t'))) C := by
 unfold atX
 rw [h]
 exact Iff.rfl
theorem j6m {E : Env} {x n : Nat} {C : jAa} {Q : T × (T → M Env) → jAa → Prop} (h : E[x]? = some (.sh (.ref n))) : Ok0 (atX E x) C Q ↔ Q (C.getD n .non, fun t' => M.bind (upC n t') fun _ => M.pure E) C := by
 unfold atX
 rw [h]
 exact Iff.rfl
structure Hng {α : Type} (Q : α → jAa → Prop) : Type
def Ok {α : Type} (m : M α) (C : jAa) (Q : α → jAa → Prop) (_ : Hng Q := ⟨⟩) : Prop := Ok0 m C Q
section
variable {α β : Type} {m : M α} {C : jAa} {Q Q' : α → jAa → Prop} {f : α → M β} {R : β → jAa → Prop} {w : String} {Φ : Calls} {E : Env}
theorem jEr (h : ∀ a D, Q a D ↔ Q' a D) : Ok m C Q ↔ Ok m C Q' := jT6 h
theorem jGc (h : Ok m C Q) (k : ∀ a C', Q a C' → Q' a C') : Ok m C Q' := jPb h k
theorem j5o (e : m C = .ok a C') (h : Q a C') : Ok m C Q := j1c e h
theorem jOj : Ok m C Q ↔ ∃ a C', m C = .ok a C' ∧ Q a C' := jVe 
@[simp] theorem jM4 {a : α} : Ok (M.pure a) C Q ↔ Q a C := jQq 
@[simp] theorem jA8 : Ok (M.bind m f) C R ↔ Ok m C fun a C' => Ok (f a) C' R := jAe 
@[simp] theorem j7w {a : α} : Ok (lift w (some a)) C Q ↔ Q a C := jQ1 
@[simp] theorem zAu {Q : Unit → jAa → Prop} : Ok (need w true) C Q ↔ Q () C := jPk 
@[simp] theorem zCj {i : Nat} {Q : T → jAa → Prop} : Ok (ev Φ (.var i) E) C Q ↔ Ok (lift "var" (getE E i)) C Q := jTf 
@[simp] theorem zCh {t : T} {Q : T → jAa → Prop} : Ok (ev Φ (.con t) E) C Q ↔ Q t C := jVt 
@[simp] theorem zB8 {op : Operator} {a b : Ex} {Q : T → jAa → Prop} : Ok (ev Φ (.bin op a b) E) C Q ↔ Ok (ev Φ a E) C fun x C => Ok (ev Φ b E) C fun y C => Ok (lift "bin" (binT op x y)) C Q := jU9 
@[simp] theorem zCb {a : Ex} {Q : T → jAa → Prop} : Ok (ev Φ (.neg a) E) C Q ↔ Ok (ev Φ a E) C fun x C => Ok (lift "neg" ((intT x).map fun i => .int (-i))) C Q := jU0 
@[simp] theorem zDt {a : Ex} {Q : T → jAa → Prop} : Ok (ev Φ (.nt a) E) C Q ↔ Ok (ev Φ a E) C fun x C => Ok (lift "truth" (truT x)) C fun b C => Q (.bl (!b)) C := jY7 
@[simp] theorem zBz {op : CmpOp} {a b : Ex} {Q : T → jAa → Prop} : Ok (ev Φ (.cmp op a b) E) C Q ↔ Ok (ev Φ a E) C fun x C => Ok (ev Φ b E) C fun y C => Ok (lift "cmp" (cmpT op x y)) C fun k C => Q (.bl k) C := jUd 
@[simp] theorem zBp {a b : Ex} {Q : T → jAa → Prop} : Ok (ev Φ (.and a b) E) C Q ↔ Ok (ev Φ a E) C fun x C => Ok (lift "truth" (truT x)) C fun k C => Ok (if k = true then ev Φ b E else M.pure x) C Q := jT9 
@[simp] theorem zD0 {a b : Ex} {Q : T → jAa → Prop} : Ok (ev Φ (.or a b) E) C Q ↔ Ok (ev Φ a E) C fun x C => Ok (lift "truth" (truT x)) C fun k C => Ok (if k = true then M.pure x else ev Φ b E) C Q := j1d 
@[simp] theorem zA5 {es : Els} {Q : T → jAa → Prop} : Ok (ev Φ (.tup es) E) C Q ↔ Ok (evL Φ es E) C fun ts C => Ok (if szOk ts.length = true then M.pure (.tup ts) else stuck "size") C Q := jTx 
@[simp] theorem zCc {es : Els} {Q : T → jAa → Prop} : Ok (ev Φ (.lst es) E) C Q ↔ Ok (evL Φ es E) C fun ts C => Ok (if szOk ts.length = true then M.pure (.lst ts) else stuck "size") C Q := jW5 
@[simp] theorem zC6 {a b : Ex} {Q : T → jAa → Prop} : Ok (ev Φ (.idx a b) E) C Q ↔ Ok (ev Φ a E) C fun x C => Ok (ev Φ b E) C fun y C => Ok (lift "idx" (idxT (jAu C x) y)) C Q := jUh 
@[simp] theorem zDd {l h : Bool} {a b c : Ex} {Q : T → jAa → Prop} : Ok (ev Φ (.slc l h a b c) E) C Q ↔ Ok (ev Φ a E) C fun x C => Ok (jCg l (ev Φ b E)) C fun l C => Ok (jCg h (ev Φ c E)) C fun h C => Ok (lift "slc" (slcT x l h)) C Q := jTs 
@[simp] theorem zAt {f : Str} {es : Exs} {Q : T → jAa → Prop} : Ok (ev Φ (.call f es) E) C Q ↔ Ok (evS Φ es E) C fun us C => Ok (Φ ("", f) us) C Q := jPj 
@[simp] theorem zDv {b : Bi} {es : Exs} {Q : T → jAa → Prop} : Ok (ev Φ (.bi b es) E) C Q ↔ Ok (evS Φ es E) C fun ts C => Ok (lift "bi" (biT b ts)) C Q := j05 
@[simp] theorem zD7 {ws : List Nat} {tg : Tg} {src : Src} {cond elt : Ex} {Q : T → jAa → Prop} : Ok (ev Φ (.lc ws tg src cond elt) E) C Q ↔ Ok (evR Φ src E) C fun xs C => Ok (jA4 (jA1 (lcF Φ ws tg cond elt E) xs)) C Q := j12 
section
variable {Q : List T → jAa → Prop}
@[simp] theorem j53 : Ok (evS Φ .nil E) C Q ↔ Q [] C := jPc 
@[simp] theorem j49 {e : Ex} {es : Exs} : Ok (evS Φ (.cons e es) E) C Q ↔ Ok (ev Φ e E) C fun x C => Ok (evS Φ es E) C fun r C => Q (x :: r) C := jQ4 
@[simp] theorem j9q : Ok (evL Φ .nil E) C Q ↔ Q [] C := jP8 
@[simp] theorem j7n {e : Ex} {es : Els} : Ok (evL Φ (.one e es) E) C Q ↔ Ok (ev Φ e E) C fun x C => Ok (evL Φ es E) C fun r C => Q (x :: r) C := jPq 
@[simp] theorem j96 {e : Ex} : Ok (evR Φ (.of e) E) C Q ↔ Ok (ev Φ e E) C fun t C => Ok (jFp t) C Q := jQl 
@[simp] theorem j5t {e : Ex} : Ok (evR Φ (.rng1 e) E) C Q ↔ Ok (ev Φ e E) C fun t C => Ok (jFs t) C Q := jPn 
@[simp] theorem j3p {xs : List T} : jFp (.lst xs) = M.pure xs := rfl
@[simp] theorem j4b {xs : List T} : jFp (.tup xs) = M.pure xs := rfl
@[simp] theorem j2m {x : Str} : jFp (.str x) = M.pure (x.cps.toList.map fun c => .str ⟨#[c]⟩) := rfl
end
@[simp] theorem j20 {m : M T} {Q : Option Int → jAa → Prop} : Ok (jCg false m) C Q ↔ Q none C := jM7 
@[simp] theorem j21 {m : M T} {Q : Option Int → jAa → Prop} : Ok (jCg true m) C Q ↔ Ok m C fun t C => Ok (lift "part" (intT t)) C fun i C => Q (some i) C := jNz 
section
variable {W : Nat} {Q : RS → jAa → Prop}
@[simp] theorem zBu : Ok (exS Φ W .nil E) C Q ↔ Q (.nx E) C := jW8 
@[simp] theorem j66 {s : SI.St} {r : Ss} : Ok (exS Φ W (.cons s r) E) C Q ↔ Ok (ex Φ W s (frzE (jA7 s) E)) C fun o C => Ok (jOo Φ W r o) C Q := jO9 
@[simp] theorem j3s {r : Ss} : jOo Φ W r (.nx E) = exS Φ W r E := rfl
@[simp] theorem j3j {r : Ss} {t : T} : jOo Φ W r (.rt t) = M.pure (.rt t) := rfl
@[simp] theorem zBx {i : Nat} {e : Ex} : Ok (ex Φ W (.set i e) E) C Q ↔ Ok (ev Φ e E) C fun t C => Q (.nx (E.set i (jAc e t))) C := jVf 
@[simp] theorem zDi {e : Ex} : Ok (ex Φ W (.ret e) E) C Q ↔ Ok (ev Φ e E) C fun t C => Q (.rt t) C := jWv 
@[simp] theorem zAl {c : Ex} {a b : Ss} : Ok (ex Φ W (.ite c a b) E) C Q ↔ Ok (ev Φ c E) C fun t C => Ok (lift "truth" (truT t)) C fun k C => Ok (if k = true then exS Φ W a E else exS Φ W b E) C Q := jPr 
@[simp] theorem zCi {tg : Tg} {src : Src} {b : Ss} : Ok (ex Φ W (.for_ tg src b) E) C Q ↔ Ok (evR Φ src E) C fun xs C => Ok (forL (forF Φ W tg b) xs E) C Q := jUw 
end
end
@[simp] theorem j32 (i : Nat) : escE (.var i) = [i] := rfl
@[simp] theorem j7y (i : Nat) : trE (.var i) = [] := rfl
@[simp] theorem j3y (t : T) : escE (.con t) = [] := rfl
@[simp] theorem j6v (t : T) : trE (.con t) = [] := rfl
@[simp] theorem j3u (op : Operator) (a : Ex) (b : Ex) : escE (.bin op a b) = trE a ++ trE b := rfl
@[simp] theorem j5p (op : Operator) (a : Ex) (b : Ex) : trE (.bin op a b) = trE a ++ trE b := rfl
@[simp] theorem j25 (a : Ex) : escE (.neg a) = trE a := rfl
@[simp] theorem j8i (a : Ex) : trE (.neg a) = trE a := rfl
@[simp] theorem j7p (a : Ex) : escE (.nt a) = trE a := rfl
@[simp] theorem zA0 (a : Ex) : trE (.nt a) = trE a := rfl
@[simp] theorem j2k (op : CmpOp) (a : Ex) (b : Ex) : escE (.cmp op a b) = trE a ++ trE b := rfl
@[simp] theorem j85 (op : CmpOp) (a : Ex) (b : Ex) : trE (.cmp op a b) = trE a ++ trE b := rfl
@[simp] theorem jXh (op : CmpOp) (op2 : CmpOp) (a : Ex) (b : Ex) (c : Ex) : escE (.chain op op2 a b c) = trE a ++ trE b ++ trE c := rfl
@[simp] theorem jY8 (op : CmpOp) (op2 : CmpOp) (a : Ex) (b : Ex) (c : Ex) : trE (.chain op op2 a b c) = trE a ++ trE b ++ trE c := rfl
@[simp] theorem j4h (a : Ex) (b : Ex) : escE (.and a b) = escE a ++ escE b := rfl
@[simp] theorem j8d (a : Ex) (b : Ex) : trE (.and a b) = trE a ++ trE b := rfl
@[simp] theorem j6t (a : Ex) (b : Ex) : escE (.or a b) = escE a ++ escE b := rfl
@[simp] theorem zDa (a : Ex) (b : Ex) : trE (.or a b) = trE a ++ trE b := rfl
@[simp] theorem j2w (c : Ex) (a : Ex) (b : Ex) : escE (.ite c a b) = trE c ++ escE a ++ escE b := rfl
@[simp] theorem zAp (c : Ex) (a : Ex) (b : Ex) : trE (.ite c a b) = trE c ++ trE a ++ trE b := rfl
@[simp] theorem j18 (es : Els) : escE (.tup es) = escL es := rfl
@[simp] theorem j5r (es : Els) : trE (.tup es) = escL es := rfl
@[simp] theorem j4k (es : Els) : escE (.lst es) = escL es := rfl
@[simp] theorem j54 (es : Els) : trE (.lst es) = escL es := rfl
@[simp] theorem j4e (es : Exs) : escE (.cel es) = escS es := rfl
@[simp] theorem j5a (es : Exs) : trE (.cel es) = escS es := rfl
@[simp] theorem j3i (ds : Dps) : escE (.dsp ds) = escD ds := rfl
@[simp] theorem j9w (ds : Dps) : trE (.dsp ds) = escD ds := rfl
@[simp] theorem j2y (a : Ex) (b : Ex) : escE (.idx a b) = trE a ++ trE b := rfl
@[simp] theorem j9h (a : Ex) (b : Ex) : trE (.idx a b) = trE a ++ trE b := rfl
@[simp] theorem j2i (l : Bool) (h : Bool) (a : Ex) (lo : Ex) (hi : Ex) : escE (.slc l h a lo hi) = trE a ++ trE lo ++ trE hi := rfl
@[simp] theorem j97 (l : Bool) (h : Bool) (a : Ex) (lo : Ex) (hi : Ex) : trE (.slc l h a lo hi) = trE a ++ trE lo ++ trE hi := rfl
@[simp] theorem j2q (a : Ex) : escE (.rev a) = trE a := rfl
@[simp] theorem j79 (a : Ex) : trE (.rev a) = trE a := rfl
@[simp] theorem jXy (f : Str) (es : Exs) : escE (.call f es) = escS es := rfl
@[simp] theorem j2p (f : Str) (es : Exs) : trE (.call f es) = escS es := rfl
@[simp] theorem jXo (ws : List Nat) (f : Str) (hs : List Hd) (gg : Str) (np : Nat) (nn : Nat) (es : Exs) (ix : Bool) (kk : Nat) (xs : Exs) : escE (.toldC ws f hs gg np nn es ix kk xs) = ws ++ escS xs := rfl
@[simp] theorem jYm (ws : List Nat) (f : Str) (hs : List Hd) (gg : Str) (np : Nat) (nn : Nat) (es : Exs) (ix : Bool) (kk : Nat) (xs : Exs) : trE (.toldC ws f hs gg np nn es ix kk xs) = ws ++ escS xs := rfl
@[simp] theorem j2l (k : Str) (pl : List PArg) (es : Exs) : escE (.new k pl es) = escS es := rfl
@[simp] theorem j8k (k : Str) (pl : List PArg) (es : Exs) : trE (.new k pl es) = escS es := rfl
@[simp] theorem j1a (o : Ex) (k : Str) (m : Str) (es : Exs) : escE (.meth o k m es) = escE o ++ escS es := rfl
@[simp] theorem j3q (o : Ex) (k : Str) (m : Str) (es : Exs) : trE (.meth o k m es) = escE o ++ escS es := rfl
@[simp] theorem jY4 (o : Ex) (k : Str) (f : Str) : escE (.attr o k f) = trE o := rfl
@[simp] theorem j3x (o : Ex) (k : Str) (f : Str) : trE (.attr o k f) = trE o := rfl
@[simp] theorem j1r (o : Ex) (k : Str) (f : Str) : escE (.prop o k f) = escE o := rfl
@[simp] theorem j4x (o : Ex) (k : Str) (f : Str) : trE (.prop o k f) = escE o := rfl
@[simp] theorem j62 (b : Bi) (es : Exs) : escE (.bi b es) = trS es := rfl
@[simp] theorem zB6 (b : Bi) (es : Exs) : trE (.bi b es) = trS es := rfl
@[simp] theorem j2d (e : Ex) (ty : Ty) (ks : List Str) : escE (.isi e ty ks) = trE e := rfl
@[simp] theorem j6j (e : Ex) (ty : Ty) (ks : List Str) : trE (.isi e ty ks) = trE e := rfl
@[simp] theorem j7b (b : Bm) (o : Ex) (es : Exs) : escE (.bm b o es) = trE o ++ trS es := rfl
@[simp] theorem zBm (b : Bm) (o : Ex) (es : Exs) : trE (.bm b o es) = trE o ++ trS es := rfl
@[simp] theorem j7s (ws : List Nat) (tg : Tg) (src : Src) (c : Ex) (e : Ex) : escE (.lc ws tg src c e) = ws ++ (escR src ++ (trE c ++ escE e)) := rfl
@[simp] theorem zCy (ws : List Nat) (tg : Tg) (src : Src) (c : Ex) (e : Ex) : trE (.lc ws tg src c e) = ws ++ (escR src ++ (trE c ++ escE e)) := rfl
@[simp] theorem j3e (ws : List Nat) (tg : Tg) (src : Src) (c : Ex) (tg2 : Tg) (src2 : Src) (c2 : Ex) (e : Ex) : escE (.lc2 ws tg src c tg2 src2 c2 e) = ws ++ (escR src ++ (trE c ++ (escR src2 ++ (trE c2 ++ escE e)))) := rfl
@[simp] theorem j8p (ws : List Nat) (tg : Tg) (src : Src) (c : Ex) (tg2 : Tg) (src2 : Src) (c2 : Ex) (e : Ex) : trE (.lc2 ws tg src c tg2 src2 c2 e) = ws ++ (escR src ++ (trE c ++ (escR src2 ++ (trE c2 ++ escE e)))) := rfl
@[simp] theorem zBg : escS .nil = [] := rfl
@[simp] theorem zCz (e : Ex) (es : Exs) : escS (.cons e es) = escE e ++ escS es := rfl
@[simp] theorem zD9 : trS .nil = [] := rfl
@[simp] theorem zDj (e : Ex) (es : Exs) : trS (.cons e es) = trE e ++ trS es := rfl
@[simp] theorem zC7 : escL .nil = [] := rfl
@[simp] theorem zCv (e : Ex) (es : Els) : escL (.one e es) = escE e ++ escL es := rfl
@[simp] theorem zC4 (e : Ex) (es : Els) : escL (.star e es) = trE e ++ escL es := rfl
@[simp] theorem zA6 : escD .nil = [] := rfl
@[simp] theorem zBf (e : Ex) (r : Dps) : escD (.star e r) = trE e ++ escD r := rfl
@[simp] theorem j7d (ks : List Key) (vs : List T) : jX0 (.dic ks vs) = M.pure (ks.map keyU) := rfl
@[simp] theorem jXc (i : Nat) (e : Ex) (b : Ss) (cs : List Str) (h : Ss) : jA7 (.tryA i e b cs h) = escE e := rfl
@[simp] theorem j5x (xs ys : List T) : jM5 (.lst xs) (.lst ys) = M.pure ((xs.zip ys).map fun p => .tup [p.1, p.2]) := rfl
@[simp] theorem j9y (xs ys : List T) : jM5 (.tup xs) (.tup ys) = M.pure ((xs.zip ys).map fun p => .tup [p.1, p.2]) := rfl
@[simp] theorem j8h (xs ys : List T) : jM5 (.lst xs) (.tup ys) = M.pure ((xs.zip ys).map fun p => .tup [p.1, p.2]) := rfl
@[simp] theorem j6g (ks : List Key) (vs : List T) : jZy (.dic ks vs) = M.pure ((ks.zip vs).map fun p => .tup [keyU p.1, p.2]) := rfl
@[simp] theorem zDh (ks : List Key) (vs : List T) : dicT (.dic ks vs) = some (ks, vs) := rfl
@[simp] theorem zBi (x : Str) : keyT (.str x) = some (.inr x) := rfl
@[simp] theorem zBt (i : Int) : keyT (.int i) = some (.inl i) := rfl
@[simp] theorem zCr (x : Str) : keyU (.inr x) = .str x := rfl
@[simp] theorem zB7 (i : Int) : keyU (.inl i) = .int i := rfl
@[simp] theorem j74 (e : Ex) : escR (.of e) = trE e := rfl
@[simp] theorem j8o (e : Ex) : escR (.rng1 e) = trE e := rfl
@[simp] theorem j8f (a b : Ex) : escR (.rng2 a b) = trE a ++ trE b := rfl
@[simp] theorem j7r (e : Ex) : escR (.enm e) = trE e := rfl
@[simp] theorem j87 (e : Ex) : escF (.of e) = escE e := rfl
@[simp] theorem j58 (e : Ex) : escF (.rng1 e) = trE e := rfl
@[simp] theorem zAi (a b : Ex) : escF (.rng2 a b) = trE a ++ trE b := rfl
@[simp] theorem j48 (e : Ex) : escF (.enm e) = escE e := rfl
@[simp] theorem j0l (i : Nat) (e : Ex) : jA7 (.set i e) = escE e := rfl
@[simp] theorem jYu (is : List Nat) (es : Exs) : jA7 (.par is es) = escS es := rfl
@[simp] theorem jXu (h k j : Nat) (a b : Ex) : jA7 (.dvm h k j a b) = trE a ++ trE b := rfl
@[simp] theorem jWp (x : Nat) (i e : Ex) : jA7 (.setIx x i e) = trE i ++ escE e := rfl
@[simp] theorem jWg (c f : Str) (e : Ex) : jA7 (.setAt c f e) = escE e := rfl
@[simp] theorem jX7 (x : Nat) (e : Ex) : jA7 (.app x e) = escE e := rfl
@[simp] theorem jZd (x : Nat) (i e : Ex) : jA7 (.ins x i e) = trE i ++ escE e := rfl
@[simp] theorem j02 (e : Ex) : jA7 (.exp e) = escE e := rfl
@[simp] theorem jZm (e : Ex) : jA7 (.ret e) = escE e := rfl
@[simp] theorem j0r (c : Ex) (a b : Ss) : jA7 (.ite c a b) = trE c := rfl
@[simp] theorem jYr (tg : Tg) (src : Src) (b : Ss) : jA7 (.for_ tg src b) = escF src := rfl
@[simp] theorem jZt (c : Ex) (b : Ss) : jA7 (.whl c b) = [] := rfl
@[simp] theorem zBl (E : Env) : frzE [] E = E := rfl
@[simp] theorem zCt (i : Nat) (is : List Nat) (E : Env) : frzE (i :: is) E = frzE is (E.set i (frz1 (E.getD i .un))) := rfl
@[simp] theorem j7h (t : T) : frz1 (.ow t) = .sh t := rfl
@[simp] theorem j7a (t : T) : frz1 (.sh t) = .sh t := rfl
@[simp] theorem j9u : frz1 .un = .un := rfl
@[simp] theorem zCq (i : Nat) : fresh (.var i) = false := rfl
@[simp] theorem zA8 (t : T) : fresh (.con t) = false := rfl
@[simp] theorem zC1 (a : Ex) : fresh (.neg a) = false := rfl
@[simp] theorem zDo (a : Ex) : fresh (.nt a) = false := rfl
@[simp] theorem zBw (op : CmpOp) (a : Ex) (b : Ex) : fresh (.cmp op a b) = false := rfl
@[simp] theorem j3v (op : CmpOp) (op2 : CmpOp) (a : Ex) (b : Ex) (c : Ex) : fresh (.chain op op2 a b c) = false := rfl
@[simp] theorem zA2 (a : Ex) (b : Ex) : fresh (.and a b) = false := rfl
@[simp] theorem zD2 (a : Ex) (b : Ex) : fresh (.or a b) = false := rfl
@[simp] theorem zA3 (c : Ex) (a : Ex) (b : Ex) : fresh (.ite c a b) = (fresh a && fresh b) := rfl
@[simp] theorem zBj (es : Els) : fresh (.tup es) = false := rfl
@[simp] theorem zC3 (es : Els) : fresh (.lst es) = true := rfl
@[simp] theorem zC5 (es : Exs) : fresh (.cel es) = false := rfl
@[simp] theorem zCs (ds : Dps) : fresh (.dsp ds) = true := rfl
@[simp] theorem zB4 (a : Ex) (b : Ex) : fresh (.idx a b) = false := rfl
@[simp] theorem zCx (l : Bool) (h : Bool) (a : Ex) (lo : Ex) (hi : Ex) : fresh (.slc l h a lo hi) = true := rfl
@[simp] theorem zB3 (a : Ex) : fresh (.rev a) = true := rfl
@[simp] theorem j61 (f : Str) (es : Exs) : fresh (.call f es) = false := rfl
@[simp] theorem j4r (ws : List Nat) (f : Str) (hs : List Hd) (gg : Str) (np : Nat) (nn : Nat) (es : Exs) (ix : Bool) (kk : Nat) (xs : Exs) : fresh (.toldC ws f hs gg np nn es ix kk xs) = true := rfl
@[simp] theorem zC2 (k : Str) (pl : List PArg) (es : Exs) : fresh (.new k pl es) = false := rfl
@[simp] theorem j5i (o : Ex) (k : Str) (m : Str) (es : Exs) : fresh (.meth o k m es) = false := rfl
@[simp] theorem j8q (o : Ex) (k : Str) (f : Str) : fresh (.attr o k f) = false := rfl
@[simp] theorem j8z (o : Ex) (k : Str) (f : Str) : fresh (.prop o k f) = false := rfl
@[simp] theorem zBc (e : Ex) (ty : Ty) (ks : List Str) : fresh (.isi e ty ks) = false := rfl
@[simp] theorem zDk (ws : List Nat) (tg : Tg) (src : Src) (c : Ex) (e : Ex) : fresh (.lc ws tg src c e) = true := rfl
@[simp] theorem zAw (ws : List Nat) (tg : Tg) (src : Src) (c : Ex) (tg2 : Tg) (src2 : Src) (c2 : Ex) (e : Ex) : fresh (.lc2 ws tg src c tg2 src2 c2 e) = true := rfl
@[simp] theorem j7m (a b : Ex) : fresh (.bin .Add a b) = true := rfl
@[simp] theorem j4f (a b : Ex) : fresh (.bin .Mult a b) = true := rfl
@[simp] theorem j9s (a b : Ex) : fresh (.bin .Sub a b) = false := rfl
@[simp] theorem j6f (a b : Ex) : fresh (.bin .Mod a b) = false := rfl
@[simp] theorem jSm (a b : Ex) : fresh (.bin .FloorDiv a b) = false := rfl
@[simp] theorem j9z (a b : Ex) : fresh (.bin .Pow a b) = false := rfl
@[simp] theorem j8n (es : Exs) : fresh (.bi .len es) = false := rfl
@[simp] theorem j9t (es : Exs) : fresh (.bi .int es) = false := rfl
@[simp] theorem j8j (es : Exs) : fresh (.bi .abs es) = false := rfl
@[simp] theorem zAk (es : Exs) : fresh (.bi .all es) = false := rfl
@[simp] theorem j5d (es : Exs) : fresh (.bi .any es) = false := rfl
@[simp] theorem j03 (es : Exs) : fresh (.bi .tuple es) = false := rfl
@[simp] theorem jXd (es : Exs) : fresh (.bi .sorted es) = true := rfl
@[simp] theorem jQp (es : Exs) : fresh (.bi .sortedSet es) = true := rfl
@[simp] theorem j3m (es : Exs) : fresh (.bi .repr es) = false := rfl
@[simp] theorem j6q (es : Exs) : fresh (.bi .str es) = false := rfl
@[simp] theorem zBb (i : Nat) (t : T) : jAc (.var i) t = .sh t := by cases t <;> rfl
@[simp] theorem zB2 (t : T) (t : T) : jAc (.con t) t = .sh t := by cases t <;> rfl
@[simp] theorem zDb (a : Ex) (t : T) : jAc (.neg a) t = .sh t := by cases t <;> rfl
@[simp] theorem zD4 (a : Ex) (t : T) : jAc (.nt a) t = .sh t := by cases t <;> rfl
@[simp] theorem zCn (op : CmpOp) (a : Ex) (b : Ex) (t : T) : jAc (.cmp op a b) t = .sh t := by cases t <;> rfl
@[simp] theorem j23 (op : CmpOp) (op2 : CmpOp) (a : Ex) (b : Ex) (c : Ex) (t : T) : jAc (.chain op op2 a b c) t = .sh t := by cases t <;> rfl
@[simp] theorem zBs (a : Ex) (b : Ex) (t : T) : jAc (.and a b) t = .sh t := by cases t <;> rfl
@[simp] theorem zDz (a : Ex) (b : Ex) (t : T) : jAc (.or a b) t = .sh t := by cases t <;> rfl
@[simp] theorem zC0 (es : Els) (t : T) : jAc (.tup es) t = .sh t := by cases t <;> rfl
@[simp] theorem j4v (es : Els) (ts : List T) : jAc (.lst es) (.lst ts) = .ow (.lst ts) := rfl
@[simp] theorem j3h (es : Els) (ks : List Key) (ts : List T) : jAc (.lst es) (.dic ks ts) = .ow (.dic ks ts) := rfl
@[simp] theorem zB5 (es : Exs) (t : T) : jAc (.cel es) t = .sh t := by cases t <;> rfl
@[simp] theorem j3w (ds : Dps) (ts : List T) : jAc (.dsp ds) (.lst ts) = .ow (.lst ts) := rfl
@[simp] theorem j3c (ds : Dps) (ks : List Key) (ts : List T) : jAc (.dsp ds) (.dic ks ts) = .ow (.dic ks ts) := rfl
@[simp] theorem zDg (a : Ex) (b : Ex) (t : T) : jAc (.idx a b) t = .sh t := by cases t <;> rfl
@[simp] theorem j2z (l : Bool) (h : Bool) (a : Ex) (lo : Ex) (hi : Ex) (ts : List T) : jAc (.slc l h a lo hi) (.lst ts) = .ow (.lst ts) := rfl
@[simp] theorem j4w (l : Bool) (h : Bool) (a : Ex) (lo : Ex) (hi : Ex) (ks : List Key) (ts : List T) : jAc (.slc l h a lo hi) (.dic ks ts) = .ow (.dic ks ts) := rfl
@[simp] theorem j34 (a : Ex) (ts : List T) : jAc (.rev a) (.lst ts) = .ow (.lst ts) := rfl
@[simp] theorem j4s (a : Ex) (ks : List Key) (ts : List T) : jAc (.rev a) (.dic ks ts) = .ow (.dic ks ts) := rfl
@[simp] theorem j8t (f : Str) (es : Exs) (t : T) : jAc (.call f es) t = .sh t := by cases t <;> rfl
@[simp] theorem jXm (ws : List Nat) (f : Str) (hs : List Hd) (gg : Str) (np : Nat) (nn : Nat) (es : Exs) (ix : Bool) (kk : Nat) (xs : Exs) (ts : List T) : jAc (.toldC ws f hs gg np nn es ix kk xs) (.lst ts) = .ow (.lst ts) := rfl
@[simp] theorem jXb (ws : List Nat) (f : Str) (hs : List Hd) (gg : Str) (np : Nat) (nn : Nat) (es : Exs) (ix : Bool) (kk : Nat) (xs : Exs) (ks : List Key) (ts : List T) : jAc (.toldC ws f hs gg np nn es ix kk xs) (.dic ks ts) = .ow (.dic ks ts) := rfl
@[simp] theorem zBv (k : Str) (pl : List PArg) (es : Exs) (t : T) : jAc (.new k pl es) t = .sh t := by cases t <;> rfl
@[simp] theorem j7v (o : Ex) (k : Str) (m : Str) (es : Exs) (t : T) : jAc (.meth o k m es) t = .sh t := by cases t <;> rfl
@[simp] theorem j9j (o : Ex) (k : Str) (f : Str) (t : T) : jAc (.attr o k f) t = .sh t := by cases t <;> rfl
@[simp] theorem j67 (o : Ex) (k : Str) (f : Str) (t : T) : jAc (.prop o k f) t = .sh t := by cases t <;> rfl
@[simp] theorem zCd (e : Ex) (ty : Ty) (ks : List Str) (t : T) : jAc (.isi e ty ks) t = .sh t := by cases t <;> rfl
@[simp] theorem j6k (ws : List Nat) (tg : Tg) (src : Src) (c : Ex) (e : Ex) (ts : List T) : jAc (.lc ws tg src c e) (.lst ts) = .ow (.lst ts) := rfl
@[simp] theorem zAa (ws : List Nat) (tg : Tg) (src : Src) (c : Ex) (e : Ex) (ks : List Key) (ts : List T) : jAc (.lc ws tg src c e) (.dic ks ts) = .ow (.dic ks ts) := rfl
@[simp] theorem j4o (ws : List Nat) (tg : Tg) (src : Src) (c : Ex) (tg2 : Tg) (src2 : Src) (c2 : Ex) (e : Ex) (ts : List T) : jAc (.lc2 ws tg src c tg2 src2 c2 e) (.lst ts) = .ow (.lst ts) := rfl
@[simp] theorem j4m (ws : List Nat) (tg : Tg) (src : Src) (c : Ex) (tg2 : Tg) (src2 : Src) (c2 : Ex) (e : Ex) (ks : List Key) (ts : List T) : jAc (.lc2 ws tg src c tg2 src2 c2 e) (.dic ks ts) = .ow (.dic ks ts) := rfl
@[simp] theorem jXv (a b : Ex) (ts : List T) : jAc (.bin .Add a b) (.lst ts) = .ow (.lst ts) := rfl
@[simp] theorem jYb (a b : Ex) (ks : List Key) (ts : List T) : jAc (.bin .Add a b) (.dic ks ts) = .ow (.dic ks ts) := rfl
@[simp] theorem jXj (a b : Ex) (ts : List T) : jAc (.bin .Mult a b) (.lst ts) = .ow (.lst ts) := rfl
@[simp] theorem jXg (a b : Ex) (ks : List Key) (ts : List T) : jAc (.bin .Mult a b) (.dic ks ts) = .ow (.dic ks ts) := rfl
@[simp] theorem j6d (a b : Ex) (t : T) : jAc (.bin .Sub a b) t = .sh t := by cases t <;> rfl
@[simp] theorem j5q (a b : Ex) (t : T) : jAc (.bin .Mod a b) t = .sh t := by cases t <;> rfl
@[simp] theorem jSc (a b : Ex) (t : T) : jAc (.bin .FloorDiv a b) t = .sh t := by cases t <;> rfl
@[simp] theorem j7g (a b : Ex) (t : T) : jAc (.bin .Pow a b) t = .sh t := by cases t <;> rfl
@[simp] theorem j8x (es : Exs) (t : T) : jAc (.bi .len es) t = .sh t := by cases t <;> rfl
@[simp] theorem zAh (es : Exs) (t : T) : jAc (.bi .int es) t = .sh t := by cases t <;> rfl
@[simp] theorem j6z (es : Exs) (t : T) : jAc (.bi .abs es) t = .sh t := by cases t <;> rfl
@[simp] theorem zAf (es : Exs) (t : T) : jAc (.bi .all es) t = .sh t := by cases t <;> rfl
@[simp] theorem zAo (es : Exs) (t : T) : jAc (.bi .any es) t = .sh t := by cases t <;> rfl
@[simp] theorem jYc (es : Exs) (t : T) : jAc (.bi .tuple es) t = .sh t := by cases t <;> rfl
@[simp] theorem jR8 (es : Exs) (ts : List T) : jAc (.bi .sorted es) (.lst ts) = .ow (.lst ts) := rfl
@[simp] theorem jRj (es : Exs) (ks : List Key) (ts : List T) : jAc (.bi .sorted es) (.dic ks ts) = .ow (.dic ks ts) := rfl
@[simp] theorem jOu (es : Exs) (ts : List T) : jAc (.bi .sortedSet es) (.lst ts) = .ow (.lst ts) := rfl
@[simp] theorem jNf (es : Exs) (ks : List Key) (ts : List T) : jAc (.bi .sortedSet es) (.dic ks ts) = .ow (.dic ks ts) := rfl
@[simp] theorem j3t (es : Exs) (t : T) : jAc (.bi .repr es) t = .sh t := by cases t <;> rfl
@[simp] theorem j7k (es : Exs) (t : T) : jAc (.bi .str es) t = .sh t := by cases t <;> rfl
@[simp] theorem j37 {e : Ex} {i : Int} : jAc e (.int i) = .sh (.int i) := by unfold jAc; cases fresh e <;> rfl
@[simp] theorem j2s {e : Ex} {x : Str} : jAc e (.str x) = .sh (.str x) := by unfold jAc; cases fresh e <;> rfl
@[simp] theorem j3d {e : Ex} {ts : List T} : jAc e (.tup ts) = .sh (.tup ts) := by unfold jAc; cases fresh e <;> rfl
@[simp] theorem j22 {e : Ex} {b : Bool} : jAc e (.bl b) = .sh (.bl b) := by unfold jAc; cases fresh e <;> rfl
@[simp] theorem j2v {e : Ex} : jAc e .non = .sh .non := by unfold jAc; cases fresh e <;> rfl
@[simp] theorem j1h (ts : List T) : jBe .nil ts = [] := rfl
@[simp] theorem jXr (e : Ex) (es : Exs) (t : T) (ts : List T) : jBe (.cons e es) (t :: ts) = jAc e t :: jBe es ts := rfl
@[simp] theorem j4c {E : Env} {c d : Str} : jN7 (.sh (.cls d) :: E) 0 c = (d == c) := rfl
@[simp] theorem zB9 {E : Env} {i : Nat} {t : T} (h : E[i]? = some (.sh t)) : getE E i = some t := by unfold getE; rw [h]
@[simp] theorem zCp {E : Env} {i : Nat} {t : T} (h : E[i]? = some (.ow t)) : getE E i = some t := by unfold getE; rw [h]
section
variable {α : Type} {Φ : Calls} {E : Env} {C : jAa} {W : Nat}
@[simp] theorem zDc {ws : List Nat} {tg : Tg} {cond elt : Ex} {x : T} {Q : List T → jAa → Prop} : Ok (lcF Φ ws tg cond elt E x) C Q ↔ Ok (lift "bind" (jAz tg x (jAr ws E))) C fun E' C => Ok (ev Φ cond E') C fun c C => Ok (lift "truth" (truT c)) C fun b C => Ok (if b = true then M.bind (ev Φ elt E') (fun t => M.pure [t]) else M.pure []) C Q := by
  unfold lcF
  rw [jA8]
  refine jEr fun E' C => ?_
  rw [jA8]
  refine jEr fun c C => ?_
  rw [jA8]
  exact Iff.rfl
@[simp] theorem zAe {ws : List Nat} {tg tg2 : Tg} {src2 : Src} {cond cond2 elt : Ex} {x : T} {Q : List T → jAa → Prop} : Ok (lc2F Φ ws tg cond tg2 src2 cond2 elt E x) C Q ↔ Ok (lift "bind" (jAz tg x (jAr ws E))) C fun E' C => Ok (ev Φ cond E') C fun c C => Ok (lift "truth" (truT c)) C fun b C => Ok (if b = true then M.bind (evR Φ src2 E') (fun ys => jA1 (lcF Φ (tgS tg2) tg2 cond2 elt E') ys) else M.pure []) C Q := by
  unfold lc2F
  rw [jA8]
  refine jEr fun E' C => ?_
  rw [jA8]
  refine jEr fun c C => ?_
  rw [jA8]
  exact Iff.rfl
@[simp] theorem j98 {tg : Tg} {b : Ss} {x : T} {Q : RS → jAa → Prop} : Ok (forF Φ W tg b x E) C Q ↔ Ok (lift "bind" (jAz tg x E)) C fun E' C => Ok (exS Φ W b E') C Q := by
  unfold forF
  rw [jA8]
@[simp] theorem j6i : jIc [] E = true := rfl
@[simp] theorem j9r {i : Nat} {is : List Nat} : jIc (i :: is) E = ((match E[i]? with | some (.ow _) => false | _ => true) && jIc is E) := rfl
@[simp] theorem zCe {c : Ex} {Q : Bool → jAa → Prop} : Ok (tst Φ c E) C Q ↔ Ok (ev Φ c E) C fun t C => Ok (lift "truth" (truT t)) C Q := by
  unfold tst
  rw [jA8]
  rfl
theorem jLn (f : T → M (List T)) (x : T) (xs : List T) : jA1 f (x :: xs) = M.bind (f x) fun a => M.bind (jA1 f xs) fun r => M.pure (a ++ r) := rfl
theorem jW4 {f : T → M (List T)} {enc : α → T} {g : α → List T} {l : List α} : ∀ {Q : List T → jAa → Prop}, (∀ a ∈ l, Ok (f (enc a)) C fun r C' => C' = C ∧ r = g a) → Q (l.flatMap g) C → Ok (jA1 f (l.map enc)) C Q := by
 induction l with
 | nil => exact fun _ q => q
 | cons a l ih =>
  intro Q h q
  rw [war, jLn, jA8]
  refine jGc (h a wah) ?_
  rintro r C' ⟨rfl, rfl⟩
  rw [jA8]
  exact ih (fun b hb => h b (wak _ hb)) (by rw [jM4]; exact q)
theorem jJb {c : α → Bool} {e : α → T} : ∀ l : List α, (l.flatMap fun a => if c a = true then [e a] else []) = (l.filter c).map e
 | [] => rfl
 | a :: l => by
  rw [List.flatMap_cons, jJb l, List.filter_cons]
  cases c a <;> rfl
theorem jTu {m : M (List T)} {Q : T → jAa → Prop} (h : Ok m C fun r C' => r.length ≤ sizeLine ∧ Q (.lst r) C') : Ok (jA4 m) C Q := by
 have e : jA4 m = M.bind m fun r => if szOk r.length then M.pure (.lst r) else stuck "size" := rfl
 rw [e, jA8]
 refine jGc h fun r C' ⟨h1, h2⟩ => ?_
 rw [if_pos (show szOk r.length = true from waU h1)]
 exact h2
theorem jSp {f : T → M (List T)} {enc : α → T} {l : List α} (c : α → Bool) (e : α → T) {r : List T} (hr : (l.filter c).map e = r) {Q : T → jAa → Prop} (hz : l.length ≤ sizeLine) (h : ∀ a ∈ l, Ok (f (enc a)) C fun r C' => C' = C ∧ r = if c a = true then [e a] else [])
  (q : Q (.lst r) C) : Ok (jA4 (jA1 f (l.map enc))) C Q := by
 subst hr
 refine jTu (jW4 h ?_)
 rw [jJb]
 exact ⟨by rw [waw]; exact wau (List.length_filter_le _ _) hz, q⟩
theorem jS1 {f : T → M (List T)} {enc : α → T} {l : List α} (e : α → T) {r : List T} (hr : l.map e = r) {Q : T → jAa → Prop} (hz : l.length ≤ sizeLine) (h : ∀ a ∈ l, Ok (f (enc a)) C fun r C' => C' = C ∧ r = [e a])
  (q : Q (.lst r) C) : Ok (jA4 (jA1 f (l.map enc))) C Q :=
 jSp (fun _ => true) e (by rw [List.filter_eq_self.mpr fun _ _ => rfl]; exact hr) hz (fun a ha => by simpa using h a ha) q
def jNt (I : Env → jAa → Prop) (Q : RS → jAa → Prop) : RS → jAa → Prop
 | .nx E, C => I E C
 | .ct E, C => I E C
 | .bk E, C => Q (.nx E) C
 | .rt t, C => Q (.rt t) C
@[simp] theorem j3r {I : Env → jAa → Prop} {Q : RS → jAa → Prop} : jNt I Q (.nx E) C = I E C := rfl
@[simp] theorem j4j {I : Env → jAa → Prop} {Q : RS → jAa → Prop} {t : T} : jNt I Q (.rt t) C = Q (.rt t) C := rfl
theorem jNl {f : T → Env → M RS} {enc : α → T} {Q : RS → jAa → Prop} (Inv : List α → Env → jAa → Prop) : ∀ (l pre : List α) (E : Env) (C : jAa), Inv pre E C →
  (∀ pr a post E C, pre ++ l = pr ++ a :: post → Inv pr E C → Ok (f (enc a) E) C (jNt (Inv (pr ++ [a])) Q)) → (∀ E C, Inv (pre ++ l) E C → Q (.nx E) C) → Ok (forL f (l.map enc) E) C Q
 | [], pre, E, C, h, _, he => by
  rw [List.map_nil, jIt, jM4]
  exact he E C (by rw [waL]; exact h)
 | a :: l, pre, E, C, h, hs, he => by
  rw [war, jHf, jA8]
  refine jGc (hs pre a l E C rfl h) fun r C' hr => ?_
  have next : ∀ E', Inv (pre ++ [a]) E' C' → Ok (forL f (l.map enc) E') C' Q := fun E' h' => jNl Inv l (pre ++ [a]) E' C' h' (fun pr b post E C e => hs pr b post E C (by rw [← e, List.append_assoc]; rfl)) (fun E C h => he E C (by rw [List.append_assoc] at h; exact h))
  cases r with
  | nx E' => exact next E' hr
  | ct E' => exact next E' hr
  | bk E' => exact hr
  | rt t => exact hr
theorem jW0 {f : T → Env → M RS} {enc : α → T} {Q : RS → jAa → Prop} {l : List α} (Inv : List α → Env → jAa → Prop) (h0 : Inv [] E C)
  (hs : ∀ pre a post E C, l = pre ++ a :: post → Inv pre E C → Ok (f (enc a) E) C (jNt (Inv (pre ++ [a])) Q)) (he : ∀ E C, Inv l E C → Q (.nx E) C) : Ok (forL f (l.map enc) E) C Q :=
 jNl Inv l [] E C h0 hs he
end
def retQ (Q : T → jAa → Prop) : RS → jAa → Prop
 | .rt t, C => Q t C
 | .nx _, C => Q .non C
 | _, _ => False
@[simp] theorem j69 {Q : T → jAa → Prop} {t : T} {C : jAa} : retQ Q (.rt t) C = Q t C := rfl
@[simp] theorem j5g {Q : T → jAa → Prop} {E : Env} {C : jAa} : retQ Q (.nx E) C = Q .non C := rfl
theorem jHt {P : Prog} {W n : Nat} {k : FK} {d : FDef} {ts : List T} {C : jAa} {Q : T → jAa → Prop} (h : jD0 k P.fns = some d) (hk : k.2 ≠ ("" : Str)) (hl : ts.length = d.ps)
  (q : Ok (exS (call P W n) W d.body (ts.map .sh ++ List.replicate (d.n - ts.length) .un)) C (retQ Q)) (hb : k.1 ≠ ("!" : Str) := by decide) : Ok (call P W (n + 1) k ts) C Q := by
 have e : call P W (n + 1) k ts = M.bind (jBz (call P W n) W d (ts.map .sh)) fun r => match r with
   | .rt t => M.pure t
   | .nx _ => M.pure .non
   | _ => stuck "loop word" := by
  unfold call
  rw [if_neg hk, if_neg hb, h]
  show (if ts.length = d.ps then _ else _) = _
  rw [if_pos hl]
  rfl
 rw [e, jA8]
 unfold jBz
 rw [waw]
 refine jGc q fun r C' hr => ?_
 cases r with
 | rt t => exact hr
 | nx E => exact hr
 | bk E => exact hr.elim
 | ct E => exact hr.elim
def newQ (Q : T → jAa → Prop) : RS → jAa → Prop
 | .nx E, C => match own0 E with
  | some t => Q t C
  | none => False
 | _, _ => False
@[simp] theorem j4z {Q : T → jAa → Prop} {c : Str} {ns : List Str} {vs : List T} {E : Env} {C : jAa} : newQ Q (.nx (.ow (.obj c ns vs) :: E)) C = Q (.obj c ns vs) C := rfl
section
variable {α : Type} {f : α → T}
structure Pl (f : α → T) : Prop where
 dat : ∀ a n, 50 ≤ n → dat n (f a) = true
 eqv : ∀ a b, PyData.eqv (toD (f a)) (toD (f b)) = true ↔ a = b
theorem Pl.eqT (h : Pl f) (a b : α) [Decidable (a = b)] : eqT (f a) (f b) = some (decide (a = b)) := by
 have e : SI.eqT (f a) (f b) = some (PyData.eqv (toD (f a)) (toD (f b))) := by
  unfold SI.eqT
  rw [h.dat a 60 (by omega), h.dat b 60 (by omega)]
  rfl
 rw [e]
 congr 1
 rw [Bool.eq_iff_iff, decide_eq_true_iff]
 exact h.eqv a b
theorem Pl.any (h : Pl f) (a : α) (xs : List α) [Decidable (a ∈ xs)] : ((xs.map f).any fun y => PyData.eqv (toD y) (toD (f a))) = decide (a ∈ xs) := by
 rw [Bool.eq_iff_iff, wax, decide_eq_true_iff]
 constructor
 ·rintro ⟨y, hy, e⟩
  obtain ⟨b, hb, rfl⟩ := wbg.mp hy
  rw [← (h.eqv b a).mp e]
  exact hb
 ·intro ha
  exact ⟨f a, List.mem_map_of_mem ha, (h.eqv a a).mpr rfl⟩
theorem Pl.all59 (h : Pl f) (xs : List α) : (xs.map f).all (SI.dat 59) = true := by
 rw [wag]
 intro y hy
 obtain ⟨b, _, rfl⟩ := wbg.mp hy
 exact h.dat b 59 (by omega)
theorem Pl.inL (h : Pl f) (a : α) (xs : List α) [Decidable (a ∈ xs)] : inT (f a) (.lst (xs.map f)) = some (decide (a ∈ xs)) := by
 show (if _ then some _ else _) = _
 rw [h.dat a 60 (by omega), h.all59, h.any]
 rfl
theorem Pl.inT (h : Pl f) (a : α) (xs : List α) [Decidable (a ∈ xs)] : SI.inT (f a) (.tup (xs.map f)) = some (decide (a ∈ xs)) := by
 show (if _ then some _ else none) = _
 rw [h.dat a 60 (by omega), h.all59, h.any]
 rfl
theorem jYd : Pl T.int := ⟨fun a n _ => by cases n <;> rfl, fun a b => by show (a == b) = true ↔ _; exact waj⟩
theorem jX4 : Pl T.str := ⟨fun a n _ => by cases n <;> rfl, fun a b => by show (a == b) = true ↔ _; exact waj⟩
end
def Rx0 {α : Type} (Z : T → jAa → Prop) (m : M α) (C : jAa) (Q : α → jAa → Prop) : Prop := match m C with
 | .ok a C' => Q a C'
 | .exc x C' => Z x C'
 | .stuck _ => False
section
variable {α β : Type} {m : M α} {C : jAa} {Q Q' : α → jAa → Prop} {f : α → M β} {R : β → jAa → Prop} {w : String} {Φ : Calls} {E : Env} {Z : T → jAa → Prop}
theorem zAd (h : ∀ a D, Q a D ↔ Q' a D) : Rx0 Z m C Q ↔ Rx0 Z m C Q' := by
 have : Q = Q' := by funext a D; exact propext (h a D)
 subst this
 rfl
theorem j19 {a : α} : Rx0 Z (M.pure a) C Q ↔ Q a C := Iff.rfl
theorem jAo : Rx0 Z (M.bind m f) C R ↔ Rx0 Z m C fun a C' => Rx0 Z (f a) C' R := by
 unfold Rx0 M.bind
 cases m C <;> rfl
theorem j2g {a : α} : Rx0 Z (lift w (some a)) C Q ↔ Q a C := Iff.rfl
theorem j3a {Q : Unit → jAa → Prop} : Rx0 Z (need w true) C Q ↔ Q () C := Iff.rfl
theorem j08 {t : T} {Q : T → jAa → Prop} : Rx0 Z (deref t) C Q ↔ Q (jAu C t) C := Iff.rfl
theorem j5k {i : Nat} {Q : T → jAa → Prop} : Rx0 Z (ev Φ (.var i) E) C Q ↔ Rx0 Z (lift "var" (getE E i)) C Q := by rfl
theorem j9a {t : T} {Q : T → jAa → Prop} : Rx0 Z (ev Φ (.con t) E) C Q ↔ Q t C := by rfl
theorem zCf {a : Ex} {Q : T → jAa → Prop} : Rx0 Z (ev Φ (.nt a) E) C Q ↔ Rx0 Z (ev Φ a E) C fun x C => Rx0 Z (lift "truth" (truT x)) C fun b C => Q (.bl (!b)) C := by simp only [jQr, truM, jAo]; rfl
theorem j6b {op : CmpOp} {a b : Ex} {Q : T → jAa → Prop} : Rx0 Z (ev Φ (.cmp op a b) E) C Q ↔ Rx0 Z (ev Φ a E) C fun x C => Rx0 Z (ev Φ b E) C fun y C => Rx0 Z (lift "cmp" (cmpT op x y)) C fun k C => Q (.bl k) C := by simp only [jFh, cmpM, jAo]; rfl
theorem j2e  {Q : T → jAa → Prop} : Rx0 Z (ev Φ (.dsp .nil) E) C Q ↔ Q (.dic [] []) C := by simp only [jMj, jAo]; exact Iff.rfl
theorem zAj {a : Ex} {ty : Ty} {ks : List Str} {Q : T → jAa → Prop} : Rx0 Z (ev Φ (.isi a ty ks) E) C Q ↔ Rx0 Z (ev Φ a E) C fun x C => Rx0 Z (lift "isi" (isiT ks x ty)) C fun b C => Q (.bl b) C := by simp only [jMo, jAo]; rfl
theorem j31 {a b : Ex} {Q : T → jAa → Prop} : Rx0 Z (ev Φ (.dsp (.star a (.star b .nil))) E) C Q ↔ Rx0 Z (ev Φ a E) C fun x C => Rx0 Z (lift "dict" (dicT x)) C fun p C => Rx0 Z (need "size" (szOk (0 + p.1.length))) C fun _ C => Rx0 Z (ev Φ b E) C fun y C => Rx0 Z (lift "dict" (dicT y)) C fun q C => Rx0 Z (need "size" (szOk ((jAi p.1 p.2 ([], [])).1.length + q.1.length))) C fun _ C => Rx0 Z (need "size" (szOk (jAi q.1 q.2 (jAi p.1 p.2 ([], []))).1.length)) C fun _ C => Q (.dic (jAi q.1 q.2 (jAi p.1 p.2 ([], []))).1 (jAi q.1 q.2 (jAi p.1 p.2 ([], []))).2) C := by simp only [jMd, jAo]; rfl
theorem j4n {acc : Str} {Q : Str → jAa → Prop} : Rx0 Z (evF Φ .nil E acc) C Q ↔ Q acc C := Iff.rfl
section
variable {Q : List T → jAa → Prop}
theorem j3n : Rx0 Z (evS Φ .nil E) C Q ↔ Q [] C := Iff.rfl
theorem j4a {e : Ex} {es : Exs} : Rx0 Z (evS Φ (.cons e es) E) C Q ↔ Rx0 Z (ev Φ e E) C fun x C => Rx0 Z (evS Φ es E) C fun r C => Q (x :: r) C := by simp only [jA5, jAo]; rfl
theorem j2j : Rx0 Z (evL Φ .nil E) C Q ↔ Q [] C := Iff.rfl
theorem j33 {e : Ex} {es : Els} : Rx0 Z (evL Φ (.one e es) E) C Q ↔ Rx0 Z (ev Φ e E) C fun x C => Rx0 Z (evL Φ es E) C fun r C => Q (x :: r) C := by simp only [jEd, jAo]; rfl
theorem j38 {e : Ex} {es : Els} : Rx0 Z (evL Φ (.star e es) E) C Q ↔ Rx0 Z (ev Φ e E) C fun x C => Rx0 Z (lift "star" (items x)) C fun xs C => Rx0 Z (evL Φ es E) C fun r C => Q (xs ++ r) C := by simp only [jGi, jAo]; rfl
theorem j3z {e : Ex} : Rx0 Z (evR Φ (.enm e) E) C Q ↔ Rx0 Z (ev Φ e E) C fun t C => Rx0 Z (lift "enum" (items t)) C fun xs C => Q (xs.zipIdx.map fun p => .tup [.int p.2, p.1]) C := by simp only [jNm, jAo]; rfl
end
theorem j1s : Rx0 Z (jAh m) C Q ↔ Ok0 m C Q := by
 unfold Rx0 Ok0 jAh
 cases m C <;> rfl
theorem j8e {m : M (List T)} {Q : T → jAa → Prop} : Rx0 Z (jA4 (jAh m)) C Q ↔ Ok0 (jA4 m) C Q := by
 have e : ∀ m : M (List T), jA4 m = M.bind m fun r => if szOk r.length then M.pure (.lst r) else stuck "size" := fun _ => rfl
 rw [e, e, jAo, jAe]
 unfold Rx0 Ok0 jAh
 cases m C with
 | ok a D =>
  show Rx0 Z (if szOk a.length then _ else _) D Q ↔ Ok0 (if szOk a.length then _ else _) D Q
  by_cases q : szOk a.length = true
  ·rw [if_pos q]; exact Iff.rfl
  ·rw [if_neg q]; exact Iff.rfl
 | exc x D => rfl
 | stuck w => rfl
theorem jUo {x : T} {C : jAa} : ∀ {hs : List Hd}, (∀ t, hdsO hs x = some t → hdsM hs x C = .ok t C) ∧ (hdsO hs x = none → ∃ w, hdsM hs x C = .stuck w)
 | [] => ⟨(fun _ h => (by cases h)), (fun _ => ⟨_, rfl⟩)⟩
 | h :: r => by
  cases x with
  | obj c ns vs =>
   show (∀ t, (if h.cs.contains c then hbT ns vs h.b else hdsO r (.obj c ns vs)) = some t → (if h.cs.contains c then lift "clause" (hbT ns vs h.b) else hdsM r (.obj c ns vs)) C = .ok t C) ∧
    ((if h.cs.contains c then hbT ns vs h.b else hdsO r (.obj c ns vs)) = none → ∃ w, (if h.cs.contains c then lift "clause" (hbT ns vs h.b) else hdsM r (.obj c ns vs)) C = .stuck w)
   by_cases q : h.cs.contains c = true
   ·rw [if_pos q, if_pos q]
    exact ⟨fun t e => by rw [e]; rfl, fun e => by rw [e]; exact ⟨_, rfl⟩⟩
   ·rw [if_neg q, if_neg q]
    exact jUo
  | _ => exact ⟨(fun _ h => (by cases h)), (fun _ => ⟨_, rfl⟩)⟩
theorem jZv {m : M T} {Q : Option Int → jAa → Prop} : Rx0 Z (jCg false m) C Q ↔ Q none C := Iff.rfl
theorem j1x {m : M T} {Q : Option Int → jAa → Prop} : Rx0 Z (jCg true m) C Q ↔ Rx0 Z m C fun t C => Rx0 Z (lift "part" (intT t)) C fun i C => Q (some i) C := by
 unfold jCg
 rw [if_pos rfl]
 simp only [jAo]
 rfl
section
variable {W : Nat} {Q : RS → jAa → Prop}
theorem j6l : Rx0 Z (exS Φ W .nil E) C Q ↔ Q (.nx E) C := Iff.rfl
theorem j5m {i : Nat} {e : Ex} : Rx0 Z (ex Φ W (.set i e) E) C Q ↔ Rx0 Z (ev Φ e E) C fun t C => Q (.nx (E.set i (jAc e t))) C := by simp only [jM2, jAo]; rfl
theorem j99 {is : List Nat} {es : Exs} : Rx0 Z (ex Φ W (.par is es) E) C Q ↔ Rx0 Z (evS Φ es E) C fun ts C => Rx0 Z (lift "par" (jBh is (jBe es ts) E)) C fun E C => Q (.nx E) C := by simp only [jLm, jAo]; rfl
theorem j41 {h k j : Nat} {a b : Ex} : Rx0 Z (ex Φ W (.dvm h k j a b) E) C Q ↔ Rx0 Z (ev Φ a E) C fun x C => Rx0 Z (ev Φ b E) C fun y C => Rx0 Z (lift "dvm" (intT x)) C fun m C => Rx0 Z (lift "dvm" (intT y)) C fun n C => Rx0 Z (need "dvm" (decide (0 < n) && decide (n < 1073741824))) C fun _ C => Rx0 Z (atX E h) C fun p C => Rx0 Z (lift "dvm" (lstT p.1)) C fun xs C => Rx0 Z (need "dvm" (decide (k < xs.length))) C fun _ C => Rx0 Z (p.2 (.lst (xs.set k (.int (m / n))))) C fun E C => Q (.nx (E.set j (.sh (.int (m % n))))) C := by simp only [jSo, jAo]; rfl
theorem j5h {x : Nat} {e : Ex} : Rx0 Z (ex Φ W (.app x e) E) C Q ↔ Rx0 Z (atX E x) C fun p0 C => Rx0 Z (lift "app" (lstT p0.1)) C fun _ C => Rx0 Z (ev Φ e E) C fun t C => Rx0 Z (atX E x) C fun p C => Rx0 Z (lift "app" (lstT p.1)) C fun xs C => Rx0 Z (need "size" (szOk (xs.length + 1))) C fun _ C => Rx0 Z (p.2 (.lst (xs ++ [t]))) C fun E C => Q (.nx E) C := by simp only [jNo, jAo]; rfl
theorem j9i {x : Nat} {i e : Ex} : Rx0 Z (ex Φ W (.ins x i e) E) C Q ↔ Rx0 Z (atX E x) C fun p0 C => Rx0 Z (lift "ins" (lstT p0.1)) C fun _ C => Rx0 Z (ev Φ i E) C fun k C => Rx0 Z (ev Φ e E) C fun t C => Rx0 Z (atX E x) C fun p C => Rx0 Z (lift "ins" (lstT p.1)) C fun xs C => Rx0 Z (lift "ins" (intT k)) C fun i C => Rx0 Z (need "ins" (decide (0 ≤ i) && decide (i ≤ xs.length) && szOk (xs.length + 1))) C fun _ C => Rx0 Z (p.2 (.lst (xs.take i.toNat ++ t :: xs.drop i.toNat))) C fun E C => Q (.nx E) C := by simp only [jS4, jAo]; rfl
theorem j8m {e : Ex} : Rx0 Z (ex Φ W (.exp e) E) C Q ↔ Rx0 Z (ev Φ e E) C fun _ C => Q (.nx E) C := by simp only [jL2, jAo]; rfl
theorem j6a {e : Ex} : Rx0 Z (ex Φ W (.ret e) E) C Q ↔ Rx0 Z (ev Φ e E) C fun t C => Q (.rt t) C := by simp only [jJ4, jAo]; rfl
theorem j78 {c : Ex} {b : Ss} : Rx0 Z (ex Φ W (.whl c b) E) C Q ↔ Rx0 Z (whlL (whlC Φ c) (fun E => exS Φ W b E) W E) C Q := by rfl
end
end
theorem j43 {E : Env} {x : Nat} {t : T} {C : jAa} {Z : T → jAa → Prop} {Q : T × (T → M Env) → jAa → Prop} (h : E[x]? = some (.ow t)) : Rx0 Z (atX E x) C Q ↔ Q (t, fun t' => M.pure (E.set x (.ow t'))) C := by
 unfold atX
 rw [h]
 exact Iff.rfl
theorem j8a {E : Env} {x n : Nat} {C : jAa} {Z : T → jAa → Prop} {Q : T × (T → M Env) → jAa → Prop} (h : E[x]? = some (.sh (.ref n))) : Rx0 Z (atX E x) C Q ↔ Q (C.getD n .non, fun t' => M.bind (upC n t') fun _ => M.pure E) C := by
 unfold atX
 rw [h]
 exact Iff.rfl
structure HngZ (Z : T → jAa → Prop) : Type
def Rx {α : Type} (Z : T → jAa → Prop) (m : M α) (C : jAa) (Q : α → jAa → Prop) (_ : Hng Q := ⟨⟩) (_ : HngZ Z := ⟨⟩) : Prop := Rx0 Z m C Q
section
variable {Φ : Calls} {E : Env} {C : jAa} {Z : T → jAa → Prop} {W : Nat}
@[simp] theorem zAb (a b c : Ex) : escR (.rngD a b c) = trE a ++ (trE b ++ trE c) := rfl
@[simp] theorem j6e (a b c : Ex) : escF (.rngD a b c) = trE a ++ (trE b ++ trE c) := rfl
@[simp] theorem jXk (i j : Nat) (f : Str) (hs : List Hd) (es : Exs) (rhs : Ex) : jA7 (.acts i j f hs es rhs) = j :: i :: (escS es ++ trE rhs) := rfl
@[simp] theorem zDq {k : Xo} {es : Exs} {Q : T → jAa → Prop} : Ok (ev Φ (.xo k es) E) C Q ↔ Ok (evS Φ es E) C fun ts C => Ok (lift "xo" (xoT k ts)) C Q := by
  show Ok0 (M.bind (evS Φ es E) fun ts => lift "xo" (xoT k ts)) C Q ↔ Ok0 _ C fun ts C => Ok0 _ C Q
  simp only [jAe]
@[simp] theorem zAr (k : Xo) (es : Exs) : escE (.xo k es) = escS es := rfl
@[simp] theorem zCk (k : Xo) (es : Exs) : trE (.xo k es) = escS es := rfl
@[simp] theorem zDw (k : Xo) (es : Exs) : fresh (.xo k es) = false := rfl
@[simp] theorem zD1 (k : Xo) (es : Exs) (t : T) : jAc (.xo k es) t = .sh t := by cases t <;> rfl
@[simp] theorem j1o (i : Nat) (c : Str) (ns : List Str) (es : Exs) (y : Nat) (f : Str) : jA7 (.rzc i c ns es y f) = escS es := rfl
@[simp] theorem j2o {f : Str} {hs : List Hd} {ix : Bool} {kk : Nat} {Q : List T → jAa → Prop} : Ok (evA Φ f hs ix .nil E kk) C Q ↔ Q [] C := Iff.rfl
@[simp] theorem j4u {f : Str} {hs : List Hd} {ix : Bool} {e : Ex} {r : Exs} {Q : List T → jAa → Prop} : Ok (evA Φ f hs ix (.cons e r) E 0) C Q ↔ Q [] C := Iff.rfl
@[simp] theorem j4l {t : T} {Q : T → jAa → Prop} : Ok (jWl false t) C Q ↔ Q t C := Iff.rfl
@[simp] theorem j2x {t : T} {ts : List T} {Q : T → jAa → Prop} : Ok (jWl true (.lst (t :: ts))) C Q ↔ Q t C := Iff.rfl
@[simp] theorem j59 {tg : Tg} {b : Ss} {x : T} {Q : RS → jAa → Prop} : Rx Z (forF Φ W tg b x E) C Q ↔ Rx Z (lift "bind" (jAz tg x E)) C fun E' C => Rx Z (exS Φ W b E') C Q := by
  show Rx0 Z (M.bind _ _) C Q ↔ _
  rw [jAo]
  exact Iff.rfl
@[simp] theorem j9e {f : T → Env → M RS} {xs : List T} : forN f xs (.nx E) = forL f xs E := rfl
end
end SI
namespace SI
inductive Path (st : List (Nat × Nat)) : Nat → Nat → Prop
 | one {a b : Nat} : (a, b) ∈ st → Path st a b
 | more {a b c : Nat} : Path st a b → (b, c) ∈ st → Path st a c
theorem Path.mono {st st' : List (Nat × Nat)} (hs : ∀ q ∈ st, q ∈ st') {a b : Nat} (h : Path st a b) : Path st' a b := by
 induction h with
 | one e => exact .one (hs _ e)
 | more _ e ih => exact .more ih (hs _ e)
end SI
namespace SI
open PySem
abbrev Has (P : Prog) (k : FK) (d : FDef) : Prop := jD0 k P.fns = some d
@[simp] theorem zAm {a b : T} : cmpT .In a b = inT a b := rfl
@[simp] theorem j3b {a b : T} : cmpT .NotIn a b = (inT a b).map (!·) := rfl
@[simp] theorem zAq {a b : T} : cmpT .Eq a b = eqT a b := rfl
@[simp] theorem j8w {a b : T} : cmpT .NotEq a b = (eqT a b).map (!·) := rfl
@[simp] theorem j57 {a b : Int} : cmpT .Lt (.int a) (.int b) = some (decide (a < b)) := rfl
@[simp] theorem j63 {a b : Int} : cmpT .LtE (.int a) (.int b) = some (decide (a ≤ b)) := rfl
@[simp] theorem j7l {a b : Int} : cmpT .Gt (.int a) (.int b) = some (decide (b < a)) := rfl
@[simp] theorem j68 {a b : Int} : cmpT .GtE (.int a) (.int b) = some (decide (b ≤ a)) := rfl
@[simp] theorem j5n {a b : T} : cmpT .Is a b = isT a b := rfl
@[simp] theorem j24 {a b : T} : cmpT .IsNot a b = (isT a b).map (!·) := rfl
@[simp] theorem zB1 : isT .non .non = some true := rfl
@[simp] theorem zCm {i : Int} : isT (.int i) .non = some false := rfl
@[simp] theorem zAy {ts : List T} : isT (.tup ts) .non = some false := rfl
@[simp] theorem zBk {b : Bool} : truT (.bl b) = some b := rfl
@[simp] theorem zBq {i : Int} : intT (.int i) = some i := rfl
@[simp] theorem zA7 {ts : List T} : lstT (.lst ts) = some ts := rfl
@[simp] theorem j7u {ts : List T} : items (.lst ts) = some ts := rfl
@[simp] theorem j8y {ts : List T} : items (.tup ts) = some ts := rfl
@[simp] theorem jL8 {n : Nat} (h : n ≤ 16777216) : szOk n = true := by unfold szOk; rw [waN]; exact waU h
@[simp] theorem zCl {a b : Int} : eqT (.int a) (.int b) = some (decide (a = b)) := jYd.eqT a b
@[simp] theorem zBh {a b : Str} : eqT (.str a) (.str b) = some (decide (a = b)) := jX4.eqT a b
@[simp] theorem jU8 {a b : List T} : binT .Add (.lst a) (.lst b) = if szOk (a.length + b.length) = true then some (.lst (a ++ b)) else none := rfl
@[simp] theorem j9f {a b : Str} : binT .Add (.str a) (.str b) = if szOk (a.length + b.length) = true then some (.str (a ++ b)) else none := rfl
@[simp] theorem j86 {a b : Int} : binT .Add (.int a) (.int b) = some (.int (a + b)) := rfl
@[simp] theorem j6y {a b : Int} : binT .Sub (.int a) (.int b) = some (.int (a - b)) := rfl
@[simp] theorem zC9 {t : T} {E : Env} : getE (.sh t :: E) 0 = some t := rfl
@[simp] theorem j9m {t : T} {E : Env} : getE (.ow t :: E) 0 = some t := rfl
@[simp] theorem zA1 {s : Slot} {E : Env} {i : Nat} : getE (s :: E) (i + 1) = getE E i := rfl
@[simp] theorem j95 {i : Nat} {t : T} {E : Env} : jAz (.nm i) t E = some (E.set i (.sh t)) := rfl
@[simp] theorem j73 {i j : Nat} {s t : T} {E : Env} : jAz (.tp [i, j]) (.tup [s, t]) E = some ((E.set i (.sh s)).set j (.sh t)) := rfl
@[simp] theorem j88 {E : Env} : jAr [] E = E := rfl
@[simp] theorem zAs {E : Env} {i : Nat} {is : List Nat} : jAr (i :: is) E = (jAr is E).set i .un := rfl
@[simp] theorem jXf {i j : Nat} {s t : Slot} {E : Env} : jBh [i, j] [s, t] E = some ((E.set i s).set j t) := rfl
@[simp] theorem jXl {i j k : Nat} {s t u : Slot} {E : Env} : jBh [i, j, k] [s, t, u] E = some (((E.set i s).set j t).set k u) := rfl
@[simp] theorem zDs {i : Nat} : tgS (.nm i) = [i] := rfl
@[simp] theorem zD5 {is : List Nat} : tgS (.tp is) = is := rfl
@[simp] theorem j28 {C : jAa} {ts : List T} : jAu C (.lst ts) = .lst ts := rfl
@[simp] theorem j2c {C : jAa} {ts : List T} : jAu C (.tup ts) = .tup ts := rfl
@[simp] theorem j2r {C : jAa} {x : Str} : jAu C (.str x) = .str x := rfl
@[simp] theorem j2n {C : jAa} {c : Str} {ns : List Str} {vs : List T} : jAu C (.obj c ns vs) = .obj c ns vs := rfl
@[simp] theorem j3o {C : jAa} {ns : List Key} {vs : List T} : jAu C (.dic ns vs) = .dic ns vs := rfl
theorem j0m {xs : List T} {k : Nat} : slcT (.lst xs) none (some (k : Int)) = some (.lst (xs.take k)) := by
 show some (T.lst (cutT xs none (some (k : Int)))) = _
 unfold cutT
 rw [HT.sIx_none, HT.sIx_nat]
 simp [List.take_eq_take_iff]
abbrev sL (L : Nat → Str) : Nat → T := fun i => .str (L i)
abbrev pL (L : Nat → Str) : Nat × Nat → T := fun q => .tup [.str (L q.1), .str (L q.2)]
abbrev Inj (L : Nat → Str) : Prop := ∀ i j, L i = L j → i = j
@[simp] theorem j2u {ks : List Str} {x : Str} : isiT ks (.str x) .str = some true := rfl
@[simp] theorem j4q {ks : List Str} {ts : List T} : isiT ks (.tup ts) .tuple = some true := rfl
@[simp] theorem zAv {ts : List T} : biT .len [.lst ts] = some (.int ts.length) := rfl
@[simp] theorem j4g {ts : List T} : biT .len [.tup ts] = some (.int ts.length) := rfl
@[simp] theorem j3g {x : Str} : biT .len [.str x] = some (.int x.length) := rfl
@[simp] theorem j9d {ts : List T} : biT .tuple [.lst ts] = some (.tup ts) := rfl
@[simp] theorem j26 {ts : List T} : biT .tuple [.tup ts] = some (.tup ts) := rfl
def letC (c : Nat) : Bool := !(Builtin.Str.occurrences ("abcdefghijklmnopqrstuvwxyz" : Str) ⟨#[c]⟩ 0 ("abcdefghijklmnopqrstuvwxyz" : Str).length 1).isEmpty
def letB (x : Str) : Bool := x.cps.toList.all letC
def jVb (x : Str) : Bool := decide (0 < x.length) && decide (x.length < 9) && letB x && x.cps.toList.all fun c => decide (c < 1000)
theorem jOm {a b : Char} (h : a.toNat = b.toNat) : a = b := Char.ext (UInt32.toNat.inj h)
theorem jI2 : ∀ {a b : List Char}, a.map Char.toNat = b.map Char.toNat → a = b
 | [], [], _ => rfl
 | [], _ :: _, h => by cases h
 | _ :: _, [], h => by cases h
 | x :: a, y :: b, h => by
  rw [war, war] at h
  injection h with h1 h2
  rw [jOm h1, jI2 h2]
@[simp] theorem j7i {a b : String} : (Str.ofString a = Str.ofString b) ↔ a = b := by
  constructor
  ·intro e
   rw [Str.ofString_eq_toList, Str.ofString_eq_toList] at e
   have h := wbe (fun x : Str => x.cps.toList) e
   simp only at h
   exact String.toList_inj.mp (jI2 h)
  ·rintro rfl; rfl
def ordI (L : Nat → Str) (ix : List Nat) (lt : Nat → Nat → Bool) (st : List (Nat × Nat)) : T :=
 .obj "Order" ["spot_row", "rung_row", "over_map"] [.tup (ix.map (sL L)), .tup (st.map (pL L)), .dic (ix.map fun i => .inr (L i)) (ix.map fun i => .tup ((ix.filter (lt i)).map (sL L)))]
@[simp] theorem jRo {x : Str} {t : T} {ks : List Key} {vs : List T} {put : T → M Env} {C : jAa} {Q : RS → jAa → Prop} (hk : (ks.any fun a => decide (a = .inr x)) = false) (hz : ks.length + 1 ≤ 16777216) :
  Ok (jHp (.str x) t (.dic ks vs, put)) C Q ↔ Ok (put (.dic (ks ++ [.inr x]) (vs ++ [t]))) C fun E C => Q (.nx E) C := by
  have e : jHp (.str x) t (.dic ks vs, put) = M.bind (lift "setIx" (some (.inr x))) fun k => M.bind (need "size" (szOk (ks.length + 1))) fun _ => M.bind (put (.dic (putK k t ks vs).1 (putK k t ks vs).2)) fun E' => M.pure (.nx E') := rfl
  have e2 : putK (.inr x) t ks vs = (ks ++ [.inr x], vs ++ [t]) := by
   unfold putK
   rw [hk]
   rfl
  rw [e]
  simp [jL8 hz, e2]
  exact jEr fun _ _ => Iff.rfl
@[simp] theorem jXn {k : Int} {t : T} {ts : List T} {put : T → M Env} {C : jAa} {Q : RS → jAa → Prop} {m : Nat} (hk : L2.ixN ts.length k = some m) :
  Ok (jHp (.int k) t (.lst ts, put)) C Q ↔ Ok (put (.lst (ts.set m t))) C fun E C => Q (.nx E) C := by
  have e : jHp (.int k) t (.lst ts, put) = M.bind (lift "setIx" (some k)) fun i => M.bind (lift "setIx" (L2.ixN ts.length i)) fun n => M.bind (put (.lst (ts.set n t))) fun E' => M.pure (.nx E') := rfl
  rw [e]
  simp [hk]
  exact jEr fun _ _ => Iff.rfl
@[simp] theorem j1e {c f : Str} {t : T} {ns : List Str} {vs : List T} {put : T → M Env} {C : jAa} {Q : RS → jAa → Prop} (hz : ns.length < 999) :
  Ok (jMs c f t (.obj c ns vs, put)) C Q ↔ Ok (put (.obj c (jHh f t ns vs).1 (jHh f t ns vs).2)) C fun E C => Q (.nx E) C := by
  have e : jMs c f t (.obj c ns vs, put) = M.bind (need "setAt" (c == c && decide (ns.length < 999))) fun _ => M.bind (put (.obj c (jHh f t ns vs).1 (jHh f t ns vs).2)) fun E' => M.pure (.nx E') := rfl
  rw [e]
  simp [hz]
  exact jEr fun _ _ => Iff.rfl
@[simp] theorem zA4 {t : T} {ts : List T} (h : (t :: ts).all (dat 59) = true) : eqT (.tup (t :: ts)) (.tup []) = some false := by
  unfold eqT
  have : dat 60 (.tup (t :: ts)) = true := h
  rw [this]
  rfl
section
variable {P : Prog} {n : Nat} {C : jAa} {ks : List Str} {L : Nat → Str} {Q : T → jAa → Prop}
@[simp] theorem j56 {ks : List Key} {vs : List T} {x : Str} : idxT (.dic ks vs) (.str x) = jCy (.inr x) ks vs := rfl
theorem j7c {ix : List Nat} {st : List (Nat × Nat)} {lt : Nat → Nat → Bool} : isC "Order" (ordI L ix lt st) = true := rfl
@[simp] theorem jXi {C : jAa} {ix : List Nat} {st : List (Nat × Nat)} {lt : Nat → Nat → Bool} : jAu C (ordI L ix lt st) = ordI L ix lt st := rfl
end
def covA (lt : Nat → Nat → Bool) (ys : List Nat) (a : Nat) : List Nat := (ys.filter (lt a)).filter fun b => !(ys.filter (lt a)).any fun c => lt c b
def cov (lt : Nat → Nat → Bool) (ys : List Nat) : List (Nat × Nat) := ys.flatMap fun a => (covA lt ys a).map fun b => (a, b)
def j1m (lt : Nat → Nat → Bool) (ys : List Nat) (a : Nat) : List Nat :=
 (if ((cov lt ys).filter fun q => decide (q.1 = a)).length = 1 then ((cov lt ys).filter fun q => decide (q.1 = a)).map (·.2) else []) ++
 (if ((cov lt ys).filter fun q => decide (q.2 = a)).length = 1 then ((cov lt ys).filter fun q => decide (q.2 = a)).map (·.1) else [])
def jRg (lt : Nat → Nat → Bool) (ys : List Nat) : List (Nat × Nat) := ys.flatMap fun a => (ys.filter fun h => decide (h ∈ j1m lt ys a)).map fun h => (a, h)
def AllC (C : jAa) : Prop := ∀ t ∈ C, ∃ a b e : Int, t = .lst [.int a, .int b, .int e]
theorem AllC.set {C : jAa} (h : AllC C) (c : Nat) (a b e : Int) : AllC (C.set c (.lst [.int a, .int b, .int e])) := fun t ht => by
 rcases List.mem_or_eq_of_mem_set ht with h2 | h2
 ·exact h t h2
 ·exact ⟨a, b, e, h2⟩
@[simp] theorem zDy : L2.ixN 3 0 = some 0 := rfl
@[simp] theorem zDr : L2.ixN 3 1 = some 1 := rfl
@[simp] theorem zDp : L2.ixN 3 2 = some 2 := rfl
@[simp] theorem zDl {a b c : T} : idxT (.lst [a, b, c]) (.int 0) = some a := rfl
@[simp] theorem zDx {a b c : T} : idxT (.lst [a, b, c]) (.int 1) = some b := rfl
@[simp] theorem zDm {a b c : T} : idxT (.lst [a, b, c]) (.int 2) = some c := rfl
@[simp] theorem jXp {C : jAa} {c : Nat} : jAu C (.ref c) = C.getD c .non := rfl
@[simp] theorem zD6 {a b : Int} (h : jE6 b = true) : binT .Mult (.int a) (.int b) = some (.int (a * b)) := by
  have e : binT .Mult (.int a) (.int b) = if (jE6 a || jE6 b) = true then some (.int (a * b)) else none := rfl
  rw [e]
  clear e
  rw [h, Bool.or_true]
  rfl
@[simp] theorem zDu {a b : Int} (h : jE6 a = true) : binT .Mult (.int a) (.int b) = some (.int (a * b)) := by
  have e : binT .Mult (.int a) (.int b) = if (jE6 a || jE6 b) = true then some (.int (a * b)) else none := rfl
  rw [e]
  clear e
  rw [h, Bool.true_or]
  rfl
@[simp] theorem zDf {a b : Int} (h : b ≠ 0) : binT .Mod (.int a) (.int b) = some (.int (a.fmod b)) := by
  show (if decide (b ≠ 0) = true then _ else _) = _
  rw [if_pos (by simp [h])]
@[simp] theorem j9o {i : Int} : biT .int [.int i] = some (.int i) := rfl
abbrev iN : Nat → T := fun k => T.int k
theorem jI8 (n : Nat) : jBd 0 n = (List.range n).map iN := by
 unfold jBd
 simp
@[simp] theorem jQv {n : Nat} (h : n ≤ 1000000) : jFs (.int (n : Int)) = M.pure ((List.range n).map iN) := by
  have e : med (n : Int) = true := by
   unfold med
   rw [wab, wac, wac]
   have : (2 : Int) ^ 62 = 4611686018427387904 := by decide
   omega
  have e2 : jFs (.int (n : Int)) = if med n = true then M.pure (jBd 0 n) else stuck "range" := rfl
  rw [e2, if_pos e, jI8]
def othN : List Str := ["zzz", "wa", "wb", "wc", "nobody"]
def keyN (p : Nat × Nat) : Nat := p.1 * 64 + p.2
abbrev SrtN (l : List (Nat × Nat)) : Prop := l.Pairwise fun a b => keyN a ≤ keyN b
section
variable {P : Prog} {n : Nat} {C : jAa} {ks : List Str} {Q : T → jAa → Prop}
structure Clo (m : Nat) (st ps : List (Nat × Nat)) : Prop where
 srt : SrtN ps
 nd : ps.Nodup
 mem : ∀ a b, (a, b) ∈ ps ↔ Path st a b
 bd : ∀ q ∈ ps, q.1 < m ∧ q.2 < m
end
theorem jQz (a b : Nat) : jBd a b = (List.range (b - a)).map fun i => iN (a + i) := by
 unfold jBd
 have : ((b : Int) - a).toNat = b - a := by omega
 rw [this]
 refine List.map_congr_left fun i _ => ?_
 show T.int _ = T.int _
 congr 1
theorem j36 {a b : Nat} (ha : a ≤ 1000000) (hb : b ≤ 1000000) : jNi (.int (a : Int)) (.int (b : Int)) = M.pure ((List.range (b - a)).map fun i => iN (a + i)) := by
 have e : ∀ n : Nat, n ≤ 1000000 → med (n : Int) = true := fun n h => by
  unfold med
  rw [wab, wac, wac]
  have : (2 : Int) ^ 62 = 4611686018427387904 := by decide
  omega
 have e2 : jNi (.int (a : Int)) (.int (b : Int)) = if (med a && med b) = true then M.pure (jBd a b) else stuck "range" := rfl
 rw [e2, e a ha, e b hb, if_pos (by rfl), jQz]
theorem jXx {ts : List T} {k : Nat} {t : T} (h : ts[k]? = some t) : idxT (.lst ts) (.int k) = some t := by
 have hk := (waf.mp h).1
 show (L2.ixN ts.length k).bind (fun k => ts[k]?) = _
 have e : L2.ixN ts.length (k : Int) = some k := by
  unfold L2.ixN
  rw [if_pos (by omega), if_pos (by omega)]
  simp
 rw [e]
 exact h
def seen (rk : List Nat) (vis : List (Nat × Nat)) : List (Nat × Nat) := vis.map fun q => (rk.getD q.1 0, rk.getD q.2 0)
structure Lnk (m : Nat) (st : List (Nat × Nat)) : Prop where
 nd : st.Nodup
 bd : ∀ q ∈ st, q.1 < m ∧ q.2 < m
 up : ∃ rk : Nat → Nat, ∀ q ∈ st, rk q.1 < rk q.2
section
variable {P : Prog} {n : Nat} {C : jAa} {ks : List Str} {Q : T → jAa → Prop} {c : Nat}
structure OrdB (P : Prog) (ks : List Str) : Prop where
 name : Has P ("", "is_name") (jM3 ks)
 wp : Has P ("", "wrong_place") (jFy ks)
 two : Has P ("", "are_two") (jNw ks)
 re : Has P ("", "reached_from") (jE8 ks)
 ws : Has P ("", "wrong_step") (jG1 ks)
 init : Has P ("Order", "__init__") (jE4 ks)
 cells : P.cells.contains "Order" = false
 pls : Has P ("Order", "places") (jFb ks)
 ab : Has P ("Order", "above") (jF4 ks)
 ck : Has P ("", "check_order") (jF6 ks)
 bel : Has P ("", "is_below_of") (jGr ks)
 ks : ks.contains "Order" = true
end
structure DrwB (P : Prog) (ks : List Str) : Prop where
 ord : OrdB P ks
 sip : Has P ("", "_law_sip") (jK4 ks)
 row : Has P ("", "_law_row") (jKn ks)
 mixed : Has P ("", "_law_mixed") (jG7 ks)
 labels : Has P ("", "_law_labels") (jGk ks)
 closed : Has P ("", "_law_closed") (jFx ks)
 links : Has P ("", "_law_links") (jHm ks)
 ground : Has P ("", "_law_ground") (jF8 ks)
 scene : Has P ("", "_law_scene") (jHs ks)
 cup : Has P ("", "_law_cup") (jKs ks)
structure Scn (lo hi m : Nat) (L : Nat → Str) (st ps : List (Nat × Nat)) : Prop where
 lo : lo ≤ m
 hi : m ≤ hi
 inj : Inj L
 nm : ∀ i, i < m → jVb (L i) = true
 lnk : Lnk m st
 clo : Clo m st ps
 nz : ∀ i, i < m → L i ∉ othN
section
variable {P : Prog} {n : Nat} {C : jAa} {ks : List Str} {Q : T → jAa → Prop} {c : Nat}
@[simp] theorem zDn : binT .Pow (.int 10) (.int 18) = some (.int 1000000000000000000) := by
  have e : binT .Pow (.int 10) (.int 18) = if (decide ((0 : Int) ≤ 18) && decide ((18 : Int) ≤ 1000000) && decide ((10 : Int).natAbs < 2 ^ 64)) = true then some (.int ((10 : Int) ^ (18 : Int).toNat)) else none := rfl
  rw [e, if_pos (by decide)]
  rfl
@[simp] theorem j9n {i : Int} : biT .abs [.int i] = some (.int (if i < 0 then -i else i)) := rfl
end
structure Shw (d b : Nat) (t : T) : Prop where
 dat : ∀ n, d ≤ n → dat n t = true
 sh : (toD t).showable = true
 len : (toD t).shown.length ≤ b
theorem jGd {d b : Nat} {t : T} (h : Shw d b t) (hd : d ≤ 60) (hb : b ≤ 16777216) : jBt t = some (toD t).shown := by
 unfold jBt
 rw [h.dat 60 hd, h.sh, jL8 (wau h.len hb)]
 rfl
theorem Shw.mono {d d' b b' : Nat} {t : T} (h : Shw d b t) (h1 : d ≤ d') (h2 : b ≤ b') : Shw d' b' t := ⟨fun n hn => h.dat n (wau h1 hn), h.sh, wau h.len h2⟩
theorem jH3 : ∀ {ts : List T}, (∀ t ∈ ts, (toD t).showable = true) → PyData.showableAll (toDs ts) = true
 | [], _ => rfl
 | t :: ts, h => by
  show ((toD t).showable && PyData.showableAll (toDs ts)) = true
  rw [h t wah, jH3 fun u hu => h u (wak _ hu)]
  rfl
theorem jCj {b : Nat} : ∀ {ts : List T}, (∀ t ∈ ts, (toD t).shown.length ≤ b) → ((PyData.shownAll (toDs ts)).map (·.length)).sum ≤ ts.length * b ∧ (PyData.shownAll (toDs ts)).length = ts.length
 | [], _ => ⟨by simp [toDs, PyData.shownAll], rfl⟩
 | t :: ts, h => by
  obtain ⟨h1, h2⟩ := jCj (ts := ts) fun u hu => h u (wak _ hu)
  have h3 := h t wah
  have e : PyData.shownAll (toDs (t :: ts)) = (toD t).shown :: PyData.shownAll (toDs ts) := rfl
  rw [e]
  simp only [war, List.sum_cons, waq, Nat.add_mul]
  omega
theorem Shw.lst {d b : Nat} {ts : List T} (h : ∀ t ∈ ts, Shw d b t) : Shw (d + 1) (ts.length * (b + 2) + 3) (.lst ts) := by
 obtain ⟨h1, h2⟩ := jCj (b := b) fun t ht => (h t ht).len
 refine ⟨fun n hn => ?_, jH3 fun t ht => (h t ht).sh, ?_⟩
 ·obtain ⟨m, rfl⟩ : ∃ m, n = m + 1 := ⟨n - 1, by omega⟩
  show ts.all (SI.dat m) = true
  exact wag.mpr fun t ht => (h t ht).dat m (by omega)
 ·show (listText (PyData.shownAll (toDs ts))).length ≤ _
  have := listText_len_le (PyData.shownAll (toDs ts))
  rw [h2] at this
  rw [Nat.mul_add]
  omega
theorem Shw.tup {d b : Nat} {ts : List T} (h : ∀ t ∈ ts, Shw d b t) : Shw (d + 1) (ts.length * (b + 2) + 3) (.tup ts) := by
 obtain ⟨h1, h2⟩ := jCj (b := b) fun t ht => (h t ht).len
 refine ⟨fun n hn => ?_, jH3 fun t ht => (h t ht).sh, ?_⟩
 ·obtain ⟨m, rfl⟩ : ∃ m, n = m + 1 := ⟨n - 1, by omega⟩
  show ts.all (SI.dat m) = true
  exact wag.mpr fun t ht => (h t ht).dat m (by omega)
 ·show (tupleText (PyData.shownAll (toDs ts))).length ≤ _
  have := tupleText_len_le (PyData.shownAll (toDs ts))
  rw [h2] at this
  rw [Nat.mul_add]
  omega
theorem Shw.bl (b : Bool) : Shw 0 5 (.bl b) := ⟨fun n _ => by cases n <;> rfl, rfl, by cases b <;> decide⟩
theorem Shw.name {x : Str} (h : jVb x = true) : Shw 0 102 (.str x) := by
 refine ⟨fun n _ => by cases n <;> rfl, rfl, ?_⟩
 simp only [jVb, wab, wac, wag] at h
 have := StrLaws.reprText_len x fun c hc => waW (h.2 c hc) (by decide)
 have e : (toD (.str x)).shown = reprText x := rfl
 rw [e]
 omega
@[simp] theorem j35 {t : T} : biT .repr [t] = (jBt t).map .str := by cases t <;> rfl
def insK (x : Nat) : List Nat → List Nat
 | [] => [x]
 | y :: ys => if x ≤ y then x :: y :: ys else y :: insK x ys
def sortK : List Nat → List Nat
 | [] => []
 | x :: xs => insK x (sortK xs)
structure LooB (P : Prog) (ks : List Str) : Prop where
 ni : Has P ("", "nearest_in") (jG4 ks)
 no : Has P ("", "nearest_of") (jHl ks)
 ho : Has P ("", "hosts_of") (jK7 ks)
 lo : Has P ("", "loose_of") (jKr ks)
structure LloB (P : Prog) (ks : List Str) : Prop where
 ho : Has P ("", "_law_hosts") (jHa ks)
 lo : Has P ("", "_law_loose") (jHq ks)
@[simp] theorem jXe {k : Nat} (h : k ≤ 1000000) : biT .lrange [.int (k : Int)] = some (.lst ((List.range k).map iN)) := by
  have e : med (k : Int) = true := by
   unfold med
   rw [wab, wac, wac]
   have : (2 : Int) ^ 62 = 4611686018427387904 := by decide
   omega
  have e2 : biT .lrange [.int (k : Int)] = if (med (k : Int) && szOk (k : Int).toNat) = true then some (.lst (jBd 0 k)) else none := rfl
  rw [e2, e, Int.toNat_natCast, jL8 (by omega), if_pos (show (true && true) = true from rfl), jI8]
@[simp] theorem zC8 {t : T} : pick [t] [.arg 0] = some [t] := rfl
@[simp] theorem zBn {t u : T} : pick [t, u] [.arg 0, .arg 1] = some [t, u] := rfl
@[simp] theorem j5y {a b : Int} : biT .max2 [.int a, .int b] = some (.int (if b > a then b else a)) := rfl
@[simp] theorem j5e {a b : Int} : biT .min2 [.int a, .int b] = some (.int (if b < a then b else a)) := rfl
def appS : Ss → Ss → Ss
 | .nil, r => r
 | .cons s x, r => .cons s (appS x r)
def tkS : Nat → Ss → Ss
 | 0, _ => .nil
 | _ + 1, .nil => .nil
 | n + 1, .cons s x => .cons s (tkS n x)
def dpS : Nat → Ss → Ss
 | 0, x => x
 | _ + 1, .nil => .nil
 | n + 1, .cons _ x => dpS n x
theorem jEw : ∀ (n : Nat) (x : Ss), appS (tkS n x) (dpS n x) = x
 | 0, _ => rfl
 | _ + 1, .nil => rfl
 | n + 1, .cons s x => by
  show Ss.cons s (appS (tkS n x) (dpS n x)) = _
  rw [jEw n x]
theorem jIr {Φ : Calls} {W : Nat} : ∀ (a b : Ss) (E : Env), exS Φ W (appS a b) E = M.bind (exS Φ W a E) fun o => match o with
  | .nx E' => exS Φ W b E'
  | o => M.pure o
 | .nil, b, E => rfl
 | .cons s a, b, E => by
  show exS Φ W (.cons s (appS a b)) E = _
  rw [exS, exS]
  funext C
  show M.bind _ _ C = M.bind (M.bind _ _) _ C
  unfold M.bind
  cases ex Φ W s (frzE (jA7 s) E) C with
  | ok o D =>
   cases o with
   | nx E' => exact congrFun (jIr a b E') D
   | bk => rfl
   | ct => rfl
   | rt => rfl
  | exc => rfl
  | stuck => rfl
theorem jYg {Φ : Calls} {W : Nat} (n : Nat) {x : Ss} {E E' : Env} {C : jAa} {Q : RS → jAa → Prop} (h : exS Φ W (tkS n x) E C = .ok (.nx E') C) (q : Ok (exS Φ W (dpS n x) E') C Q) : Ok (exS Φ W x E) C Q := by
 obtain ⟨a, C', h1, h2⟩ := jOj.mp q
 refine jOj.mpr ⟨a, C', ?_, h2⟩
 rw [← jEw n x, jIr]
 unfold M.bind
 rw [h]
 exact h1
structure OrdL (lt : Nat → Nat → Bool) : Prop where
 asy : ∀ a b, lt a b = true → lt b a = false
 tr : ∀ a b c, lt a b = true → lt b c = true → lt a c = true
def Up (lt : Nat → Nat → Bool) (xs : List Nat) (x h : Nat) : Prop := h ∈ xs ∧ lt x h = true ∧ ∀ z ∈ xs, lt x z = true → z = h ∨ lt h z = true
def Irr (lt : Nat → Nat → Bool) (xs : List Nat) (x h : Nat) : Prop := Up lt xs x h ∨ Up (fun a b => lt b a) xs x h
def le (lt : Nat → Nat → Bool) (a b : Nat) : Prop := a = b ∨ lt a b = true
theorem le.tr {lt : Nat → Nat → Bool} (o : OrdL lt) {a b c : Nat} (h : le lt a b) (k : le lt b c) : le lt a c := by
 rcases h with rfl | h
 ·exact k
 ·rcases k with rfl | k
  ·exact .inr h
  ·exact .inr (o.tr _ _ _ h k)
structure Mono (lt : Nat → Nat → Bool) (xs ys : List Nat) (f : Nat → Nat) : Prop where
 mem : ∀ a ∈ xs, f a ∈ ys
 mono : ∀ a ∈ xs, ∀ b ∈ xs, lt a b = true → le lt (f a) (f b)
theorem Mono.le {lt : Nat → Nat → Bool} {xs ys : List Nat} {f : Nat → Nat} (m : Mono lt xs ys f) {a b : Nat} (ha : a ∈ xs) (hb : b ∈ xs) (h : le lt a b) : SI.le lt (f a) (f b) := by
 rcases h with rfl | h
 ·exact .inl rfl
 ·exact m.mono a ha b hb h
inductive Con (lt : Nat → Nat → Bool) (xs : List Nat) : (Nat → Nat) → Prop
 | id : Con lt xs fun a => a
 | up {f g : Nat → Nat} : Con lt xs f → Mono lt xs xs g → ((∀ a ∈ xs, le lt (f a) (g a)) ∨ ∀ a ∈ xs, le lt (g a) (f a)) → Con lt xs g
def rt (x h a : Nat) : Nat := if a = x then h else a
def wo (xs : List Nat) (x : Nat) : List Nat := xs.filter fun a => decide (a ≠ x)
inductive Tak (lt : Nat → Nat → Bool) : List Nat → Prop
 | one (a : Nat) : Tak lt [a]
 | more {xs : List Nat} {x h : Nat} : x ∈ xs → Irr lt xs x h → Tak lt (wo xs x) → Tak lt xs
def gr (lt : Nat → Nat → Bool) : Nat → List Nat → List (Nat × Nat) × List Nat
 | 0, xs => ([], xs)
 | n + 1, xs => match jRg lt xs with
  | [] => ([], xs)
  | p :: _ => (p :: (gr lt n (wo xs p.1)).1, (gr lt n (wo xs p.1)).2)
def cnt (lt : Nat → Nat → Bool) : Nat → List Nat → Nat
 | 0, _ => 0
 | n + 1, xs => if xs.length = 1 then 1 else ((jRg lt xs).map fun p => cnt lt n (wo xs p.1)).sum
structure TakB (P : Prog) (ks : List Str) : Prop where
 ord : OrdB P ks
 loo : LooB P ks
 wo : Has P ("", "without_places") (jD1 ks)
 tk : Has P ("", "takings_of") (jG2 ks)
 lb : Has P ("", "left_by") (jLr ks)
 len : Has P ("Order", "__len__") (jGv ks)
@[simp] theorem j2f {a : T} : binT .Mult (.lst [a]) (.int 2) = some (.lst [a, a]) := rfl
@[simp] theorem zDe {l : List Int} {t : T} : nsS l (.sh t) = true := rfl
@[simp] theorem zBy {l : List Int} : nsS l .un = true := rfl
@[simp] theorem j6h {l : List Int} {ts : List T} : nsS l (.ow (.lst ts)) = nsTs l ts := rfl
theorem Shw.two {d b : Nat} {t : T} (h : Shw d b t) : Shw (d + 1) (2 * (b + 2) + 3) (.lst [t, t]) := (Shw.lst fun u hu => by
 simp at hu
 rcases hu with rfl | rfl <;> exact h).mono (waK _) (by simp)
theorem Shw.nat {k : Nat} (h : k < 10 ^ 12) : Shw 0 12 (.int k) := ⟨fun n _ => by cases n <;> rfl, by
 show decide (((k : Int).natAbs.log2 : Nat) < 1920) = true
 rw [wac]
 refine Nat.lt_of_le_of_lt (m := 40) ?_ (by decide)
 have : (k : Int).natAbs < 2 ^ 40 := by simp; omega
 by_cases z : (k : Int).natAbs = 0
 ·rw [z]; decide
 ·exact Nat.le_of_lt ((Nat.log2_lt z).mpr this), PyProof.Rows.toString_length_le (v := (k : Int)) (by omega) (by decide) (by omega)⟩
@[simp] theorem zCu {a b : Bool} : eqT (.bl a) (.bl b) = some (decide (a = b)) := by cases a <;> cases b <;> rfl
structure jGg (P : Prog) : Prop where
 h__law_sorts : Has P ("", "_law_sorts") jBb
 h__law_bases : Has P ("", "_law_bases") jA9
 h__law_due : Has P ("", "_law_due") jBk
 h__law_given : Has P ("", "_law_given") jAs
 h__law_kept_right : Has P ("", "_law_kept_right") jAk
 h__law_raised_right : Has P ("", "_law_raised_right") jAy
 h__law_right : Has P ("", "_law_right") jBp
 h_law : Has P ("", "law") jH0
 cells : P.cells.contains "Order" = false
theorem jZx : jGg (jAx k01_D) := ⟨by kernel_rfl, by kernel_rfl, by kernel_rfl, by kernel_rfl, by kernel_rfl, by kernel_rfl, by kernel_rfl, by kernel_rfl, by kernel_rfl⟩
def jB2 (v : T) : List T := ([.exi "InvalidText" ["given"] [v], .exi "InvalidStep" ["given"] [v], .exi "InvalidMove" ["given"] [v], .exi "InvalidName" ["given"] [v], .exi "InvalidWish" ["given"] [v], .exi "InvalidClaim" ["given"] [v], .exi "InvalidPlace" ["given"] [v], .exi "InvalidWord" ["given"] [v], .exi "NotAnOrder" ["given"] [v], .exi "NotHints" ["given"] [v], .exi "InvalidPlaces" ["index"] [v], .exi "InvalidSteps" ["index"] [v], .exi "InvalidLot" ["index"] [v]] : List T) ++ ([.exi "InvalidRow" ["index"] [v], .exi "InvalidHints" ["index"] [v], .exi "InvalidWishes" ["index"] [v], .exi "InvalidChanges" ["index"] [v], .exi "UnknownPlace" ["given"] [v], .exi "UnknownName" ["given"] [v], .exi "InUse" ["index"] [v], .exi "Moving" ["found"] [v], .exi "Impossible" [] [], .exi "Shared" ["given"] [v], .exi "TooMany" ["most"] [v], .exi "NothingToUndo" [] [], .exi "Broken" ["shown", "index"] [.int 7, v]] : List T)
def jDg (k : Nat) : T := .lst ((List.range 26).map fun j => .bl (decide (j = k)))
def jDu (k : Nat) : T := .lst [.bl (decide (k < 17)), .bl (decide (16 < k ∧ k < 20)), .bl (decide (19 < k)), .bl (decide (k < 17)), .bl (decide (16 < k ∧ k < 20)), .bl (decide (19 < k)), .bl false, .bl false, .bl false]
def jDe (v : T) (k : Nat) : T := (jB2 v)[k]?.getD .non
theorem lt26 {p : Nat → Prop} (h : ∀ j, j < 26 → p j) : ∀ k, k < 26 → p k := h
section
variable {P : Prog} {n : Nat} {C : jAa} {Q : T → jAa → Prop} {v : T}
theorem jKl {Φ : Calls} : exS Φ 100000 (tkS 15 jAs.body) [.sh v, .un, .un] C = .ok (.nx [.sh v, .ow (.lst (jB2 v)), .ow (.lst (jB2 v))]) C := by kernel_rfl
theorem jKu {Φ : Calls} {L M : List T} : exS Φ 100000 (dpS 15 jAs.body) [.sh v, .ow (.lst L), .ow (.lst M)] C = .ok (.rt (.lst [.lst L, .lst M])) C := by kernel_rfl
theorem jUc {Φ : Calls} {W : Nat} (n : Nat) {x : Ss} {E E' : Env} {C : jAa} {t : T} (h1 : exS Φ W (tkS n x) E C = .ok (.nx E') C) (h2 : exS Φ W (dpS n x) E' C = .ok (.rt t) C) : exS Φ W x E C = .ok (.rt t) C := by
 rw [← jEw n x, jIr]
 unfold M.bind
 rw [h1]
 exact h2
theorem jF0 {k : FK} {d : FDef} {ts : List T} {E : Env} {t : T} (h : Has P k d) (hk : k.2 ≠ ("" : Str)) (hb : k.1 ≠ ("!" : Str)) (hl : ts.length = d.ps) (hE : ts.map .sh ++ List.replicate (d.n - ts.length) .un = E) (e : ∀ Φ : Calls, exS Φ 100000 d.body E C = .ok (.rt t) C) (q : Q t C) : Ok (call P 100000 (n + 1) k ts) C Q := by
 subst hE
 exact jHt h hk hl (j5o (e _) q) hb
theorem jK5 (Φ : Calls) : exS Φ 100000 jAs.body [.sh v, .un, .un] C = .ok (.rt (.lst [.lst (jB2 v), .lst (jB2 v)])) C :=
 jUc (x := jAs.body) 15 (jKl (Φ := Φ) (v := v) (C := C)) (jKu (v := v) (C := C))
theorem jLt (K : jGg P) (q : Q (.lst [.lst (jB2 v), .lst (jB2 v)]) C) : Ok (call P 100000 (n + 1) ("", "_law_given") [v]) C Q :=
 jF0 (d := jAs) (E := [.sh v, .un, .un]) K.h__law_given (by decide) (by decide) rfl rfl jK5 q
def j7q (v : T) (k : Nat) : Prop := (∀ (Φ : Calls) (C : jAa), exS Φ 100000 jBb.body [.sh (jDe v k), .un] C = .ok (.rt (jDg k)) C) ∧ (∀ (Φ : Calls) (C : jAa), exS Φ 100000 jA9.body [.sh (jDe v k), .un] C = .ok (.rt (jDu k)) C) ∧ (∀ (Φ : Calls) (C : jAa), exS Φ 100000 jBk.body [.sh (.int k), .un, .un, .un] C = .ok (.rt (jDu k)) C)
theorem jH2 : ∀ k, k < 26 → j7q v k
 | 0, _ => ⟨fun Φ C => by kernel_rfl, fun Φ C => by kernel_rfl, fun Φ C => by kernel_rfl⟩
 | 1, _ => ⟨fun Φ C => by kernel_rfl, fun Φ C => by kernel_rfl, fun Φ C => by kernel_rfl⟩
 | 2, _ => ⟨fun Φ C => by kernel_rfl, fun Φ C => by kernel_rfl, fun Φ C => by kernel_rfl⟩
 | 3, _ => ⟨fun Φ C => by kernel_rfl, fun Φ C => by kernel_rfl, fun Φ C => by kernel_rfl⟩
 | 4, _ => ⟨fun Φ C => by kernel_rfl, fun Φ C => by kernel_rfl, fun Φ C => by kernel_rfl⟩
 | 5, _ => ⟨fun Φ C => by kernel_rfl, fun Φ C => by kernel_rfl, fun Φ C => by kernel_rfl⟩
 | 6, _ => ⟨fun Φ C => by kernel_rfl, fun Φ C => by kernel_rfl, fun Φ C => by kernel_rfl⟩
 | 7, _ => ⟨fun Φ C => by kernel_rfl, fun Φ C => by kernel_rfl, fun Φ C => by kernel_rfl⟩
 | 8, _ => ⟨fun Φ C => by kernel_rfl, fun Φ C => by kernel_rfl, fun Φ C => by kernel_rfl⟩
 | 9, _ => ⟨fun Φ C => by kernel_rfl, fun Φ C => by kernel_rfl, fun Φ C => by kernel_rfl⟩
 | 10, _ => ⟨fun Φ C => by kernel_rfl, fun Φ C => by kernel_rfl, fun Φ C => by kernel_rfl⟩
 | 11, _ => ⟨fun Φ C => by kernel_rfl, fun Φ C => by kernel_rfl, fun Φ C => by kernel_rfl⟩
 | 12, _ => ⟨fun Φ C => by kernel_rfl, fun Φ C => by kernel_rfl, fun Φ C => by kernel_rfl⟩
 | 13, _ => ⟨fun Φ C => by kernel_rfl, fun Φ C => by kernel_rfl, fun Φ C => by kernel_rfl⟩
 | 14, _ => ⟨fun Φ C => by kernel_rfl, fun Φ C => by kernel_rfl, fun Φ C => by kernel_rfl⟩
 | 15, _ => ⟨fun Φ C => by kernel_rfl, fun Φ C => by kernel_rfl, fun Φ C => by kernel_rfl⟩
 | 16, _ => ⟨fun Φ C => by kernel_rfl, fun Φ C => by kernel_rfl, fun Φ C => by kernel_rfl⟩
 | 17, _ => ⟨fun Φ C => by kernel_rfl, fun Φ C => by kernel_rfl, fun Φ C => by kernel_rfl⟩
 | 18, _ => ⟨fun Φ C => by kernel_rfl, fun Φ C => by kernel_rfl, fun Φ C => by kernel_rfl⟩
 | 19, _ => ⟨fun Φ C => by kernel_rfl, fun Φ C => by kernel_rfl, fun Φ C => by kernel_rfl⟩
 | 20, _ => ⟨fun Φ C => by kernel_rfl, fun Φ C => by kernel_rfl, fun Φ C => by kernel_rfl⟩
 | 21, _ => ⟨fun Φ C => by kernel_rfl, fun Φ C => by kernel_rfl, fun Φ C => by kernel_rfl⟩
 | 22, _ => ⟨fun Φ C => by kernel_rfl, fun Φ C => by kernel_rfl, fun Φ C => by kernel_rfl⟩
 | 23, _ => ⟨fun Φ C => by kernel_rfl, fun Φ C => by kernel_rfl, fun Φ C => by kernel_rfl⟩
 | 24, _ => ⟨fun Φ C => by kernel_rfl, fun Φ C => by kernel_rfl, fun Φ C => by kernel_rfl⟩
 | 25, _ => ⟨fun Φ C => by kernel_rfl, fun Φ C => by kernel_rfl, fun Φ C => by kernel_rfl⟩
 | k + 26, h => absurd h (by omega)
theorem jLj (K : jGg P) {k : Nat} (hk : k < 26) (q : Q (jDg k) C) : Ok (call P 100000 (n + 1) ("", "_law_sorts") [jDe v k]) C Q :=
 jF0 (d := jBb) (E := [.sh (jDe v k), .un]) K.h__law_sorts (by decide) (by decide) rfl rfl (fun Φ => (jH2 (v := v) k hk).1 Φ C) q
theorem jOq (K : jGg P) {k : Nat} (hk : k < 26) (q : Q (jDu k) C) : Ok (call P 100000 (n + 1) ("", "_law_bases") [jDe v k]) C Q :=
 jF0 (d := jA9) (E := [.sh (jDe v k), .un]) K.h__law_bases (by decide) (by decide) rfl rfl (fun Φ => (jH2 (v := v) k hk).2.1 Φ C) q
theorem jWh (K : jGg P) {k : Nat} (hk : k < 26) (q : Q (jDu k) C) : Ok (call P 100000 (n + 1) ("", "_law_due") [.int k]) C Q :=
 jF0 (d := jBk) (E := [.sh (.int k), .un, .un, .un]) K.h__law_due (by decide) (by decide) rfl rfl (fun Φ => (jH2 (v := .non) k hk).2.2 Φ C) q
theorem jMw {Φ : Calls} : exS Φ 100000 (tkS 4 jAk.body) [.sh (.lst (jB2 v)), .sh v, .un, .un, .un] C = .ok (.nx [.sh (.lst (jB2 v)), .sh v, .ow (.lst (List.replicate 23 v)), .un, .sh (.exi "Broken" ["shown", "index"] [.int 7, v])]) C := by kernel_rfl
theorem jNb {Φ : Calls} {s1 s2 : Str} {L : T} {R : List T} (hl : R.length = 23) (hR : R = List.replicate 23 v) (h1 : jBt (.lst R) = some s1) (h2 : jBt (.lst [v, .int 7]) = some s2) (q : Q (.bl true) C) : Ok (exS Φ 100000 (dpS 4 jAk.body) [.sh L, .sh v, .ow (.lst R), .un, .sh (.exi "Broken" ["shown", "index"] [.int 7, v])]) C (retQ Q) := by
 have xt : ∀ cs : List Str, cs = jAj → xoT (.fld cs "index") [.exi "Broken" ["shown", "index"] [.int 7, v]] = some v := fun cs h => by subst h; rfl
 have xs : ∀ cs : List Str, cs = jAj → xoT (.fld cs "shown") [.exi "Broken" ["shown", "index"] [.int 7, v]] = some (.int 7) := fun cs h => by subst h; rfl
 have hm : binT .Mult (.lst [v]) (.int 23) = some (.lst R) := by subst hR; rfl
 simp [jAk, dpS, h1, h2, hl, xt, xs, hm, q]
theorem j0d {Φ : Calls} {E : Env} {i y W : Nat} {c f : Str} {ns : List Str} {es : Exs} {Q : RS → jAa → Prop} : Ok (ex Φ W (.rzc i c ns es y f) E) C Q ↔ Ok (evS Φ es E) C fun ts C => Ok (need "rzc" (decide (ts.length = ns.length) && (decide (i ≠ y) && decide (i < E.length)))) C fun _ C => Ok (lift "rzc" ((ns.reverse.zip ts.reverse).lookup f)) C fun v C => Ok (lift "rzc" (biT .repr [v])) C fun s C => Ok (lift "rzc" (ownL E y)) C fun xs C => Ok (need "size" (szOk (xs.length + 1))) C fun _ C => Q (.nx ((E.set y (.ow (.lst (xs ++ [s])))).set i .un)) C := by
 have e : ex Φ W (.rzc i c ns es y f) E = M.bind (jAh (evS Φ es E)) fun ts => M.bind (need "rzc" (decide (ts.length = ns.length) && (decide (i ≠ y) && decide (i < E.length)))) fun _ => M.bind (lift "rzc" ((ns.reverse.zip ts.reverse).lookup f)) fun v => M.bind (lift "rzc" (biT .repr [v])) fun s => M.bind (lift "rzc" (ownL E y)) fun xs => M.bind (need "size" (szOk (xs.length + 1))) fun _ => M.pure (.nx ((E.set y (.ow (.lst (xs ++ [s])))).set i .un)) := rfl
 rw [e]
 show Ok0 (M.bind _ _) C Q ↔ Ok0 _ C fun ts C => Ok0 _ C fun _ C => Ok0 _ C fun v C => Ok0 _ C fun s C => Ok0 _ C fun xs C => Ok0 _ C fun _ C => _
 simp only [jAe, jL1]
 exact Iff.rfl
theorem jPh {s : Str} (K : jGg P) (hr : jBt v = some s) (q : Q (.bl true) C) : Ok (call P 100000 (n + 1) ("", "_law_raised_right") [v]) C Q := by
 refine jHt K.h__law_raised_right (by decide) rfl ?_
 have l1 : List.lookup ("given" : Str) [(("given" : Str), v)] = some v := rfl
 have l2 : List.lookup ("index" : Str) [(("shown" : Str), T.int 3), (("index" : Str), v)] = some v := rfl
 have ow : ∀ (a b : Slot) (l : List T), ownL [a, .ow (.lst l), b] 1 = some l := fun _ _ _ => rfl
 have hm : binT .Mult (.lst [.str s]) (.int 3) = some (.lst [.str s, .str s, .str s]) := rfl
 have he : eqT (.lst [.str s, .str s, .str s]) (.lst [.str s, .str s, .str s]) = some true := by
  have : PyData.eqv (toD (.lst [.str s, .str s, .str s])) (toD (.lst [.str s, .str s, .str s])) = true := by
   simp [toD, toDs, PyData.eqv, PyData.eqvAll]
  unfold eqT
  rw [this]
  rfl
 simp [jAy, j0d, hr, ow, l1, l2, hm, he, q]
theorem jPm {s1 s2 : Str} (K : jGg P) (h1 : jBt (.lst (List.replicate 23 v)) = some s1) (h2 : jBt (.lst [v, .int 7]) = some s2) (q : Q (.bl true) C) : Ok (call P 100000 (n + 1) ("", "_law_kept_right") [.lst (jB2 v), v]) C Q := by
 refine jHt K.h__law_kept_right (by decide) rfl ?_
 show Ok (exS (call P 100000 n) 100000 jAk.body [.sh (.lst (jB2 v)), .sh v, .un, .un, .un]) C (retQ Q)
 exact jYg (x := jAk.body) 4 (jMw (Φ := call P 100000 n) (v := v) (C := C)) (jNb rfl rfl h1 h2 q)
theorem jOc : (jB2 v).length = 26 := rfl
theorem jWy : ∀ k, k < 26 → eqT (jDg k) (jDg k) = some true := by decide +kernel
theorem jWz : ∀ k, k < 26 → eqT (jDu k) (jDu k) = some true := by decide +kernel
theorem jVc {k : Nat} (hk : k < 26) : idxT (.lst (jB2 v)) (.int k) = some (jDe v k) := by
 have h : (jB2 v)[k]? = some ((jB2 v)[k]'(by rw [jOc]; exact hk)) := wad _
 refine jXx (h.trans ?_)
 unfold jDe
 rw [h]
 rfl
@[irreducible] def OkI {α : Type} (m : M α) (C : jAa) (Q : α → jAa → Prop) : Prop := Ok m C Q
theorem jEv {α : Type} {m : M α} {C : jAa} {Q : α → jAa → Prop} : OkI m C Q ↔ Ok m C Q := by unfold OkI; exact Iff.rfl
theorem jIv {α : Type} {E : Env} {C : jAa} {f : T → Env → M RS} {enc : α → T} {Q : RS → jAa → Prop} {l : List α} (Inv : List α → Env → jAa → Prop) (h0 : Inv [] E C)
  (hs : ∀ pre a post E C, l = pre ++ a :: post → Inv pre E C → Ok (f (enc a) E) C (jNt (Inv (pre ++ [a])) Q)) (he : ∀ E C, Inv l E C → Q (.nx E) C) : OkI (forL f (l.map enc) E) C Q :=
 jEv.mpr (jW0 Inv h0 hs he)
theorem jUu {α : Type} {C : jAa} {f : T → M (List T)} {enc : α → T} {l : List α} (e : α → T) {r : List T} (hr : l.map e = r) {Q : T → jAa → Prop} (hz : l.length ≤ sizeLine) (h : ∀ a ∈ l, Ok (f (enc a)) C fun r C' => C' = C ∧ r = [e a])
  (q : Q (.lst r) C) : OkI (jA4 (jA1 f (l.map enc))) C Q := jEv.mpr (jS1 e hr hz h q)
theorem jMv {s s1 s2 : Str} (K : jGg P) (hr : jBt v = some s) (h1 : jBt (.lst (List.replicate 23 v)) = some s1) (h2 : jBt (.lst [v, .int 7]) = some s2) (q : Q (.bl true) C) : Ok (call P 100000 (n + 2) ("", "_law_right") [v]) C Q := by
 refine jHt K.h__law_right (by decide) rfl ?_
 simp [jBp]
 refine jLt K ?_
 have hL : (jB2 v).length = 26 := jOc
 have hx : ∀ k : Nat, k < 26 → idxT (.lst (jB2 v)) (.int k) = some (jDe v k) := fun k hk => jVc hk
 have hkp : ∀ (m : Nat) (D : jAa) (R : T → jAa → Prop), R (.bl true) D → Ok (call P 100000 (m + 1) ("", "_law_kept_right") [.lst (jB2 v), v]) D R := fun m D R q => jPm K h1 h2 q
 generalize jB2 v = L at *
 simp
 rw [← jEv]
 obtain ⟨enc, he, e2⟩ : ∃ enc : Nat → T, (∀ a, enc a = T.lst L) ∧ [T.lst L, T.lst L] = (List.range 2).map enc := ⟨fun _ => .lst L, fun _ => rfl, rfl⟩
 rw [e2]
 have r26 : jFs (.int 26) = M.pure ((List.range 26).map iN) := jQv (n := 26) (by omega)
 refine jIv (l := List.range 2) (fun pre E D => D = C ∧ ∃ s1 s2 s3 s4, E = [.sh v, s1, s2, s3, s4]) ⟨rfl, _, _, _, _, rfl⟩ ?_ ?_
 ·rintro pre a post E D hl ⟨rfl, a1, a2, a3, a4, rfl⟩
  simp [he, hL, r26]
  rw [← jEv]
  refine jIv (l := List.range 26) (fun pre E D' => D' = D ∧ ∃ s2 s3 s4, E = [.sh v, .sh (.lst L), s2, s3, s4]) ⟨rfl, _, _, _, rfl⟩ ?_ ?_
  ·rintro pr k po E D' hl4 ⟨rfl, b2, b3, b4, rfl⟩
   have hk : k < 26 := List.mem_range.mp (by rw [hl4]; simp)
   simp [hL, r26]
   rw [← jEv]
   refine jUu (l := List.range 26) (enc := iN) (fun j => T.bl (decide (j = k))) (r := (List.range 26).map fun j => T.bl (decide (j = k))) rfl (by rw [waN, List.length_range]; omega) (fun j hj => ?_) ?_
   ·simp
    omega
   ·simp [hx k hk]
    refine jLj K hk ?_
    have dq : eqT (jDg k) (.lst (List.map (fun j => .bl (decide (j = k))) (List.range 26))) = some true := jWy k hk
    simp [dq, hx k hk]
    refine jOq K hk ?_
    simp
    refine jWh K hk ?_
    simp [jWz k hk]
  ·rintro E D' ⟨rfl, b2, b3, b4, rfl⟩
   simp
   refine hkp _ _ _ ?_
   simp
 ·rintro E D ⟨rfl, a1, a2, a3, a4, rfl⟩
  simp
  refine jPh K hr ?_
  simpa using q
theorem jDn {d b : Nat} (h : Shw d b v) (hd : d ≤ 50) (hb : b ≤ 100000) : ∃ s s1 s2, jBt v = some s ∧ jBt (.lst (List.replicate 23 v)) = some s1 ∧ jBt (.lst [v, .int 7]) = some s2 := by
 have h7 : Shw d (b + 12) (.int 7) := (Shw.nat (k := 7) (by omega)).mono (wa4 _) (by omega)
 have hv : Shw d (b + 12) v := h.mono (waK _) (by omega)
 refine ⟨_, _, _, jGd h (by omega) (by omega), jGd (Shw.lst (d := d) (b := b + 12) (ts := List.replicate 23 v) fun t ht => ?_) (by omega) (by simp; omega), jGd (Shw.lst (d := d) (b := b + 12) (ts := [v, .int 7]) fun t ht => ?_) (by omega) (by simp; omega)⟩
 ·rw [(List.mem_replicate.mp ht).2]
  exact hv
 ·simp at ht
  rcases ht with rfl | rfl
  ·exact hv
  ·exact h7
theorem jWr {ws : List Int} {t : T} (h : t ∈ ([.non, .str "a", .tup [.int 1, .str "x"], .bl true, .int (-3)] ++ ws.map fun z => T.int (z.fmod 1000000000000) : List T)) : ∃ s s1 s2, jBt t = some s ∧ jBt (.lst (List.replicate 23 t)) = some s1 ∧ jBt (.lst [t, .int 7]) = some s2 := by
 rw [wa1] at h
 rcases h with h | h
 ·simp at h
  have sn : ∀ x : T, (∀ n, dat n x = true) → (toD x).showable = true → (toD x).shown.length ≤ 100 → Shw 0 100 x := fun x h1 h2 h3 => ⟨fun n _ => h1 n, h2, h3⟩
  rcases h with rfl | rfl | rfl | rfl | rfl
  ·exact jDn (sn _ (fun n => by cases n <;> rfl) rfl (by decide +kernel)) (by omega) (by omega)
  ·exact jDn (sn _ (fun n => by cases n <;> rfl) rfl (by decide +kernel)) (by omega) (by omega)
  ·refine jDn (Shw.tup (d := 0) (b := 100) (ts := [.int 1, .str "x"]) fun t ht => ?_) (by omega) (by simp)
   simp at ht
   rcases ht with rfl | rfl
   ·exact sn _ (fun n => by cases n <;> rfl) rfl (by decide +kernel)
   ·exact sn _ (fun n => by cases n <;> rfl) rfl (by decide +kernel)
  ·exact jDn (sn _ (fun n => by cases n <;> rfl) rfl (by decide +kernel)) (by omega) (by omega)
  ·exact jDn (sn _ (fun n => by cases n <;> rfl) rfl (by decide +kernel)) (by omega) (by omega)
 ·obtain ⟨z, hz, rfl⟩ := wbg.mp h
  obtain ⟨k, hk⟩ : ∃ k : Nat, z % 1000000000000 = k := ⟨(z % 1000000000000).toNat, by omega⟩
  rw [Int.fmod_eq_emod_of_nonneg _ (by omega), hk]
  exact jDn (Shw.nat (k := k) (by omega)) (by omega) (by omega)
theorem jQj {P : Prog} (K : jGg P) {n : Nat} {is : List Int} : ∃ C', call P 100000 (n + 3) ("", "law") [.lst (is.map .int)] [] = .ok (.bl true) C' := by
 have : Ok (call P 100000 (n + 3) ("", "law") [.lst (is.map .int)]) [] fun t _ => t = .bl true := by
  refine jHt K.h_law (by decide) rfl ?_
  have e6 : eqT (T.lst [T.int 6, T.int 4, T.int 5]) (T.lst [T.int 6, T.int 4, T.int 5]) = some true := by decide +kernel
  have st : slcT (.lst (is.map T.int)) none (some 3) = some (.lst ((is.map T.int).take 3)) := j0m (k := 3)
  simp [jH0, e6, st]
  have pw : binT .Pow (.int 10) (.int 12) = some (.int 1000000000000) := by kernel_rfl
  rw [← List.map_take]
  refine jS1 (l := is.take 3) (enc := T.int) (fun z => T.int (z.fmod 1000000000000)) (r := (is.take 3).map fun z => T.int (z.fmod 1000000000000)) rfl (by rw [waN, List.length_take]; omega) (fun z hz => ?_) ?_
  ·simp [pw]
  have ad : ∀ a b : List T, a.length + b.length ≤ 1000 → binT .Add (.lst a) (.lst b) = some (.lst (a ++ b)) := fun a b h => by
   rw [jU8, if_pos (by unfold szOk; rw [waN, wac]; omega)]
  rw [ad _ _ (by simp [List.length_take]; omega)]
  have ok := fun t ht => jWr (ws := is.take 3) (t := t) ht
  generalize hT : ([.non, .str "a", .tup [.int 1, .str "x"], .bl true, .int (-3)] ++ (is.take 3).map fun z => T.int (z.fmod 1000000000000) : List T) = ths at *
  have hlen : ths.length ≤ 8 := by rw [← hT]; simp; omega
  simp
  have mi : ths = ths.map id := by simp
  rw [mi]
  refine jSp (l := ths) (enc := id) (fun _ => false) id (r := []) (by simp) (by rw [waN]; omega) (fun v hv => ?_) ?_
  ·obtain ⟨s, s1, s2, h1, h2, h3⟩ := ok v hv
   simp
   refine jMv K h1 h2 h3 ?_
   simp
  ·have e0 : eqT (T.lst []) (T.lst []) = some true := by decide +kernel
   simp [e0]
 obtain ⟨a, C', e, rfl⟩ := jOj.mp this
 exact ⟨C', e⟩
end
theorem k01_law_ok : ∀ is : List Int, is.length ≤ 63 → ∃ C', call (jAx k01_D) 100000 (30 + 1) ("", "law") [.lst (is.map .int)] [] = .ok (.bl true) C' := fun is hl => jQj (n := 28) jZx
end SI
open PySem PySem.W PySem.Calls PyProof.Rows
set_option maxRecDepth 100000 in
set_option maxHeartbeats 0 in
theorem PySem.Challenge.cw_stillplaces_k01_limits_and_errors_holds : PySem.Challenge.rw_stillplaces_k01_limits_and_errors.Holds := by
 w_on; o_law
 refine HandSHeadRun.head_any (r := OpenLaw.row PySem.Challenge.rw_stillplaces_k01_limits_and_errors) (q := view (OpenLaw.row PySem.Challenge.rw_stillplaces_k01_limits_and_errors).prog [41]) (H := SI.hookA SI.k01_as SI.k01_D SI.k01_G) (ob := SI.k01_ob) (M := 30000) (loose := SI.k01_nms) (d := HandSHeadRun.topDef (OpenLaw.row PySem.Challenge.rw_stillplaces_k01_limits_and_errors).prog 41) (kwd := []) (fun s => SI.obsAG_eq (HandSHeadRun.getT_eq s))
  (by kernel_rfl) (fun s => by kernel_rfl) SI.k01_run (by kernel_rfl) (by kernel_rfl) (by kernel_rfl) (by rfl) (by first | assumption | decide +kernel) (by decide +kernel) ⟨rfl, rfl, rfl, rfl, rfl, by decide +kernel⟩ ?hw ?hc
 case hw => w_witness2
 case hc => exact SI.walkI (l := PySem.Challenge.rw_stillplaces_k01_limits_and_errors) (n := 63) (N := 30) (x := "_law_cells") rfl (by decide) (by kernel_rfl) (by kernel_rfl) SI.k01_txt (by decide +kernel) (by decide +kernel) ⟨rfl, by decide, by decide⟩ SI.k01_law_ok
