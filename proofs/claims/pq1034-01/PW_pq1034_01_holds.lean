import PyProof.Rows.All
import Wide.All
import OpenK.AllK
import Wide.FinOn
import OpenK.ZGo
import Lean
import PySem.Challenge.RW_pq1034_01
set_option linter.unusedVariables false
set_option linter.unusedSimpArgs false
set_option autoImplicit false
set_option genSizeOf false
set_option genInjectivity false
set_option Elab.async false
section
open PySem PySem.W PyProof.Rows PySem.Calls
namespace Mini

inductive AV where
  | unb | non
  | bool (b : Bool) | int (i : Int) | str (s : List Nat)
  | tup (vs : List AV) | lst (vs : List AV)
  | rng (a st : Int) (n : Nat)
  | rcd (c : Nat) (fs : List AV)
  | ref (a : Nat) | spc (k : Nat)

inductive AO where
  | list (vs : List AV) | inst (c : Nat) (fs : List AV) | dict (kv : List (List Nat × AV))

noncomputable abbrev AH := List AO

@[simp] theorem AO.inst.injEq (c : Nat) (vs : List AV) (d : Nat) (ws : List AV) : (AO.inst c vs = AO.inst d ws) = (c = d ∧ vs = ws) := propext ⟨fun h => by cases h; exact ⟨rfl, rfl⟩, fun h => by rw [h.1, h.2]⟩
@[simp] theorem AV.int.injEq (i j : Int) : (AV.int i = AV.int j) = (i = j) := propext ⟨fun h => by cases h; rfl, fun h => by rw [h]⟩
@[simp] theorem AV.str.injEq (i j : List Nat) : (AV.str i = AV.str j) = (i = j) := propext ⟨fun h => by cases h; rfl, fun h => by rw [h]⟩

inductive BI where | len | abs | ord | str | listM | listF | max | all | range
inductive MN where | append | pop | index | get | find | upper | lower | rstrip | join
inductive Bop where | add | sub | mul | fdiv | mod | pow
inductive Cop where | lt | le | gt | ge | eq | ne | is | isnt | isin | nin
inductive Tgt where | one (k : Nat) | many (ks : List Nat)

mutual
inductive IE where
  | lit (v : AV)
  | nint (n : Int)
  | glb (x : Str) (v : AV)
  | loc (k : Nat)
  | and2 (a b : IE) | or2 (a b : IE)
  | ifx (c : IT) (a b : IE)
  | bin (o : Bop) (a b : IE)
  | cmp (o : Cop) (a b : IE)
  | list (m : Bool) (es : IEs) | tup (es : IEs)
  | comp (m : Bool) (names : List Str) (caps : List (Nat × Nat)) (en : Bool) (t : Tgt) (src : IE) (cond : IT) (elt : IE)
  | call (f : Nat) (es : IEs)
  | bi (b : BI) (es : IEs)
  | meth (m : MN) (o : IE) (es : IEs)
  | mown (c : Nat) (f : Nat) (o : IE) (es : IEs)
  | isi (c : Nat) (e : IE)
  | attr (c : Nat) (f : Nat) (o : IE)
  | sub (o i : IE)
  | slice (o lo hi : IE)
  | dict0
  | bad
inductive IEs where
  | nil | cons (e : IE) (r : IEs)
inductive IT where
  | val (e : IE) | not (t : IT) | and (t r : IT) | or (t r : IT) | kt | kf
  | cmp (o : Cop) (a b : IE) | cmp2 (o p : Cop) (a b c : IE)
end

inductive IS where
  | nil
  | expr (e : IE) (r : IS)
  | asg (t : Tgt) (e : IE) (r : IS)
  | asgA (c f : Nat) (o e : IE) (r : IS)
  | asgS (o i e : IE) (r : IS)
  | ite (c : IT) (a b : IS) (r : IS)
  | whl (c : IT) (b : IS) (r : IS)
  | for_ (t : Tgt) (src : IE) (b : IS) (r : IS)
  | ret (e : IE)
  | cont
  | bad

inductive AF where | nxt | cnt | ret (v : AV)

noncomputable def asI : AV → Option Int
  | .int i => some i
  | _ => none
noncomputable def asS : AV → Option (List Nat)
  | .str s => some s
  | _ => none
noncomputable def asL : AV → Option (List AV)
  | .lst s => some s
  | _ => none
noncomputable def asT : AV → Option (List AV)
  | .tup s => some s
  | _ => none
noncomputable def asB : AV → Option Bool
  | .bool s => some s
  | _ => none
noncomputable def asR : AV → Option Nat
  | .ref s => some s
  | _ => none
noncomputable def isU : AV → Bool
  | .unb => true
  | _ => false

noncomputable def lookObj (H : AH) (a : Nat) : Option AO := H[a]?

noncomputable def listAt (H : AH) (a : Nat) : Option (List AV) := (lookObj H a).bind fun
  | .list vs => some vs
  | _ => none
noncomputable def dictAt (H : AH) (a : Nat) : Option (List (List Nat × AV)) := (lookObj H a).bind fun
  | .dict kv => some kv
  | _ => none
noncomputable def instAt (H : AH) (c a : Nat) : Option (List AV) := (lookObj H a).bind fun
  | .inst d fs => if d = c then some fs else none
  | _ => none
mutual
noncomputable def toPy : Nat → AH → AV → Option PyData
  | 0, _, _ => none
  | n + 1, H, v => match v with
    | .non => some .none
    | .bool b => some (.bool b)
    | .int i => some (.int i)
    | .str s => some (.str ⟨s.toArray⟩)
    | .tup vs => (toPyL n H vs).bind fun ds => some (.tuple ds)
    | .lst vs => (toPyL n H vs).bind fun ds => some (.list ds)
    | .ref a => (listAt H a).bind fun vs => (toPyL n H vs).bind fun ds => some (.list ds)
    | _ => none
noncomputable def toPyL : Nat → AH → List AV → Option (List PyData)
  | 0, _, _ => none
  | n + 1, H, vs => match vs with
    | [] => some []
    | v :: vs => (toPy n H v).bind fun d => (toPyL n H vs).bind fun ds => some (d :: ds)
end
noncomputable def pyFuel : Nat := 100

noncomputable def listIt? (H : AH) : AV → Option (List AV)
  | .lst vs => some vs
  | .ref a => listAt H a
  | _ => none
noncomputable def items? (H : AH) (v : AV) : Option (List AV) := match v with
  | .tup vs => some vs
  | _ => listIt? H v

noncomputable def smallI (a : Int) : Bool := decide (a.natAbs < 2 ^ 30)

noncomputable def binV (o : Bop) (x y : AV) : Option AV := match o with
  | .add => match x with
    | .int a => (asI y).bind fun b => some (.int (a + b))
    | .str a => (asS y).bind fun b => if decide (a.length + b.length ≤ 10000) then some (.str (a ++ b)) else none
    | .lst a => (asL y).bind fun b => if decide (a.length + b.length ≤ 10000) then some (.lst (a ++ b)) else none
    | _ => none
  | .sub => (asI x).bind fun a => (asI y).bind fun b => some (.int (a - b))
  | .mul => (asI y).bind fun b => match x with
    | .int a => if smallI a && smallI b then some (.int (a * b)) else none
    | .lst l => match l with
      | [v] => if decide (0 ≤ b ∧ b ≤ 1000) then some (.lst (List.replicate b.toNat v)) else none
      | _ => none
    | _ => none
  | .fdiv => (asI x).bind fun a => (asI y).bind fun b => if smallI a && smallI b && decide (0 < b) then some (.int (Int.fdiv a b)) else none
  | .mod => (asI x).bind fun a => (asI y).bind fun b => if decide (0 < b) then some (.int (Int.fmod a b)) else none
  | .pow => (asI x).bind fun a => (asI y).bind fun b => if smallI a && decide (b = 0) then some (.int 1) else none

noncomputable def lensDiffer (H : AH) (a b : AV) : Option Bool := (listIt? H a).bind fun n => (listIt? H b).bind fun m => if n.length != m.length then some false else none
noncomputable def eqD (H : AH) (a b : AV) : Option Bool := (lensDiffer H a b).or <|
  (toPy pyFuel H a).bind fun x => (toPy pyFuel H b).bind fun y => if SeqAt.shaped x && SeqAt.shaped y then some (x.eqv y) else none
noncomputable def eqV (H : AH) (a b : AV) : Option Bool := match a with
  | .int i => match b with
    | .int j => some (decide (i = j))
    | _ => eqD H a b
  | .str i => match b with
    | .str j => some (decide (i = j))
    | _ => eqD H a b
  | _ => eqD H a b
noncomputable def isV (x y : AV) : Option Bool := match y with
  | .non => match x with
    | .non => some true
    | .ref _ => some false
    | .rcd _ _ => some false
    | .int _ => some false
    | .tup _ => some false
    | _ => none
  | .ref b => match x with
    | .ref a => some (decide (a = b))
    | _ => none
  | .spc b => match x with
    | .spc a => some (decide (a = b))
    | .ref _ => some false
    | .rcd _ _ => some false
    | .int _ => some false
    | _ => none
  | _ => none
noncomputable def inD (H : AH) (x c : AV) : Option Bool := (items? H c).bind fun vs => (toPy pyFuel H x).bind fun d => (toPyL pyFuel H vs).bind fun ds =>
  if SeqAt.shaped d && SeqAt.shaped (.list ds) then some (ds.any fun y => y.eqv d) else none
noncomputable def inV (H : AH) (x c : AV) : Option Bool := match c with
  | .str s => (asS x).bind fun y => match y with
    | [k] => some (s.contains k)
    | _ => none
  | _ => inD H x c
noncomputable def cmpV (H : AH) (o : Cop) (x y : AV) : Option Bool := match o with
  | .lt => (asI x).bind fun a => (asI y).bind fun b => some (decide (a < b))
  | .le => (asI x).bind fun a => (asI y).bind fun b => some (decide (a ≤ b))
  | .gt => (asI x).bind fun a => (asI y).bind fun b => some (decide (b < a))
  | .ge => (asI x).bind fun a => (asI y).bind fun b => some (decide (b ≤ a))
  | .eq => eqV H x y
  | .ne => (eqV H x y).map (!·)
  | .is => isV x y
  | .isnt => (isV x y).map (!·)
  | .isin => inV H x y
  | .nin => (inV H x y).map (!·)

noncomputable def subV (H : AH) (c i : AV) : Option AV := (asI i).bind fun i => match c with
  | .str s => if 0 ≤ i ∧ i < 2 ^ 30 then (s[i.toNat]?).map fun c => .str [c] else none
  | c => (items? H c).bind fun vs => if smallI i then (seqIndex? i vs.length).bind fun j => vs[j]? else none
noncomputable def sliceL {α : Type} (s : List α) (lo : Nat) (hi : Option Nat) : List α := match hi with
  | none => s.drop lo
  | some h => (s.take h).drop lo
noncomputable def partN : AV → Option (Option Nat)
  | .unb => some none
  | .int i => if 0 ≤ i ∧ i ≤ 2 ^ 30 then some (some i.toNat) else none
  | _ => none
noncomputable def cutV (l : Nat) (h : Option Nat) : AV → Option AV
  | .str s => if decide (s.length ≤ 10000) then some (.str (sliceL s l h)) else none
  | .lst s => if decide (s.length ≤ 10000) then some (.lst (sliceL s l h)) else none
  | _ => none
noncomputable def sliceV (c lo hi : AV) : Option AV := (partN lo).bind fun l => (partN hi).bind fun h => cutV (l.getD 0) h c

noncomputable def strS (s : List Nat) : Str := ⟨s.toArray⟩
noncomputable def strL (s : Str) : List Nat := s.cps.toList
noncomputable def alls {α : Type} (f : AV → Option α) : List AV → Option (List α)
  | [] => some []
  | v :: r => (f v).bind fun a => (alls f r).bind fun l => some (a :: l)
noncomputable abbrev strs? := alls asS
noncomputable abbrev ints? := alls asI
noncomputable abbrev bools? := alls asB
noncomputable def maxL : Int → List Int → Int
  | m, [] => m
  | m, x :: r => maxL (if m < x then x else m) r

noncomputable def one? {α : Type} : List α → Option α
  | [x] => some x
  | _ => none
noncomputable def two? {α : Type} : List α → Option (α × α)
  | [x, y] => some (x, y)
  | _ => none
noncomputable def isN : AV → Bool
  | .non => true
  | _ => false
noncomputable def lenV (H : AH) (c : AV) : Option Nat := ((asS c).map (·.length)).or ((items? H c).map (·.length))
noncomputable def rangeV (vs : List AV) : Option AV := match vs with
  | [a] => (asI a).bind fun n => if decide (0 ≤ n ∧ n ≤ 1000) then some (.rng 0 1 n.toNat) else none
  | [a, b, c] => (asI a).bind fun a => (asI b).bind fun b => (asI c).bind fun c => if decide (c = -1 ∧ b = -1 ∧ -1 ≤ a ∧ a ≤ 1000) then some (.rng a (-1) (a + 1).toNat) else none
  | _ => none
noncomputable def biV (H : AH) (b : BI) (vs : List AV) : Option (AV × AH) := match b with
  | .range => (rangeV vs).map fun v => (v, H)
  | b => (one? vs).bind fun c => match b with
    | .len => (lenV H c).bind fun n => if decide (n ≤ 10000) then some (.int n, H) else none
    | .abs => (asI c).bind fun i => some (.int (if i < 0 then -i else i), H)
    | .ord => (asS c).bind fun s => (one? s).bind fun c => some (.int c, H)
    | .str => (asI c).bind fun i => if smallI i then some (.str (strL (Str.ofString (toString i))), H) else none
    | .listM => (items? H c).bind fun vs => if decide (vs.length ≤ 10000) then some (.ref H.length, H ++ [.list vs]) else none
    | .listF => (items? H c).bind fun vs => if decide (vs.length ≤ 10000) then some (.lst vs, H) else none
    | .max => (listIt? H c).bind fun vs => (ints? vs).bind fun
      | x :: r => some (.int (maxL x r), H)
      | [] => none
    | .all => (asL c).bind fun vs => (bools? vs).bind fun bs => some (.bool (bs.all id), H)
    | .range => none

noncomputable def dictPut (kv : List (List Nat × AV)) (k : List Nat) (v : AV) : List (List Nat × AV) :=
  if (kv.lookup k).isSome then kv.map fun p => if p.1 = k then (p.1, v) else p else kv ++ [(k, v)]

noncomputable def methV (H : AH) (m : MN) (o : AV) (vs : List AV) : Option (AV × AH) := match m with
  | .append => (asR o).bind fun a => (one? vs).bind fun x => (listAt H a).bind fun vs => if decide (vs.length ≤ 10000) then some (.non, H.set a (.list (vs ++ [x]))) else none
  | .pop => (asR o).bind fun a => match vs with
    | [] => (listAt H a).bind fun vs => if decide (vs.length ≤ 10000) then (vs.getLast?).bind fun v => some (v, H.set a (.list vs.dropLast)) else none
    | _ => none
  | .index => (one? vs).bind fun x => match o with
    | .ref a => (asI x).bind fun k => (listAt H a).bind fun vs => (ints? vs).bind fun ns =>
      if ns.contains k && PyData.layable0 (.list (ns.map .int)) then some (.int (List.idxOf k ns), H) else none
    | .str s => (asS x).bind fun t => (one? t).bind fun c => match Builtin.Str.occurrences (strS s) (strS [c]) 0 (strS s).length 1 with
      | i :: _ => some (.int i, H)
      | [] => none
    | _ => none
  | .get => (asR o).bind fun a => (two? vs).bind fun p => if isN p.2 then (asS p.1).bind fun k => (dictAt H a).bind fun kv => some ((kv.lookup k).getD .non, H) else none
  | .find => (asS o).bind fun s => ((one? vs).bind fun x => (asS x).bind fun t => some (.int (Txt.find (strS s) (strS t)), H)).or
      ((two? vs).bind fun p => (asS p.1).bind fun t => (asI p.2).bind fun i => some (.int (Txt.find3 (strS s) (strS t) i), H))
  | .upper => (asS o).bind fun s => match vs with
    | [] => if decide (s.length ≤ 100) && decide ((Txt.upper (strS s)).length ≤ 1000) then some (.str (strL (Txt.upper (strS s))), H) else none
    | _ => none
  | .lower => (asS o).bind fun s => match vs with
    | [] => if decide (s.length ≤ 100) && decide ((Txt.lower (strS s)).length ≤ 1000) then some (.str (strL (Txt.lower (strS s))), H) else none
    | _ => none
  | .rstrip => (asS o).bind fun s => (one? vs).bind fun x => (asS x).bind fun t => if decide (s.length ≤ 10000) then some (.str (strL (Txt.rstripChars (strS s) (strS t))), H) else none
  | .join => (asS o).bind fun s => match s with
    | [] => (one? vs).bind fun c => (listIt? H c).bind fun vs => (strs? vs).bind fun ss =>
      if decide (ss.flatten.length ≤ 100000) && decide (ss.length ≤ 10000) then some (.str ss.flatten, H) else none
    | _ => none

noncomputable def recvOk (H : AH) (m : MN) (o : AV) : Bool := match o with
  | .ref a => match m with
    | .append | .pop | .index => (listAt H a).isSome
    | .get => (dictAt H a).isSome
    | _ => false
  | .str _ => match m with
    | .index | .find | .upper | .lower | .rstrip | .join => true
    | _ => false
  | _ => false

noncomputable def isiV (H : AH) (c : Nat) : AV → Option Bool
  | .ref a => (lookObj H a).bind fun
    | .inst d _ => some (decide (d = c))
    | _ => none
  | .rcd d _ => some (decide (d = c))
  | .int _ => some false
  | .spc _ => some false
  | _ => none

noncomputable def attrV (H : AH) (c f : Nat) (v : AV) : Option AV := match v with
  | .ref a => (instAt H c a).bind fun fs => fs[f]?
  | .rcd d fs => if d = c then fs[f]? else none
  | _ => none
noncomputable def setAttrV (H : AH) (c f : Nat) (v o : AV) : Option AH := (asR o).bind fun a => (instAt H c a).bind fun fs =>
  if f < fs.length then some (H.set a (.inst c (fs.set f v))) else none
noncomputable def setSubV (H : AH) (v o i : AV) : Option AH := (asR o).bind fun a => match i with
  | .int i => (listAt H a).bind fun vs => if 0 ≤ i ∧ i.toNat < vs.length ∧ vs.length ≤ 10000 then some (H.set a (.list (vs.set i.toNat v))) else none
  | .str k => (dictAt H a).bind fun kv => if kv.length ≤ 10000 then some (H.set a (.dict (dictPut kv k v))) else none
  | _ => none

inductive Src where | items (vs : List AV) | heap (a : Nat)
noncomputable def srcOf : AV → Option Src
  | .lst vs => some (.items vs)
  | .tup vs => some (.items vs)
  | .str s => if s.all (· < 128) then some (.items (s.map fun c => .str [c])) else none
  | .rng a st n => some (.items ((List.range n).map fun (i : Nat) => .int (a + st * (i : Int))))
  | .ref a => some (.heap a)
  | _ => none
noncomputable def enumOf (v : AV) : Option Src := (asS v).bind fun s => if s.all (· < 128) then some (.items ((s.zipIdx).map fun p => .tup [.int p.2, .str [p.1]])) else none
noncomputable def nextOf (H : AH) (i : Nat) : Src → Option (Option AV)
  | .items vs => some vs[i]?
  | .heap a => (listAt H a).bind fun vs => some vs[i]?

noncomputable def bindMany : List Nat → List AV → List AV → Option (List AV)
  | [], vs, ls => match vs with
    | [] => some ls
    | _ :: _ => none
  | k :: ks, vs, ls => match vs with
    | [] => none
    | v :: vs => if k < ls.length then bindMany ks vs (ls.set k v) else none
noncomputable def bindT (t : Tgt) (v : AV) (ls : List AV) : Option (List AV) := match t with
  | .one k => if k < ls.length then some (ls.set k v) else none
  | .many ks => (asT v).bind fun vs => bindMany ks vs ls

noncomputable def capture (n : Nat) (caps : List (Nat × Nat)) (ls : List AV) : List AV :=
  caps.foldl (fun acc p => acc.set p.1 (ls.getD p.2 .unb)) (List.replicate n .unb)

noncomputable def loopC (src : Src) (turn : AV → AH → Option (Option AV × AH)) : Nat → Nat → List AV → AH → Option (List AV × AH)
  | 0, _, _, _ => none
  | n + 1, i, acc, H => (nextOf H i src).bind fun x => match x with
    | none => some (acc, H)
    | some v => (turn v H).bind fun p => loopC src turn n (i + 1) (match p.1 with | none => acc | some y => acc ++ [y]) p.2

noncomputable def loopW (test : List AV → AH → Option (Bool × AH)) (body : List AV → AH → Option (AF × List AV × AH)) : Nat → List AV → AH → Option (AF × List AV × AH)
  | 0, _, _ => none
  | n + 1, ls, H => (test ls H).bind fun t => if t.1 then (body ls t.2).bind fun p => match p.1 with
      | .ret _ => some p
      | _ => loopW test body n p.2.1 p.2.2
    else some (.nxt, ls, t.2)

noncomputable def loopF (src : Src) (t : Tgt) (body : List AV → AH → Option (AF × List AV × AH)) : Nat → Nat → List AV → AH → Option (AF × List AV × AH)
  | 0, _, _, _ => none
  | n + 1, i, ls, H => (nextOf H i src).bind fun x => match x with
    | none => some (.nxt, ls, H)
    | some v => (bindT t v ls).bind fun ls1 => (body ls1 H).bind fun p => match p.1 with
      | .ret _ => some p
      | _ => loopF src t body n (i + 1) p.2.1 p.2.2

noncomputable abbrev CF := Nat → List AV → AH → Option (AV × AH)

mutual
noncomputable def evE (cf : CF) (n : Nat) : IE → List AV → AH → Option (AV × AH)
  | .lit v, _, H => some (v, H)
  | .nint k, _, H => some (.int (-k), H)
  | .glb _ v, _, H => some (v, H)
  | .loc k, ls, H => (ls[k]?).bind fun v => if isU v then none else some (v, H)
  | .and2 a b, ls, H => (evE cf n a ls H).bind fun p => (asB p.1).bind fun t => if t then evE cf n b ls p.2 else some (.bool false, p.2)
  | .or2 a b, ls, H => (evE cf n a ls H).bind fun p => (asB p.1).bind fun t => if t then some (.bool true, p.2) else evE cf n b ls p.2
  | .ifx c a b, ls, H => (evT cf n c ls H).bind fun p => if p.1 then evE cf n a ls p.2 else evE cf n b ls p.2
  | .bin o a b, ls, H => (evE cf n a ls H).bind fun p => (evE cf n b ls p.2).bind fun q => (binV o p.1 q.1).bind fun v => some (v, q.2)
  | .cmp o a b, ls, H => (evE cf n a ls H).bind fun p => (evE cf n b ls p.2).bind fun q => (cmpV q.2 o p.1 q.1).bind fun v => some (.bool v, q.2)
  | .list m es, ls, H => (evEs cf n es ls H).bind fun p => if m then some (.ref p.2.length, p.2 ++ [.list p.1]) else some (.lst p.1, p.2)
  | .tup es, ls, H => (evEs cf n es ls H).bind fun p => some (.tup p.1, p.2)
  | .comp m names caps en t src cond elt, ls, H => (evE cf n src ls H).bind fun p => (if en then enumOf p.1 else srcOf p.1).bind fun sr =>
      (loopC sr (fun v H => (bindT t v (capture names.length caps ls)).bind fun lc => (evT cf n cond lc H).bind fun q =>
        if q.1 then (evE cf n elt lc q.2).bind fun r => some (some r.1, r.2) else some (none, q.2)) n 0 [] p.2).bind fun q =>
      if m then some (.ref q.2.length, q.2 ++ [.list q.1]) else some (.lst q.1, q.2)
  | .call f es, ls, H => (evEs cf n es ls H).bind fun p => cf f p.1 p.2
  | .bi b es, ls, H => (evEs cf n es ls H).bind fun p => biV p.2 b p.1
  | .meth m o es, ls, H => (evE cf n o ls H).bind fun p => if recvOk p.2 m p.1 then (evEs cf n es ls p.2).bind fun q => methV q.2 m p.1 q.1 else none
  | .mown c f o es, ls, H => (evE cf n o ls H).bind fun p => (isiV p.2 c p.1).bind fun b => if b then (evEs cf n es ls p.2).bind fun q => cf f (p.1 :: q.1) q.2 else none
  | .isi c e, ls, H => (evE cf n e ls H).bind fun p => (isiV p.2 c p.1).bind fun b => some (.bool b, p.2)
  | .attr c f o, ls, H => (evE cf n o ls H).bind fun p => (attrV p.2 c f p.1).bind fun v => some (v, p.2)
  | .sub o i, ls, H => (evE cf n o ls H).bind fun p => (evE cf n i ls p.2).bind fun q => (subV q.2 p.1 q.1).bind fun v => some (v, q.2)
  | .slice o lo hi, ls, H => (evE cf n o ls H).bind fun p => (evE cf n lo ls p.2).bind fun q => (evE cf n hi ls q.2).bind fun r => (sliceV p.1 q.1 r.1).bind fun v => some (v, r.2)
  | .dict0, _, H => some (.ref H.length, H ++ [.dict []])
  | .bad, _, _ => none
noncomputable def evEs (cf : CF) (n : Nat) : IEs → List AV → AH → Option (List AV × AH)
  | .nil, _, H => some ([], H)
  | .cons e r, ls, H => (evE cf n e ls H).bind fun p => (evEs cf n r ls p.2).bind fun q => some (p.1 :: q.1, q.2)
noncomputable def evT (cf : CF) (n : Nat) : IT → List AV → AH → Option (Bool × AH)
  | .val e, ls, H => (evE cf n e ls H).bind fun p => (asB p.1).bind fun b => some (b, p.2)
  | .not t, ls, H => (evT cf n t ls H).bind fun p => some (!p.1, p.2)
  | .and t r, ls, H => (evT cf n t ls H).bind fun p => if p.1 then evT cf n r ls p.2 else some (false, p.2)
  | .or t r, ls, H => (evT cf n t ls H).bind fun p => if p.1 then some (true, p.2) else evT cf n r ls p.2
  | .kt, _, H => some (true, H)
  | .kf, _, H => some (false, H)
  | .cmp o a b, ls, H => (evE cf n a ls H).bind fun p => (evE cf n b ls p.2).bind fun q => (cmpV q.2 o p.1 q.1).bind fun v => some (v, q.2)
  | .cmp2 o p a b c, ls, H => (evE cf n a ls H).bind fun x => (evE cf n b ls x.2).bind fun y => (cmpV y.2 o x.1 y.1).bind fun t =>
      if t then (evE cf n c ls y.2).bind fun z => (cmpV z.2 p y.1 z.1).bind fun v => some (v, z.2) else some (false, y.2)
end

noncomputable def evS (cf : CF) (n : Nat) : IS → List AV → AH → Option (AF × List AV × AH)
  | .nil, ls, H => some (.nxt, ls, H)
  | .expr e r, ls, H => (evE cf n e ls H).bind fun p => evS cf n r ls p.2
  | .asg t e r, ls, H => (evE cf n e ls H).bind fun p => (bindT t p.1 ls).bind fun ls1 => evS cf n r ls1 p.2
  | .asgA c f o e r, ls, H => (evE cf n e ls H).bind fun p => (evE cf n o ls p.2).bind fun q => (setAttrV q.2 c f p.1 q.1).bind fun H3 => evS cf n r ls H3
  | .asgS o i e r, ls, H => (evE cf n e ls H).bind fun p => (evE cf n o ls p.2).bind fun q => (evE cf n i ls q.2).bind fun u => (setSubV u.2 p.1 q.1 u.1).bind fun H4 => evS cf n r ls H4
  | .ite c a b r, ls, H => (evT cf n c ls H).bind fun t => (if t.1 then evS cf n a ls t.2 else evS cf n b ls t.2).bind fun p => match p.1 with
      | .nxt => evS cf n r p.2.1 p.2.2
      | _ => some p
  | .whl c b r, ls, H => (loopW (evT cf n c) (evS cf n b) n ls H).bind fun p => match p.1 with
      | .nxt => evS cf n r p.2.1 p.2.2
      | _ => some p
  | .for_ t src b r, ls, H => (evE cf n src ls H).bind fun q => (srcOf q.1).bind fun sr => (loopF sr t (evS cf n b) n 0 ls q.2).bind fun p => match p.1 with
      | .nxt => evS cf n r p.2.1 p.2.2
      | _ => some p
  | .ret e, ls, H => (evE cf n e ls H).bind fun p => some (.ret p.1, ls, p.2)
  | .cont, ls, H => some (.cnt, ls, H)
  | .bad, _, _ => none

noncomputable def turnC (cf : CF) (n : Nat) (names : List Str) (caps : List (Nat × Nat)) (t : Tgt) (cond : IT) (elt : IE) (ls : List AV) (v : AV) (H : AH) : Option (Option AV × AH) :=
  (bindT t v (capture names.length caps ls)).bind fun lc => (evT cf n cond lc H).bind fun q =>
        if q.1 then (evE cf n elt lc q.2).bind fun r => some (some r.1, r.2) else some (none, q.2)

inductive Body where
  | code (b : IS)
  | make (c : Nat) (frozen : Bool) (fs : IEs)
structure Fn where
  names : List Str
  nargs : Nat
  dflts : List AV
  body : Body

noncomputable def Fn.start (fn : Fn) (args : List AV) : Option (List AV) :=
  if args.length ≤ fn.nargs ∧ fn.nargs ≤ args.length + fn.dflts.length then
    some (args ++ fn.dflts.drop (fn.dflts.length - (fn.nargs - args.length)) ++ List.replicate (fn.names.length - fn.nargs) .unb)
  else none

noncomputable def callF (P : Nat → Option Fn) : Nat → CF
  | 0, _, _, _ => none
  | n + 1, f, args, H => (P f).bind fun fn => match fn.body with
      | .code b => (fn.start args).bind fun ls => (evS (callF P n) n b ls H).bind fun p => match p.1 with
          | .ret v => some (v, p.2.2)
          | .nxt => some (.non, p.2.2)
          | .cnt => none
      | .make c frozen fs => (fn.start (.unb :: args)).bind fun ls => (evEs (callF P n) n fs ls H).bind fun p =>
          if frozen then some (.rcd c p.1, p.2) else some (.ref p.2.length, p.2 ++ [.inst c p.1])
end Mini
end

section
namespace Mini
open PySem
noncomputable def fn0 : Fn := -- law
  ⟨["script", "deck", "data", "gaps", "texts", "due", "many", "mixed", "left", "turn", "turns", "table", "at", "names"], 1, [], .code
    (.asg (.one 1) (.list true (.cons (.comp false ["cell"] [] false (.one 0) (.slice (.loc 0) (.lit .unb) (.lit (.int 63))) .kt (.bi .abs (.cons (.loc 0) .nil))) (.cons (.lit (.int 0)) .nil)))
    (.asg (.one 2) (.comp false ["text", "deck"] [(1, 1)] false (.one 0) (.bi .range (.cons (.lit (.int 2)) .nil)) .kt (.comp false ["lap", "deck"] [(1, 1)] false (.one 0) (.bi .range (.cons (.bin .add (.lit (.int 1)) (.call 1 (.cons (.loc 1) (.cons (.lit (.int 3)) .nil)))) .nil)) .kt (.call 2 (.cons (.loc 1) (.cons (.lit (.int 2)) .nil)))))
    (.asg (.one 3) (.list false (.cons (.lit (.str [32])) (.cons (.lit (.str [10])) (.cons (.lit (.str [32, 59, 32, 40, 120, 10])) (.cons (.lit (.str [9, 32])) .nil)))))
    (.asg (.one 4) (.comp false ["some", "gaps", "deck"] [(1, 3), (2, 1)] false (.one 0) (.loc 2) .kt (.meth .join (.lit (.str [])) (.cons (.comp false ["own", "gaps", "deck"] [(1, 1), (2, 2)] false (.one 0) (.loc 0) .kt (.bin .add (.sub (.loc 0) (.lit (.int 0))) (.sub (.loc 1) (.call 1 (.cons (.loc 2) (.cons (.lit (.int 4)) .nil)))))) .nil)))
    (.asg (.many [5, 6]) (.tup (.cons (.comp false ["some"] [] false (.one 0) (.loc 2) .kt (.comp false ["own"] [] false (.one 0) (.loc 0) .kt (.sub (.loc 0) (.lit (.int 1))))) (.cons (.comp false ["some"] [] false (.one 0) (.loc 2) .kt (.bi .len (.cons (.loc 0) .nil))) .nil)))
    (.asg (.many [7, 8]) (.tup (.cons (.list true .nil) (.cons (.bi .listM (.cons (.loc 6) .nil)) .nil)))
    (.whl (.cmp .ne (.loc 8) (.list false (.cons (.lit (.int 0)) (.cons (.lit (.int 0)) .nil))))
      (.asg (.one 9) (.ifx (.cmp .nin (.lit (.int 0)) (.loc 8)) (.call 1 (.cons (.loc 1) (.cons (.lit (.int 2)) .nil))) (.meth .index (.loc 8) (.cons (.bi .max (.cons (.loc 8) .nil)) .nil)))
      (.asgS (.loc 8) (.loc 9) (.bin .sub (.sub (.loc 8) (.loc 9)) (.lit (.int 1)))
      (.expr (.meth .append (.loc 7) (.cons (.loc 9) .nil))
      .nil)))
    (.for_ (.one 10) (.tup (.cons (.bin .add (.bin .mul (.list false (.cons (.lit (.int 0)) .nil)) (.sub (.loc 6) (.lit (.int 0)))) (.bin .mul (.list false (.cons (.lit (.int 1)) .nil)) (.sub (.loc 6) (.lit (.int 1))))) (.cons (.bin .add (.bin .mul (.list false (.cons (.lit (.int 1)) .nil)) (.sub (.loc 6) (.lit (.int 1)))) (.bin .mul (.list false (.cons (.lit (.int 0)) .nil)) (.sub (.loc 6) (.lit (.int 0))))) (.cons (.loc 7) .nil))))
      (.asg (.many [11, 12, 13]) (.tup (.cons (.call 46 .nil) (.cons (.list true (.cons (.lit (.int 0)) (.cons (.lit (.int 0)) .nil))) (.cons (.list false .nil) .nil))))
      (.ite (.cmp .ne (.call 5 (.cons (.loc 11) (.cons (.loc 4) (.cons (.loc 10) .nil)))) (.loc 5))
        (.ret (.lit (.bool false)))
        .nil
      (.for_ (.one 9) (.loc 10)
        (.asg (.one 13) (.bin .add (.loc 13) (.sub (.sub (.sub (.loc 2) (.loc 9)) (.sub (.loc 12) (.loc 9))) (.lit (.int 2))))
        (.asgS (.loc 12) (.loc 9) (.bin .add (.sub (.loc 12) (.loc 9)) (.lit (.int 1)))
        .nil))
      (.asg (.one 13) (.call 4 (.cons (.loc 13) .nil))
      (.ite (.or (.cmp .ne (.mown 1 31 (.loc 11) .nil) (.bi .len (.cons (.loc 13) .nil))) (.or (.cmp .ne (.comp false ["place", "table"] [(1, 11)] false (.one 0) (.bi .range (.cons (.bi .len (.cons (.loc 13) .nil)) .nil)) .kt (.attr 2 1 (.mown 1 29 (.loc 1) (.cons (.loc 0) .nil)))) (.loc 13)) .kf))
        (.ret (.lit (.bool false)))
        .nil
      .nil)))))
    (.ret (.lit (.bool true)))))))))))⟩
noncomputable def fn1 : Fn := -- _law_draw
  ⟨["deck", "many"], 2, [], .code
    (.asgS (.loc 0) (.lit (.int 1)) (.bin .add (.sub (.loc 0) (.lit (.int 1))) (.lit (.int 1)))
    (.ite (.cmp .le (.sub (.loc 0) (.lit (.int 1))) (.bi .len (.cons (.sub (.loc 0) (.lit (.int 0))) .nil)))
      (.ret (.bin .mod (.sub (.sub (.loc 0) (.lit (.int 0))) (.bin .sub (.sub (.loc 0) (.lit (.int 1))) (.lit (.int 1)))) (.loc 1)))
      .nil
    (.ret (.bin .mod (.bin .fdiv (.bin .add (.bin .add (.bin .mul (.bin .mul (.sub (.loc 0) (.lit (.int 1))) (.sub (.loc 0) (.lit (.int 1)))) (.lit (.int 37))) (.bin .mul (.lit (.int 23)) (.sub (.loc 0) (.lit (.int 1))))) (.bin .mul (.lit (.int 7)) (.bi .len (.cons (.sub (.loc 0) (.lit (.int 0))) .nil)))) (.lit (.int 5))) (.loc 1)))))⟩
noncomputable def fn2 : Fn := -- _law_datum
  ⟨["deck", "deep", "way", "name", "number", "one", "other", "names", "tail"], 2, [], .code
    (.asg (.one 2) (.ifx (.cmp .gt (.loc 1) (.lit (.int 0))) (.call 1 (.cons (.loc 0) (.cons (.lit (.int 8)) .nil))) (.call 1 (.cons (.loc 0) (.cons (.lit (.int 4)) .nil))))
    (.ite (.cmp .lt (.loc 2) (.lit (.int 2)))
      (.asg (.one 3) (.sub (.list false (.cons (.lit (.str [97])) (.cons (.lit (.str [98])) (.cons (.lit (.str [97, 98])) (.cons (.lit (.str [113, 117, 111, 116, 101])) (.cons (.lit (.str [120])) .nil)))))) (.call 1 (.cons (.loc 0) (.cons (.lit (.int 5)) .nil))))
      (.ret (.tup (.cons (.sub (.list false (.cons (.loc 3) (.cons (.meth .upper (.loc 3) .nil) .nil))) (.loc 2)) (.cons (.tup (.cons (.lit (.str [115, 121, 109, 98, 111, 108])) (.cons (.loc 3) .nil))) (.cons (.list false (.cons (.loc 3) .nil)) .nil))))))
      .nil
    (.ite (.cmp .eq (.loc 2) (.lit (.int 2)))
      (.asg (.one 4) (.bin .sub (.call 1 (.cons (.loc 0) (.cons (.lit (.int 40)) .nil))) (.lit (.int 20)))
      (.ret (.tup (.cons (.bi .str (.cons (.loc 4) .nil)) (.cons (.tup (.cons (.lit (.str [119, 104, 111, 108, 101])) (.cons (.loc 4) .nil))) (.cons (.list false .nil) .nil))))))
      .nil
    (.ite (.cmp .eq (.loc 2) (.lit (.int 3)))
      (.ret (.tup (.cons (.lit (.str [34, 97, 32, 98, 34])) (.cons (.tup (.cons (.lit (.str [116, 101, 120, 116])) (.cons (.list false (.cons (.lit (.int 97)) (.cons (.lit (.int 32)) (.cons (.lit (.int 98)) .nil)))) .nil))) (.cons (.list false .nil) .nil)))))
      .nil
    (.asg (.many [5, 6]) (.tup (.cons (.call 2 (.cons (.loc 0) (.cons (.bin .sub (.loc 1) (.lit (.int 1))) .nil))) (.cons (.call 2 (.cons (.loc 0) (.cons (.bin .sub (.loc 1) (.lit (.int 1))) .nil))) .nil)))
    (.asg (.one 7) (.bin .add (.sub (.loc 5) (.lit (.int 2))) (.sub (.loc 6) (.lit (.int 2))))
    (.ite (.cmp .eq (.loc 2) (.lit (.int 4)))
      (.ret (.tup (.cons (.bin .add (.lit (.str [39])) (.sub (.loc 5) (.lit (.int 0)))) (.cons (.tup (.cons (.lit (.str [108, 105, 115, 116])) (.cons (.list false (.cons (.tup (.cons (.lit (.str [115, 121, 109, 98, 111, 108])) (.cons (.lit (.str [113, 117, 111, 116, 101])) .nil))) (.cons (.sub (.loc 5) (.lit (.int 1))) .nil))) (.cons (.tup (.cons (.lit (.str [101, 109, 112, 116, 121])) .nil)) .nil)))) (.cons (.bin .add (.list false (.cons (.lit (.str [113, 117, 111, 116, 101])) .nil)) (.sub (.loc 5) (.lit (.int 2)))) .nil)))))
      .nil
    (.ite (.cmp .eq (.loc 2) (.lit (.int 5)))
      (.ret (.tup (.cons (.bin .add (.bin .add (.bin .add (.bin .add (.lit (.str [35, 40])) (.sub (.loc 5) (.lit (.int 0)))) (.lit (.str [32]))) (.sub (.loc 6) (.lit (.int 0)))) (.lit (.str [41]))) (.cons (.tup (.cons (.lit (.str [118, 101, 99, 116, 111, 114])) (.cons (.list false (.cons (.sub (.loc 5) (.lit (.int 1))) (.cons (.sub (.loc 6) (.lit (.int 1))) .nil))) .nil))) (.cons (.loc 7) .nil)))))
      .nil
    (.ite (.cmp .eq (.loc 2) (.lit (.int 6)))
      (.ret (.tup (.cons (.bin .add (.bin .add (.bin .add (.bin .add (.lit (.str [40])) (.sub (.loc 5) (.lit (.int 0)))) (.lit (.str [10, 32]))) (.sub (.loc 6) (.lit (.int 0)))) (.lit (.str [32, 41]))) (.cons (.tup (.cons (.lit (.str [108, 105, 115, 116])) (.cons (.list false (.cons (.sub (.loc 5) (.lit (.int 1))) (.cons (.sub (.loc 6) (.lit (.int 1))) .nil))) (.cons (.tup (.cons (.lit (.str [101, 109, 112, 116, 121])) .nil)) .nil)))) (.cons (.loc 7) .nil)))))
      .nil
    (.asg (.one 8) (.sub (.loc 6) (.lit (.int 1)))
    (.ite (.cmp .eq (.sub (.loc 8) (.lit (.int 0))) (.lit (.str [108, 105, 115, 116])))
      (.ret (.tup (.cons (.bin .add (.bin .add (.bin .add (.bin .add (.lit (.str [40])) (.sub (.loc 5) (.lit (.int 0)))) (.lit (.str [32, 46, 32]))) (.sub (.loc 6) (.lit (.int 0)))) (.lit (.str [41]))) (.cons (.tup (.cons (.lit (.str [108, 105, 115, 116])) (.cons (.bin .add (.list false (.cons (.sub (.loc 5) (.lit (.int 1))) .nil)) (.sub (.loc 8) (.lit (.int 1)))) (.cons (.sub (.loc 8) (.lit (.int 2))) .nil)))) (.cons (.loc 7) .nil)))))
      .nil
    (.ret (.tup (.cons (.bin .add (.bin .add (.bin .add (.bin .add (.lit (.str [40])) (.sub (.loc 5) (.lit (.int 0)))) (.lit (.str [32, 46, 32]))) (.sub (.loc 6) (.lit (.int 0)))) (.lit (.str [41]))) (.cons (.tup (.cons (.lit (.str [108, 105, 115, 116])) (.cons (.list false (.cons (.sub (.loc 5) (.lit (.int 1))) .nil)) (.cons (.loc 8) .nil)))) (.cons (.loc 7) .nil))))))))))))))))⟩
noncomputable def fn3 : Fn := -- _law_form
  ⟨["datum", "table", "parts"], 2, [], .code
    (.ite (.val (.isi 2 (.loc 0)))
      (.ret (.ifx (.cmp .is (.mown 1 30 (.loc 1) (.cons (.attr 2 1 (.loc 0)) .nil)) (.loc 0)) (.tup (.cons (.lit (.str [115, 121, 109, 98, 111, 108])) (.cons (.attr 2 1 (.loc 0)) .nil))) (.tup (.cons (.lit (.str [115, 116, 114, 97, 110, 103, 101])) (.cons (.attr 2 1 (.loc 0)) .nil)))))
      .nil
    (.ite (.val (.isi 4 (.loc 0)))
      (.ret (.tup (.cons (.lit (.str [116, 101, 120, 116])) (.cons (.bi .listF (.cons (.attr 4 0 (.loc 0)) .nil)) .nil))))
      .nil
    (.ite (.val (.isi 5 (.loc 0)))
      (.ret (.tup (.cons (.lit (.str [118, 101, 99, 116, 111, 114])) (.cons (.comp false ["part", "table"] [(1, 1)] false (.one 0) (.attr 5 0 (.loc 0)) .kt (.call 3 (.cons (.loc 0) (.cons (.loc 1) .nil)))) .nil))))
      .nil
    (.ite (.val (.isi 3 (.loc 0)))
      (.asg (.one 2) (.list true .nil)
      (.whl (.val (.isi 3 (.loc 0)))
        (.expr (.meth .append (.loc 2) (.cons (.call 3 (.cons (.attr 3 0 (.loc 0)) (.cons (.loc 1) .nil))) .nil))
        (.asg (.one 0) (.attr 3 1 (.loc 0))
        .nil))
      (.ret (.tup (.cons (.lit (.str [108, 105, 115, 116])) (.cons (.loc 2) (.cons (.call 3 (.cons (.loc 0) (.cons (.loc 1) .nil))) .nil)))))))
      .nil
    (.ret (.ifx (.cmp .is (.loc 0) (.glb "EMPTY" (.spc 0))) (.tup (.cons (.lit (.str [101, 109, 112, 116, 121])) .nil)) (.tup (.cons (.lit (.str [119, 104, 111, 108, 101])) (.cons (.loc 0) .nil)))))))))⟩
noncomputable def fn4 : Fn := -- _law_first
  ⟨["names", "found", "name"], 1, [], .code
    (.asg (.one 1) (.list true .nil)
    (.for_ (.one 2) (.loc 0)
      (.ite (.cmp .nin (.loc 2) (.loc 1))
        (.expr (.meth .append (.loc 1) (.cons (.loc 2) .nil))
        .nil)
        .nil
      .nil)
    (.ret (.loc 1))))⟩
noncomputable def fn5 : Fn := -- _law_read
  ⟨["table", "texts", "turns", "readers", "found", "last", "turn", "datum", "place"], 3, [], .code
    (.asg (.many [3, 4, 5]) (.tup (.cons (.comp false ["text", "table"] [(1, 0)] false (.one 0) (.loc 1) .kt (.call 55 (.cons (.loc 0) (.cons (.loc 1) .nil)))) (.cons (.comp false ["text"] [] false (.one 0) (.loc 1) .kt (.list true .nil)) (.cons (.comp true ["text"] [] false (.one 0) (.loc 1) .kt (.lit (.int 0))) .nil))))
    (.for_ (.one 6) (.loc 2)
      (.asg (.one 7) (.mown 10 7 (.sub (.loc 3) (.loc 6)) .nil)
      (.asg (.one 8) (.mown 10 6 (.sub (.loc 3) (.loc 6)) .nil)
      (.ite (.or (.cmp .is (.loc 7) (.glb "EOF" (.spc 1))) (.or (.not (.cmp2 .lt .le (.sub (.loc 5) (.loc 6)) (.loc 8) (.bi .len (.cons (.sub (.loc 1) (.loc 6)) .nil)))) .kf))
        (.ret (.lit .non))
        .nil
      (.asgS (.loc 5) (.loc 6) (.loc 8)
      (.expr (.meth .append (.sub (.loc 4) (.loc 6)) (.cons (.call 3 (.cons (.loc 7) (.cons (.loc 0) .nil))) .nil))
      .nil)))))
    (.ret (.ifx (.cmp .eq (.comp false ["reader"] [] false (.one 0) (.loc 3) (.and (.cmp .isnt (.mown 10 7 (.loc 0) .nil) (.glb "EOF" (.spc 1))) .kt) (.lit (.int 1))) (.list false .nil)) (.loc 4) (.lit .non)))))⟩
noncomputable def fn6 : Fn := -- Reader.place
  ⟨["self"], 1, [], .code
    (.ret (.attr 8 2 (.attr 10 0 (.loc 0))))⟩
noncomputable def fn7 : Fn := -- Reader.read
  ⟨["self", "token", "datum"], 1, [], .code
    (.asgA 10 2 (.loc 0) (.list true .nil)
    (.whl (.val (.lit (.bool true)))
      (.asg (.one 1) (.mown 8 16 (.attr 10 0 (.loc 0)) .nil)
      (.ite (.cmp .eq (.attr 6 0 (.loc 1)) (.lit (.str [101, 110, 100])))
        (.ite (.cmp .eq (.attr 10 2 (.loc 0)) (.list false .nil))
          (.ret (.glb "EOF" (.spc 1)))
          .nil
        .bad)
        .nil
      (.ite (.val (.mown 10 10 (.loc 0) (.cons (.loc 1) .nil)))
        .cont
        .nil
      (.ite (.cmp .eq (.attr 6 0 (.loc 1)) (.lit (.str [46])))
        (.expr (.mown 10 11 (.loc 0) (.cons (.loc 1) .nil))
        .cont)
        .nil
      (.asg (.one 2) (.ifx (.cmp .eq (.attr 6 0 (.loc 1)) (.lit (.str [41]))) (.mown 10 12 (.loc 0) (.cons (.loc 1) .nil)) (.mown 10 13 (.loc 0) (.cons (.loc 1) .nil)))
      (.ite (.val (.mown 10 14 (.loc 0) (.cons (.loc 2) (.cons (.attr 6 2 (.loc 1)) .nil))))
        (.ret (.mown 10 8 (.loc 0) (.cons (.loc 2) .nil)))
        .nil
      .nil))))))
    .nil))⟩
noncomputable def fn8 : Fn := -- Reader.last
  ⟨["self", "datum", "found"], 2, [], .code
    (.asg (.one 2) (.loc 1)
    (.whl (.cmp .ne (.attr 10 2 (.loc 0)) (.list false .nil))
      (.asg (.one 2) (.mown 10 9 (.loc 0) (.cons (.loc 2) .nil))
      .nil)
    (.ret (.loc 2))))⟩
noncomputable def fn9 : Fn := -- Reader.quoted
  ⟨["self", "datum", "frame"], 2, [], .code
    (.asg (.one 2) (.meth .pop (.attr 10 2 (.loc 0)) .nil)
    (.ret (.call 33 (.cons (.list false (.cons (.sub (.attr 9 2 (.loc 2)) (.lit (.int 0))) (.cons (.loc 1) .nil))) .nil))))⟩
noncomputable def fn10 : Fn := -- Reader.opens
  ⟨["self", "token", "sign", "name"], 2, [], .code
    (.ite (.cmp .eq (.attr 6 0 (.loc 1)) (.lit (.str [40])))
      (.expr (.meth .append (.attr 10 2 (.loc 0)) (.cons (.call 54 (.cons (.lit (.str [108, 105, 115, 116])) (.cons (.attr 6 2 (.loc 1)) (.cons (.list true .nil) .nil)))) .nil))
      (.ret (.lit (.bool true))))
      .nil
    (.ite (.cmp .eq (.attr 6 0 (.loc 1)) (.lit (.str [35, 40])))
      (.expr (.meth .append (.attr 10 2 (.loc 0)) (.cons (.call 54 (.cons (.lit (.str [118, 101, 99, 116, 111, 114])) (.cons (.attr 6 2 (.loc 1)) (.cons (.list true .nil) .nil)))) .nil))
      (.ret (.lit (.bool true))))
      .nil
    (.for_ (.many [2, 3]) (.glb "QUOTATIONS" (.tup [(.tup [(.str [39]), (.str [113, 117, 111, 116, 101])]), (.tup [(.str [96]), (.str [113, 117, 97, 115, 105, 113, 117, 111, 116, 101])]), (.tup [(.str [44]), (.str [117, 110, 113, 117, 111, 116, 101])]), (.tup [(.str [44, 64]), (.str [117, 110, 113, 117, 111, 116, 101, 45, 115, 112, 108, 105, 99, 105, 110, 103])])]))
      (.ite (.cmp .eq (.loc 2) (.attr 6 0 (.loc 1)))
        (.expr (.meth .append (.attr 10 2 (.loc 0)) (.cons (.call 54 (.cons (.lit (.str [113, 117, 111, 116, 97, 116, 105, 111, 110])) (.cons (.attr 6 2 (.loc 1)) (.cons (.list false (.cons (.mown 1 28 (.attr 10 1 (.loc 0)) (.cons (.loc 3) .nil)) .nil)) .nil)))) .nil))
        (.ret (.lit (.bool true))))
        .nil
      .nil)
    (.ret (.lit (.bool false))))))⟩
noncomputable def fn11 : Fn := -- Reader.dot
  ⟨["self", "token", "frame"], 2, [], .code
    (.ite (.cmp .eq (.attr 10 2 (.loc 0)) (.list false .nil))
      .bad
      .nil
    (.asg (.one 2) (.sub (.attr 10 2 (.loc 0)) (.nint 1))
    (.ite (.or (.cmp .ne (.attr 9 0 (.loc 2)) (.lit (.str [108, 105, 115, 116]))) (.or (.cmp .eq (.attr 9 2 (.loc 2)) (.list false .nil)) (.or (.cmp .ne (.attr 9 3 (.loc 2)) (.glb "NOT_DOTTED" (.int 0))) .kf)))
      .bad
      .nil
    (.asgA 9 3 (.loc 2) (.glb "BEHIND_DOT" (.int 1))
    .nil))))⟩
noncomputable def fn12 : Fn := -- Reader.closed
  ⟨["self", "token", "frame"], 2, [], .code
    (.ite (.cmp .eq (.attr 10 2 (.loc 0)) (.list false .nil))
      .bad
      .nil
    (.asg (.one 2) (.sub (.attr 10 2 (.loc 0)) (.nint 1))
    (.ite (.cmp .eq (.attr 9 0 (.loc 2)) (.lit (.str [113, 117, 111, 116, 97, 116, 105, 111, 110])))
      .bad
      .nil
    (.ite (.cmp .eq (.attr 9 3 (.loc 2)) (.glb "BEHIND_DOT" (.int 1)))
      .bad
      .nil
    (.expr (.meth .pop (.attr 10 2 (.loc 0)) .nil)
    (.ite (.cmp .eq (.attr 9 0 (.loc 2)) (.lit (.str [118, 101, 99, 116, 111, 114])))
      (.ret (.call 50 (.cons (.attr 9 2 (.loc 2)) .nil)))
      .nil
    (.ret (.call 33 (.cons (.attr 9 2 (.loc 2)) (.cons (.attr 9 4 (.loc 2)) .nil))))))))))⟩
noncomputable def fn13 : Fn := -- Reader.atom
  ⟨["self", "token"], 2, [], .code
    (.ret (.ifx (.cmp .eq (.attr 6 0 (.loc 1)) (.lit (.str [115, 121, 109, 98, 111, 108]))) (.mown 1 28 (.attr 10 1 (.loc 0)) (.cons (.attr 6 1 (.loc 1)) .nil)) (.attr 6 1 (.loc 1))))⟩
noncomputable def fn14 : Fn := -- Reader.delivered
  ⟨["self", "datum", "start", "found", "at", "frame"], 3, [], .code
    (.asg (.one 3) (.loc 1)
    (.asg (.one 4) (.bi .len (.cons (.attr 10 2 (.loc 0)) .nil))
    (.whl (.and (.cmp .gt (.loc 4) (.lit (.int 0))) (.and (.cmp .eq (.attr 9 0 (.sub (.attr 10 2 (.loc 0)) (.bin .sub (.loc 4) (.lit (.int 1))))) (.lit (.str [113, 117, 111, 116, 97, 116, 105, 111, 110]))) .kt))
      (.asg (.one 4) (.bin .sub (.loc 4) (.lit (.int 1)))
      .nil)
    (.ite (.cmp .eq (.loc 4) (.lit (.int 0)))
      (.ret (.lit (.bool true)))
      .nil
    (.whl (.cmp .gt (.bi .len (.cons (.attr 10 2 (.loc 0)) .nil)) (.loc 4))
      (.asg (.one 3) (.mown 10 9 (.loc 0) (.cons (.loc 3) .nil))
      .nil)
    (.asg (.one 5) (.sub (.attr 10 2 (.loc 0)) (.nint 1))
    (.ite (.cmp .eq (.attr 9 3 (.loc 5)) (.glb "HAS_TAIL" (.int 2)))
      .bad
      .nil
    (.ite (.cmp .eq (.attr 9 3 (.loc 5)) (.glb "BEHIND_DOT" (.int 1)))
      (.asgA 9 4 (.loc 5) (.loc 3)
      (.asgA 9 3 (.loc 5) (.glb "HAS_TAIL" (.int 2))
      .nil))
      (.expr (.meth .append (.attr 9 2 (.loc 5)) (.cons (.loc 3) .nil))
      .nil)
    (.ret (.lit (.bool false)))))))))))⟩
noncomputable def fn15 : Fn := -- Lexer.skip
  ⟨["self", "letter", "end"], 1, [], .code
    (.whl (.cmp .lt (.attr 8 2 (.loc 0)) (.bi .len (.cons (.attr 8 0 (.loc 0)) .nil)))
      (.asg (.one 1) (.sub (.attr 8 0 (.loc 0)) (.attr 8 2 (.loc 0)))
      (.ite (.cmp .eq (.loc 1) (.lit (.str [59])))
        (.asg (.one 2) (.meth .find (.attr 8 0 (.loc 0)) (.cons (.lit (.str [10])) (.cons (.attr 8 2 (.loc 0)) .nil)))
        (.asgA 8 2 (.loc 0) (.ifx (.cmp .lt (.loc 2) (.lit (.int 0))) (.bi .len (.cons (.attr 8 0 (.loc 0)) .nil)) (.loc 2))
        .nil))
        (.ite (.cmp .isin (.loc 1) (.glb "BLANKS" (.str [32, 10, 9, 13, 12])))
          (.asgA 8 2 (.loc 0) (.bin .add (.attr 8 2 (.loc 0)) (.lit (.int 1)))
          .nil)
          (.ret (.lit .non))
        .nil)
      .nil))
    .nil)⟩
noncomputable def fn16 : Fn := -- Lexer.token
  ⟨["self", "start", "letter", "word"], 1, [], .code
    (.expr (.mown 8 15 (.loc 0) .nil)
    (.asg (.one 1) (.attr 8 2 (.loc 0))
    (.ite (.cmp .eq (.loc 1) (.bi .len (.cons (.attr 8 0 (.loc 0)) .nil)))
      (.ret (.call 51 (.cons (.lit (.str [101, 110, 100])) (.cons (.lit .non) (.cons (.loc 1) (.cons (.loc 1) .nil))))))
      .nil
    (.asg (.one 2) (.sub (.attr 8 0 (.loc 0)) (.loc 1))
    (.ite (.cmp .isin (.loc 2) (.lit (.str [40, 41, 39, 96])))
      (.ret (.mown 8 17 (.loc 0) (.cons (.loc 2) (.cons (.lit .non) (.cons (.bin .add (.loc 1) (.lit (.int 1))) .nil)))))
      .nil
    (.ite (.cmp .eq (.loc 2) (.lit (.str [44]))) .bad .nil
    (.ite (.cmp .eq (.loc 2) (.lit (.str [34])))
      (.ret (.mown 8 22 (.loc 0) .nil))
      .nil
    (.ite (.cmp .eq (.loc 2) (.lit (.str [35])))
      (.ret (.mown 8 21 (.loc 0) .nil))
      .nil
    (.ret (.mown 8 19 (.loc 0) .nil))))))))))⟩
noncomputable def fn17 : Fn := -- Lexer.found
  ⟨["self", "word", "value", "end", "start"], 4, [], .code
    (.asg (.one 4) (.attr 8 2 (.loc 0))
    (.asgA 8 2 (.loc 0) (.loc 3)
    (.ret (.call 51 (.cons (.loc 1) (.cons (.loc 2) (.cons (.loc 4) (.cons (.loc 3) .nil))))))))⟩
noncomputable def fn18 : Fn := -- Lexer.word_end
  ⟨["self", "start", "at"], 2, [], .code
    (.asg (.one 2) (.loc 1)
    (.whl (.and (.cmp .lt (.loc 2) (.bi .len (.cons (.attr 8 0 (.loc 0)) .nil))) (.and (.cmp .nin (.sub (.attr 8 0 (.loc 0)) (.loc 2)) (.glb "DELIMITERS" (.str [32, 10, 9, 13, 12, 40, 41, 34, 59]))) .kt))
      (.ite (.cmp .isin (.sub (.attr 8 0 (.loc 0)) (.loc 2)) (.glb "RESERVED" (.str [91, 93, 123, 125, 124])))
        .bad
        .nil
      (.asg (.one 2) (.bin .add (.loc 2) (.lit (.int 1)))
      .nil))
    (.ret (.loc 2))))⟩
noncomputable def fn19 : Fn := -- Lexer.word_token
  ⟨["self", "start", "end", "own", "name"], 1, [], .code
    (.asg (.one 1) (.attr 8 2 (.loc 0))
    (.asg (.one 2) (.mown 8 18 (.loc 0) (.cons (.loc 1) .nil))
    (.asg (.one 3) (.slice (.attr 8 0 (.loc 0)) (.loc 1) (.loc 2))
    (.ite (.cmp .eq (.loc 3) (.lit (.str [46])))
      (.ret (.mown 8 17 (.loc 0) (.cons (.lit (.str [46])) (.cons (.lit .non) (.cons (.loc 2) .nil)))))
      .nil
    (.asg (.one 4) (.call 23 (.cons (.loc 3) .nil))
    (.ite (.val (.call 26 (.cons (.loc 4) .nil)))
      (.ret (.mown 8 17 (.loc 0) (.cons (.lit (.str [115, 121, 109, 98, 111, 108])) (.cons (.ifx (.val (.attr 8 3 (.loc 0))) (.loc 4) (.loc 3)) (.cons (.loc 2) .nil)))))
      .nil
    (.ite (.not (.val (.call 27 (.cons (.loc 3) .nil))))
      .bad
      .nil
    (.ret (.mown 8 17 (.loc 0) (.cons (.lit (.str [110, 117, 109, 98, 101, 114])) (.cons (.mown 8 20 (.loc 0) (.cons (.loc 3) (.cons (.loc 1) .nil))) (.cons (.loc 2) .nil))))))))))))⟩
noncomputable def fn20 : Fn := -- Lexer.number_in
  ⟨["self", "own", "start", "number"], 3, [], .code
    (.asg (.one 3) (.call 34 (.cons (.attr 8 1 (.loc 0)) (.cons (.loc 1) (.cons (.lit (.int 10)) .nil))))
    (.ite (.cmp .is (.loc 3) (.lit .non))
      .bad
      .nil
    (.ret (.loc 3))))⟩
noncomputable def fn21 : Fn := -- Lexer.sharp
  ⟨["self", "start", "second", "end"], 1, [], .code
    (.asg (.one 1) (.attr 8 2 (.loc 0))
    (.asg (.one 2) (.call 23 (.cons (.slice (.attr 8 0 (.loc 0)) (.bin .add (.loc 1) (.lit (.int 1))) (.bin .add (.loc 1) (.lit (.int 2)))) .nil))
    (.ite (.cmp .eq (.loc 2) (.lit (.str [40])))
      (.ret (.mown 8 17 (.loc 0) (.cons (.lit (.str [35, 40])) (.cons (.lit .non) (.cons (.bin .add (.loc 1) (.lit (.int 2))) .nil)))))
      .nil
    .bad)))⟩
noncomputable def fn22 : Fn := -- Lexer.string
  ⟨["self", "start", "letters", "at", "letter"], 1, [], .code
    (.asg (.one 1) (.attr 8 2 (.loc 0))
    (.asg (.one 2) (.list true .nil)
    (.asg (.one 3) (.bin .add (.loc 1) (.lit (.int 1)))
    (.whl (.val (.lit (.bool true)))
      (.ite (.cmp .ge (.loc 3) (.bi .len (.cons (.attr 8 0 (.loc 0)) .nil)))
        .bad
        .nil
      (.asg (.one 4) (.sub (.attr 8 0 (.loc 0)) (.loc 3))
      (.ite (.cmp .eq (.loc 4) (.lit (.str [34])))
        (.ret (.mown 8 17 (.loc 0) (.cons (.lit (.str [115, 116, 114, 105, 110, 103])) (.cons (.call 32 (.cons (.meth .join (.lit (.str [])) (.cons (.loc 2) .nil)) .nil)) (.cons (.bin .add (.loc 3) (.lit (.int 1))) .nil)))))
        .nil
      (.ite (.cmp .eq (.loc 4) (.lit (.str [92])))
        .bad
        .nil
      (.expr (.meth .append (.loc 2) (.cons (.loc 4) .nil))
      (.asg (.one 3) (.bin .add (.loc 3) (.lit (.int 1)))
      .nil))))))
    .nil))))⟩
noncomputable def fn23 : Fn := -- folded
  ⟨["text", "letters", "letter", "at"], 1, [], .code
    (.asg (.one 1) (.list true .nil)
    (.for_ (.one 2) (.loc 0)
      (.asg (.one 3) (.meth .find (.glb "CAPITALS" (.str [65, 66, 67, 68, 69, 70, 71, 72, 73, 74, 75, 76, 77, 78, 79, 80, 81, 82, 83, 84, 85, 86, 87, 88, 89, 90])) (.cons (.loc 2) .nil))
      (.expr (.meth .append (.loc 1) (.cons (.ifx (.cmp .lt (.loc 3) (.lit (.int 0))) (.loc 2) (.sub (.glb "SMALL" (.str [97, 98, 99, 100, 101, 102, 103, 104, 105, 106, 107, 108, 109, 110, 111, 112, 113, 114, 115, 116, 117, 118, 119, 120, 121, 122])) (.loc 3))) .nil))
      .nil))
    (.ret (.meth .join (.lit (.str [])) (.cons (.loc 1) .nil)))))⟩
noncomputable def fn24 : Fn := -- is_first
  ⟨["letter"], 1, [], .code
    (.ret (.or2 (.cmp .isin (.loc 0) (.glb "SMALL" (.str [97, 98, 99, 100, 101, 102, 103, 104, 105, 106, 107, 108, 109, 110, 111, 112, 113, 114, 115, 116, 117, 118, 119, 120, 121, 122]))) (.cmp .isin (.loc 0) (.glb "FIRST_SIGNS" (.str [33, 36, 37, 38, 42, 47, 58, 60, 61, 62, 63, 94, 95, 126])))))⟩
noncomputable def fn25 : Fn := -- is_later
  ⟨["letter"], 1, [], .code
    (.ret (.or2 (.call 24 (.cons (.loc 0) .nil)) (.or2 (.cmp .isin (.loc 0) (.glb "FIGURES_lexer" (.str [48, 49, 50, 51, 52, 53, 54, 55, 56, 57]))) (.cmp .isin (.loc 0) (.glb "LATER_SIGNS" (.str [43, 45, 46, 64]))))))⟩
noncomputable def fn26 : Fn := -- is_identifier
  ⟨["text", "letter"], 1, [], .code
    (.ite (.cmp .isin (.loc 0) (.glb "PECULIAR" (.tup [(.str [43]), (.str [45]), (.str [46, 46, 46])])))
      (.ret (.lit (.bool true)))
      .nil
    (.ite (.or (.cmp .eq (.loc 0) (.lit (.str []))) (.or (.not (.val (.call 24 (.cons (.sub (.loc 0) (.lit (.int 0))) .nil)))) .kf))
      (.ret (.lit (.bool false)))
      .nil
    (.for_ (.one 1) (.slice (.loc 0) (.lit (.int 1)) (.lit .unb))
      (.ite (.not (.val (.call 25 (.cons (.loc 1) .nil))))
        (.ret (.lit (.bool false)))
        .nil
      .nil)
    (.ret (.lit (.bool true))))))⟩
noncomputable def fn27 : Fn := -- is_numberlike
  ⟨["text"], 1, [], .code
    (.ret (.or2 (.cmp .isin (.sub (.loc 0) (.lit (.int 0))) (.glb "FIGURES_lexer" (.str [48, 49, 50, 51, 52, 53, 54, 55, 56, 57]))) (.cmp .isin (.sub (.loc 0) (.lit (.int 0))) (.lit (.str [43, 45, 46])))))⟩
noncomputable def fn28 : Fn := -- SymbolTable.symbol
  ⟨["self", "text", "found"], 2, [], .code
    (.asg (.one 2) (.meth .get (.attr 1 1 (.loc 0)) (.cons (.loc 1) (.cons (.lit .non) .nil)))
    (.ite (.cmp .is (.loc 2) (.lit .non))
      (.asg (.one 2) (.call 47 (.cons (.bi .len (.cons (.attr 1 0 (.loc 0)) .nil)) (.cons (.loc 1) .nil)))
      (.expr (.meth .append (.attr 1 0 (.loc 0)) (.cons (.loc 2) .nil))
      (.asgS (.attr 1 1 (.loc 0)) (.loc 1) (.loc 2)
      .nil)))
      .nil
    (.ret (.loc 2))))⟩
noncomputable def fn29 : Fn := -- SymbolTable.by_number
  ⟨["self", "number"], 2, [], .code
    (.ret (.sub (.attr 1 0 (.loc 0)) (.loc 1)))⟩
noncomputable def fn30 : Fn := -- SymbolTable.find
  ⟨["self", "text"], 2, [], .code
    (.ret (.meth .get (.attr 1 1 (.loc 0)) (.cons (.loc 1) (.cons (.lit .non) .nil))))⟩
noncomputable def fn31 : Fn := -- SymbolTable.size
  ⟨["self"], 1, [], .code
    (.ret (.bi .len (.cons (.attr 1 0 (.loc 0)) .nil)))⟩
noncomputable def fn32 : Fn := -- make_text
  ⟨["told"], 1, [], .code
    (.ret (.call 49 (.cons (.comp false ["letter"] [] false (.one 0) (.loc 0) .kt (.bi .ord (.cons (.loc 0) .nil))) .nil)))⟩
noncomputable def fn33 : Fn := -- list_of
  ⟨["things", "tail", "found", "place"], 2, [(.spc 0)], .code
    (.asg (.one 2) (.loc 1)
    (.for_ (.one 3) (.bi .range (.cons (.bin .sub (.bi .len (.cons (.loc 0) .nil)) (.lit (.int 1))) (.cons (.nint 1) (.cons (.nint 1) .nil))))
      (.asg (.one 2) (.call 48 (.cons (.sub (.loc 0) (.loc 3)) (.cons (.loc 2) .nil)))
      .nil)
    (.ret (.loc 2))))⟩
noncomputable def fn34 : Fn := -- parse_number
  ⟨["precision", "text", "radix", "found", "word", "exactness", "sign", "reading", "is_exact"], 3, [(.int 10)], .code
    (.asg (.one 3) (.call 35 (.cons (.meth .lower (.loc 1) .nil) (.cons (.loc 2) .nil)))
    (.ite (.cmp .is (.loc 3) (.lit .non))
      (.ret (.lit .non))
      .nil
    (.asg (.many [4, 2, 5]) (.loc 3)
    (.asg (.one 6) (.ifx (.cmp .eq (.slice (.loc 4) (.lit .unb) (.lit (.int 1))) (.lit (.str [45]))) (.nint 1) (.lit (.int 1)))
    (.asg (.one 7) (.call 36 (.cons (.ifx (.cmp .isin (.slice (.loc 4) (.lit .unb) (.lit (.int 1))) (.tup (.cons (.lit (.str [43])) (.cons (.lit (.str [45])) .nil)))) (.slice (.loc 4) (.lit (.int 1)) (.lit .unb)) (.loc 4)) (.cons (.loc 2) .nil)))
    (.ite (.cmp .is (.loc 7) (.lit .non))
      (.ret (.lit .non))
      .nil
    (.asg (.one 8) (.or2 (.cmp .eq (.loc 5) (.lit (.str [101]))) (.and2 (.cmp .eq (.loc 5) (.lit (.str []))) (.attr 7 2 (.loc 7))))
    (.ret (.call 42 (.cons (.loc 0) (.cons (.bin .mul (.loc 6) (.attr 7 0 (.loc 7))) (.cons (.attr 7 1 (.loc 7)) (.cons (.loc 8) .nil)))))))))))))⟩
noncomputable def fn35 : Fn := -- split_prefixes
  ⟨["word", "radix", "exactness", "has_radix", "at", "mark"], 2, [], .code
    (.asg (.many [2, 3, 4]) (.tup (.cons (.lit (.str [])) (.cons (.lit (.bool false)) (.cons (.lit (.int 0)) .nil))))
    (.whl (.cmp .eq (.slice (.loc 0) (.loc 4) (.bin .add (.loc 4) (.lit (.int 1)))) (.lit (.str [35])))
      .bad
    (.ret (.tup (.cons (.slice (.loc 0) (.loc 4) (.lit .unb)) (.cons (.loc 1) (.cons (.loc 2) .nil)))))))⟩
noncomputable def fn36 : Fn := -- read_unsigned
  ⟨["word", "radix"], 2, [], .code
    (.ite (.cmp .isin (.lit (.str [47])) (.loc 0))
      .bad
      .nil
    (.ite (.and (.cmp .eq (.loc 1) (.lit (.int 10))) (.and (.or (.cmp .isin (.lit (.str [46])) (.loc 0)) (.or (.cmp .lt (.call 41 (.cons (.loc 0) .nil)) (.bi .len (.cons (.loc 0) .nil))) .kf)) .kt))
      .bad
      .nil
    (.ret (.call 37 (.cons (.loc 0) (.cons (.loc 1) .nil))))))⟩
noncomputable def fn37 : Fn := -- read_whole
  ⟨["word", "radix", "kept", "many"], 2, [], .code
    (.asg (.many [2, 3]) (.call 38 (.cons (.loc 0) .nil))
    (.ite (.or (.cmp .eq (.loc 2) (.lit (.str []))) (.or (.not (.val (.call 39 (.cons (.loc 2) (.cons (.loc 1) .nil))))) .kf))
      (.ret (.lit .non))
      .nil
    (.ret (.call 52 (.cons (.bin .mul (.call 40 (.cons (.loc 2) (.cons (.loc 1) .nil))) (.bin .pow (.loc 1) (.loc 3))) (.cons (.lit (.int 1)) (.cons (.cmp .eq (.loc 3) (.lit (.int 0))) .nil)))))))⟩
noncomputable def fn38 : Fn := -- parted
  ⟨["word", "kept"], 1, [], .code
    (.asg (.one 1) (.meth .rstrip (.loc 0) (.cons (.lit (.str [35])) .nil))
    (.ret (.tup (.cons (.loc 1) (.cons (.bin .sub (.bi .len (.cons (.loc 0) .nil)) (.bi .len (.cons (.loc 1) .nil))) .nil)))))⟩
noncomputable def fn39 : Fn := -- are_figures
  ⟨["word", "radix"], 2, [], .code
    (.ret (.bi .all (.cons (.comp false ["sign", "radix"] [(1, 1)] false (.one 0) (.loc 0) .kt (.cmp .isin (.loc 0) (.slice (.glb "FIGURES_numtext" (.str [48, 49, 50, 51, 52, 53, 54, 55, 56, 57, 97, 98, 99, 100, 101, 102])) (.lit .unb) (.loc 1)))) .nil)))⟩
noncomputable def fn40 : Fn := -- worth_of
  ⟨["figures", "radix", "found", "sign"], 2, [], .code
    (.asg (.one 2) (.lit (.int 0))
    (.for_ (.one 3) (.loc 0)
      (.asg (.one 2) (.bin .add (.bin .mul (.loc 2) (.loc 1)) (.meth .index (.glb "FIGURES_numtext" (.str [48, 49, 50, 51, 52, 53, 54, 55, 56, 57, 97, 98, 99, 100, 101, 102])) (.cons (.loc 3) .nil)))
      .nil)
    (.ret (.loc 2))))⟩
noncomputable def fn41 : Fn := -- mark_place
  ⟨["word", "places"], 1, [], .code
    (.asg (.one 1) (.comp false ["place", "sign"] [] true (.many [0, 1]) (.loc 0) (.and (.cmp .isin (.loc 1) (.glb "MARKS" (.str [101, 115, 102, 100, 108]))) .kt) (.loc 0))
    (.ret (.ifx (.cmp .ne (.loc 1) (.list false .nil)) (.sub (.loc 1) (.lit (.int 0))) (.bi .len (.cons (.loc 0) .nil)))))⟩
noncomputable def fn42 : Fn := -- finished
  ⟨["precision", "top", "bottom", "is_exact"], 4, [], .code
    (.ite (.val (.loc 3))
      (.ret (.call 43 (.cons (.loc 1) (.cons (.loc 2) .nil))))
      .nil
    .bad)⟩
noncomputable def fn43 : Fn := -- ratio_of
  ⟨["top", "bottom", "common"], 2, [], .code
    (.ite (.cmp .lt (.loc 1) (.lit (.int 0)))
      (.asg (.many [0, 1]) (.tup (.cons (.bin .sub (.lit (.int 0)) (.loc 0)) (.cons (.bin .sub (.lit (.int 0)) (.loc 1)) .nil)))
      .nil)
      .nil
    (.asg (.one 2) (.call 44 (.cons (.loc 0) (.cons (.loc 1) .nil)))
    (.ret (.call 45 (.cons (.bin .fdiv (.loc 0) (.loc 2)) (.cons (.bin .fdiv (.loc 1) (.loc 2)) .nil))))))⟩
noncomputable def fn44 : Fn := -- gcd_of
  ⟨["one", "other"], 2, [], .code
    (.asg (.many [0, 1]) (.tup (.cons (.bi .abs (.cons (.loc 0) .nil)) (.cons (.bi .abs (.cons (.loc 1) .nil)) .nil)))
    (.whl (.cmp .ne (.loc 1) (.lit (.int 0)))
      (.asg (.many [0, 1]) (.tup (.cons (.loc 1) (.cons (.bin .mod (.loc 0) (.loc 1)) .nil)))
      .nil)
    (.ret (.loc 0))))⟩
noncomputable def fn45 : Fn := -- made
  ⟨["top", "bottom"], 2, [], .code
    (.ret (.ifx (.cmp .eq (.loc 1) (.lit (.int 1))) (.loc 0) .bad))⟩
noncomputable def fn46 : Fn := -- SymbolTable
  ⟨["self"], 1, [], .make 1 false
    (.cons (.list true .nil)
    (.cons .dict0
    .nil))⟩
noncomputable def fn47 : Fn := -- Symbol
  ⟨["self", "number", "text"], 3, [], .make 2 false
    (.cons (.loc 1)
    (.cons (.loc 2)
    .nil))⟩
noncomputable def fn48 : Fn := -- Pair
  ⟨["self", "car", "cdr"], 3, [], .make 3 true
    (.cons (.loc 1)
    (.cons (.loc 2)
    (.cons (.lit .non)
    .nil)))⟩
noncomputable def fn49 : Fn := -- Text
  ⟨["self", "codes"], 2, [], .make 4 true
    (.cons (.loc 1)
    (.cons (.lit .non)
    .nil))⟩
noncomputable def fn50 : Fn := -- Vector
  ⟨["self", "things"], 2, [], .make 5 true
    (.cons (.loc 1)
    (.cons (.lit .non)
    .nil))⟩
noncomputable def fn51 : Fn := -- Token
  ⟨["self", "word", "value", "start", "end"], 5, [], .make 6 true
    (.cons (.loc 1)
    (.cons (.loc 2)
    (.cons (.loc 3)
    (.cons (.loc 4)
    .nil))))⟩
noncomputable def fn52 : Fn := -- Reading
  ⟨["self", "top", "bottom", "is_exact"], 4, [], .make 7 true
    (.cons (.loc 1)
    (.cons (.loc 2)
    (.cons (.loc 3)
    .nil)))⟩
noncomputable def fn53 : Fn := -- Lexer
  ⟨["self", "text", "precision", "is_folded"], 4, [(.int 53), (.bool true)], .make 8 false
    (.cons (.loc 1)
    (.cons (.loc 2)
    (.cons (.lit (.int 0))
    (.cons (.loc 3)
    .nil))))⟩
noncomputable def fn54 : Fn := -- Frame
  ⟨["self", "word", "start", "things"], 4, [], .make 9 false
    (.cons (.loc 1)
    (.cons (.loc 2)
    (.cons (.loc 3)
    (.cons (.glb "NOT_DOTTED" (.int 0))
    (.cons (.glb "EMPTY" (.spc 0))
    .nil)))))⟩
noncomputable def fn55 : Fn := -- Reader
  ⟨["self", "text", "table", "precision", "is_folded"], 5, [(.int 53), (.bool true)], .make 10 false
    (.cons (.call 53 (.cons (.loc 1) (.cons (.loc 3) (.cons (.loc 4) .nil))))
    (.cons (.loc 2)
    (.cons (.list true .nil)
    .nil)))⟩
noncomputable def fnList : List Fn := [fn0, fn1, fn2, fn3, fn4, fn5, fn6, fn7, fn8, fn9, fn10, fn11, fn12, fn13, fn14, fn15, fn16, fn17, fn18, fn19, fn20, fn21, fn22, fn23, fn24, fn25, fn26, fn27, fn28, fn29, fn30, fn31, fn32, fn33, fn34, fn35, fn36, fn37, fn38, fn39, fn40, fn41, fn42, fn43, fn44, fn45, fn46, fn47, fn48, fn49, fn50, fn51, fn52, fn53, fn54, fn55]
noncomputable def P (f : Nat) : Option Fn := fnList[f]?
noncomputable def clsFields : List (List Str) := [["title"], ["rows", "by_text"], ["number", "text"], ["car", "cdr", "mark"], ["codes", "mark"], ["things", "mark"], ["word", "value", "start", "end"], ["top", "bottom", "is_exact"], ["text", "precision", "place", "is_folded"], ["word", "start", "things", "state", "tail"], ["lexer", "table", "frames"]]
noncomputable def fnRoads : List (String × String) := [("law", ""), ("_law_draw", ""), ("_law_datum", ""), ("_law_form", ""), ("_law_first", ""), ("_law_read", ""), ("Reader", "place"), ("Reader", "read"), ("Reader", "last"), ("Reader", "quoted"), ("Reader", "opens"), ("Reader", "dot"), ("Reader", "closed"), ("Reader", "atom"), ("Reader", "delivered"), ("Lexer", "skip"), ("Lexer", "token"), ("Lexer", "found"), ("Lexer", "word_end"), ("Lexer", "word_token"), ("Lexer", "number_in"), ("Lexer", "sharp"), ("Lexer", "string"), ("folded", ""), ("is_first", ""), ("is_later", ""), ("is_identifier", ""), ("is_numberlike", ""), ("SymbolTable", "symbol"), ("SymbolTable", "by_number"), ("SymbolTable", "find"), ("SymbolTable", "size"), ("make_text", ""), ("list_of", ""), ("parse_number", ""), ("split_prefixes", ""), ("read_unsigned", ""), ("read_whole", ""), ("parted", ""), ("are_figures", ""), ("worth_of", ""), ("mark_place", ""), ("finished", ""), ("ratio_of", ""), ("gcd_of", ""), ("made", ""), ("SymbolTable", "__init__"), ("Symbol", "__init__"), ("Pair", "__init__"), ("Text", "__init__"), ("Vector", "__init__"), ("Token", "__init__"), ("Reading", "__init__"), ("Lexer", "__init__"), ("Frame", "__init__"), ("Reader", "__init__")]
noncomputable def clsNames : List Str := ["Special", "SymbolTable", "Symbol", "Pair", "Text", "Vector", "Token", "Reading", "Lexer", "Frame", "Reader"]
end Mini
end

section
open PySem PySem.W PyProof.Rows PySem.Calls
namespace Mini

noncomputable abbrev listOb (cvs : List Value) (n : Nat) : Obj := { cls := .type "list", data := .seq cvs.toArray n }
noncomputable abbrev tupOb (cvs : List Value) (n : Nat) : Obj := { cls := .type "tuple", data := .seq cvs.toArray n }

structure Sta where
  cls : Nat → Option Addr
  flds : Nat → List Str
  spc : Nat → Option Addr
structure Tbl where
  K : Frag
  T : Sta
  gl : Str → Option Value
  vr : AV → Value → Bool
  fad : Nat → Option Addr
structure Wo where
  prog : Program
  w : World
  B : Tbl
  s0 : Shared
noncomputable abbrev Wo.M (X : Wo) : Model := model X.prog X.w

noncomputable abbrev Pm := Addr → Option Obj
noncomputable def Pm.put (F : Pm) (a : Addr) (o : Obj) : Pm := fun b => if b = a then some o else F b
noncomputable def Pm.del (F : Pm) (a : Addr) : Pm := fun b => if b = a then none else F b

structure Gh where
  σ : List (Addr × Addr)
  Z : Pm
structure Gh.Le (g g' : Gh) : Prop where
  sg : ∀ {i : Nat} {p : Addr × Addr}, g.σ[i]? = some p → g'.σ[i]? = some p
  zd : ∀ {a : Addr} {o : Obj}, g.Z a = some o → g'.Z a = some o
theorem Gh.Le.refl {g : Gh} : g.Le g := ⟨id, id⟩
theorem Gh.Le.trans {a b c : Gh} (x : a.Le b) (y : b.Le c) : a.Le c := ⟨fun e => y.sg (x.sg e), fun e => y.zd (x.zd e)⟩

noncomputable def Ent : List Str → List Value → List DictEntry → Prop
  | _, [], es => es = []
  | ns, c :: cs, es => ∃ x ms hs t ds, ns = x :: ms ∧ es = ⟨hs, .str x t, c⟩ :: ds ∧ Ent ms cs ds

mutual
noncomputable def VR (T : Sta) (g : Gh) : AV → Value → Prop
  | .unb, _ => False
  | .non, c => c = .none
  | .bool b, c => c = .bool b
  | .int i, c => ∃ t, c = .int i t
  | .str s, c => ∃ t, c = .str ⟨s.toArray⟩ t
  | .tup vs, c => ∃ a cvs n, c = .ref a ∧ g.Z a = some (tupOb cvs n) ∧ VRs T g vs cvs
  | .lst vs, c => ∃ a cvs n, c = .ref a ∧ g.Z a = some (listOb cvs n) ∧ VRs T g vs cvs
  | .rng a st n, c => ∃ r b t u v o, c = .ref r ∧ g.Z r = some o ∧ (∀ h : Heap, h.get? r = some o → IsRange h r a b st t u v) ∧ Builtin.Range.small a b st = true ∧ Builtin.Range.rangeSize a b st = (n : Int)
  | .rcd k fs, c => ∃ x dx C es n cvs, c = .ref x ∧ T.cls k = some C ∧ g.Z x = some (instObj C dx) ∧ g.Z dx = some (dictOf es n) ∧ Ent (T.flds k) cvs es ∧ VRs T g fs cvs
  | .ref i, c => ∃ x m, c = .ref x ∧ g.σ[i]? = some (x, m)
  | .spc k, c => ∃ a, c = .ref a ∧ T.spc k = some a
noncomputable def VRs (T : Sta) (g : Gh) : List AV → List Value → Prop
  | [], cs => cs = []
  | v :: vs, cs => ∃ c ds, cs = c :: ds ∧ VR T g v c ∧ VRs T g vs ds
end

section
variable {T : Sta} {g g' : Gh} (L : g.Le g')
include L
mutual
theorem VR.up : ∀ {v : AV} {c : Value}, VR T g v c → VR T g' v c
  | .unb, _, r | .non, _, r | .bool _, _, r | .int _, _, r | .str _, _, r | .spc _, _, r => r
  | .tup _, _, r => r.imp fun _ => .imp fun _ => .imp fun _ => .imp id (.imp L.zd VRs.up)
  | .lst _, _, r => r.imp fun _ => .imp fun _ => .imp fun _ => .imp id (.imp L.zd VRs.up)
  | .rng _ _ _, _, r => r.imp fun _ => .imp fun _ => .imp fun _ => .imp fun _ => .imp fun _ => .imp fun _ => .imp id (.imp L.zd id)
  | .rcd _ _, _, r => r.imp fun _ => .imp fun _ => .imp fun _ => .imp fun _ => .imp fun _ => .imp fun _ => .imp id (.imp id (.imp L.zd (.imp L.zd (.imp id VRs.up))))
  | .ref _, _, r => r.imp fun _ => .imp fun _ => .imp id L.sg
theorem VRs.up : ∀ {vs : List AV} {cs : List Value}, VRs T g vs cs → VRs T g' vs cs
  | [], _, r => r
  | _ :: _, _, r => r.imp fun _ => .imp fun _ => .imp id (.imp VR.up VRs.up)
end
end

section
variable {T : Sta} {g : Gh}
theorem VRs.length : ∀ {vs : List AV} {cs : List Value}, VRs T g vs cs → cs.length = vs.length
  | [], _, e => e ▸ rfl
  | _ :: _, _, ⟨_, _, e, _, r⟩ => e ▸ congrArg (· + 1) (VRs.length r)
theorem VRs.get : ∀ {vs : List AV} {cs : List Value}, VRs T g vs cs → ∀ {i : Nat} {v : AV}, vs[i]? = some v → ∃ c, cs[i]? = some c ∧ VR T g v c
  | [], _, _, i, v, e => nomatch (List.getElem?_nil.symm.trans e)
  | _ :: _, _, ⟨c, _, e, r, _⟩, 0, v, q => ⟨c, e ▸ rfl, Option.some.inj q ▸ r⟩
  | _ :: _, _, ⟨_, _, e, _, r⟩, i + 1, v, q => e ▸ VRs.get r (i := i) q
theorem VRs.app : ∀ {vs ws : List AV} {cs ds : List Value}, VRs T g vs cs → VRs T g ws ds → VRs T g (vs ++ ws) (cs ++ ds)
  | [], _, _, _, e, y => e ▸ y
  | _ :: _, _, _, _, ⟨c, ds, e, r, b⟩, y => ⟨c, _, e ▸ rfl, r, VRs.app b y⟩
theorem VRs.set {v : AV} {c : Value} (hv : VR T g v c) : ∀ {vs : List AV} {cs : List Value}, VRs T g vs cs → ∀ (i : Nat), VRs T g (vs.set i v) (cs.set i c)
  | [], _, e, _ => e ▸ rfl
  | _ :: _, _, ⟨_, _, e, _, b⟩, 0 => ⟨_, _, e ▸ rfl, hv, b⟩
  | _ :: _, _, ⟨_, _, e, a, b⟩, i + 1 => ⟨_, _, e ▸ rfl, a, VRs.set hv b i⟩
theorem VRs.take : ∀ {vs : List AV} {cs : List Value}, VRs T g vs cs → ∀ (n : Nat), VRs T g (vs.take n) (cs.take n)
  | [], _, e, 0 => rfl
  | [], _, e, _ + 1 => e ▸ rfl
  | _ :: _, _, _, 0 => rfl
  | _ :: _, _, ⟨_, _, e, a, b⟩, n + 1 => ⟨_, _, e ▸ rfl, a, VRs.take b n⟩
theorem VRs.drop : ∀ {vs : List AV} {cs : List Value}, VRs T g vs cs → ∀ (n : Nat), VRs T g (vs.drop n) (cs.drop n)
  | _, _, r, 0 => r
  | [], _, e, _ + 1 => e ▸ rfl
  | _ :: _, _, ⟨_, _, e, _, b⟩, n + 1 => e ▸ VRs.drop b n
theorem VRs.dropLast {vs : List AV} {cs : List Value} (x : VRs T g vs cs) : VRs T g vs.dropLast cs.dropLast := by
  rw [List.dropLast_eq_take, List.dropLast_eq_take, x.length]; exact x.take _
theorem VRs.rep {v : AV} {c : Value} (r : VR T g v c) : ∀ k : Nat, VRs T g (List.replicate k v) (List.replicate k c)
  | 0 => rfl
  | k + 1 => ⟨_, _, rfl, r, VRs.rep r k⟩
theorem VRs.rev : ∀ {vs : List AV} {cs : List Value}, VRs T g vs cs → VRs T g vs.reverse cs.reverse
  | [], _, e => e ▸ rfl
  | _ :: _, _, ⟨c, _, e, a, b⟩ => by rw [e, List.reverse_cons, List.reverse_cons]; exact (VRs.rev b).app ⟨c, [], rfl, a, rfl⟩

theorem Ent.get : ∀ {ns : List Str} {cs : List Value} {es : List DictEntry}, Ent ns cs es → ns.Nodup → ∀ {i : Nat} {c : Value} {x : Str}, cs[i]? = some c → ns[i]? = some x → getL x es = some (some c)
  | _, [], _, _, _, i, c, x, e, _ => nomatch (List.getElem?_nil.symm.trans e)
  | _, c :: _, _, ⟨y, ms, hs, t, ds, e1, e2, b⟩, nd, 0, v, x, e, f => by
    subst e1 e2
    cases e; cases f
    unfold getL; simp [Value.isStr]
  | _, _ :: _, _, ⟨y, ms, hs, t, ds, e1, e2, b⟩, nd, i + 1, v, x, e, f => by
    subst e1 e2
    have g := Ent.get b (List.nodup_cons.mp nd).2 (i := i) e f
    have hne : (y == x) = false := beq_eq_false_iff_ne.mpr fun q => (List.nodup_cons.mp nd).1 (q ▸ List.mem_of_getElem? (i := i) f)
    unfold getL at g ⊢
    simp only [List.find?_cons, Value.isStr, hne, List.any_cons, DictEntry.refKey, Bool.false_or]
    exact g
end
end Mini
end

section
open PySem PySem.W PyProof.Rows PySem.Calls
namespace Mini

noncomputable def OR (X : Wo) (g : Gh) (h : Heap) (p : Addr × Addr) : AO → Prop
  | .list vs => p.1 = p.2 ∧ ∃ cvs n, h.get? p.2 = some (listOb cvs n) ∧ VRs X.B.T g vs cvs
  | .inst c fs => ∃ C es n cvs, X.B.T.cls c = some C ∧ g.Z p.1 = some (instObj C p.2) ∧ h.get? p.2 = some (dictOf es n) ∧ Ent (X.B.T.flds c) cvs es ∧ VRs X.B.T g fs cvs
  | .dict kv => (p.1 = p.2 ∧ p.2 ≠ sysModules) ∧ ∃ kvs : List (Str × Value), Heap.DictOf (strKind X.prog X.w) h p.2 kvs ∧ kvs.map (·.1) = kv.map (fun q => strS q.1) ∧ VRs X.B.T g (kv.map (·.2)) (kvs.map (·.2))

variable {X : Wo} {g g' : Gh} {F F' : Pm} {H : AH} {s : Shared} {h h' : Heap}

theorem OR.at {p : Addr × Addr} (hk : ∀ {o}, h.get? p.2 = some o → h'.get? p.2 = some o) : ∀ {o : AO}, OR X g h p o → OR X g h' p o
  | .list _, r => r.imp id (.imp fun _ => .imp fun _ => .imp hk id)
  | .inst _ _, r => r.imp fun _ => .imp fun _ => .imp fun _ => .imp fun _ => .imp id (.imp id (.imp hk id))
  | .dict _, r => r.imp id (.imp fun _ => .imp (.imp fun _ => .imp fun _ => .imp fun _ => .imp hk id) id)
theorem OR.up {p : Addr × Addr} (L : g.Le g') : ∀ {o : AO}, OR X g h p o → OR X g' h p o
  | .list _, r => r.imp id (.imp fun _ => .imp fun _ => .imp id (VRs.up L))
  | .inst _ _, r => r.imp fun _ => .imp fun _ => .imp fun _ => .imp fun _ => .imp id (.imp L.zd (.imp id (.imp id (VRs.up L))))
  | .dict _, r => r.imp id (.imp fun _ => .imp id (.imp id (VRs.up L)))

structure Free (g : Gh) (F : Pm) (a : Addr) : Prop where
  z : g.Z a = none
  f : F a = none
  m : ∀ {i : Nat} {p : Addr × Addr}, g.σ[i]? = some p → p.2 ≠ a

structure Rel (X : Wo) (g : Gh) (F : Pm) (H : AH) (s : Shared) : Prop where
  same : ∃ h tk, s = { X.s0 with heap := h, toks := tk }
  low : ∀ {a : Addr} {o : Obj}, X.s0.heap.get? a = some o → g.Z a = some o
  zed : ∀ {a : Addr} {o : Obj}, g.Z a = some o → s.heap.get? a = some o
  prv : ∀ {a : Addr} {o : Obj}, F a = some o → s.heap.get? a = some o
  zf : ∀ {a : Addr} {o : Obj}, F a = some o → g.Z a = none
  len : g.σ.length = H.length
  obj : ∀ {i : Nat} {p : Addr × Addr} {o : AO}, g.σ[i]? = some p → H[i]? = some o → OR X g s.heap p o
  mz : ∀ {i : Nat} {p : Addr × Addr}, g.σ[i]? = some p → g.Z p.2 = none
  mf : ∀ {i : Nat} {p : Addr × Addr}, g.σ[i]? = some p → F p.2 = none
  inj : ∀ {i j : Nat} {p q : Addr × Addr}, g.σ[i]? = some p → g.σ[j]? = some q → p.2 = q.2 → i = j

theorem clash {α : Type} {x : Option α} {a : α} {C : Prop} (e : x = none) (f : x = some a) : C := nomatch (e.symm.trans f)
theorem nol {α : Type} {x y : Option α} (k : ∀ {a}, x = some a → y = some a) (e : y = none) : x = none := by
  cases x with
  | none => rfl
  | some a => exact clash e (k rfl)

theorem Rel.toks' {tk : Nat} {hp : Heap} (R : Rel X g F H s) : ∃ h t, ({ s with heap := hp, toks := tk } : Shared) = { X.s0 with heap := h, toks := t } :=
  let ⟨_, _, e⟩ := R.same; ⟨hp, tk, e ▸ rfl⟩

theorem Rel.ext {tk : Nat} (R : Rel X g F H s) (hk : ∀ b o, s.heap.get? b = some o → h'.get? b = some o) : Rel X g F H { s with heap := h', toks := tk } :=
  ⟨R.toks', R.low, fun e => hk _ _ (R.zed e), fun e => hk _ _ (R.prv e), R.zf, R.len, fun a b => (R.obj a b).at (hk _ _), R.mz, R.mf, R.inj⟩
theorem Rel.tick {tk : Nat} (R : Rel X g F H s) : Rel X g F H { s with toks := tk } := R.ext fun _ _ e => e
theorem Rel.weak (R : Rel X g F H s) (k : ∀ {a o}, F' a = some o → F a = some o) : Rel X g F' H s :=
  ⟨R.same, R.low, R.zed, fun e => R.prv (k e), fun e => R.zf (k e), R.len, R.obj, R.mz, fun e => nol k (R.mf e), R.inj⟩

theorem Rel.objAt (R : Rel X g F H s) {i : Nat} {p : Addr × Addr} (hp : g.σ[i]? = some p) : ∃ o, OR X g s.heap p o :=
  have hi : i < H.length := R.len ▸ (List.getElem?_eq_some_iff.mp hp).1
  ⟨H[i], R.obj hp (List.getElem?_eq_getElem hi)⟩
theorem OR.some {p : Addr × Addr} : ∀ {o : AO}, OR X g h p o → ∃ ob, h.get? p.2 = some ob
  | .list _, r => r.2.elim fun _ r => r.elim fun _ r => ⟨_, r.1⟩
  | .inst _ _, r => r.elim fun _ r => r.elim fun _ r => r.elim fun _ r => r.elim fun _ r => ⟨_, r.2.2.1⟩
  | .dict _, r => r.2.elim fun _ r => r.1.elim fun _ r => r.elim fun _ r => r.elim fun _ r => ⟨_, r.1⟩

theorem none_of {x : Option Obj} {a : Addr} (ha : h.objs.size ≤ a) (k : ∀ {o}, x = some o → h.get? a = some o) : x = none := by
  cases x with
  | none => rfl
  | some o => exact absurd (Heap.lt_size (k rfl)) (Nat.not_lt.mpr ha)
theorem Rel.free (R : Rel X g F H s) {a : Addr} (ha : s.heap.objs.size ≤ a) : Free g F a :=
  ⟨none_of ha R.zed, none_of ha R.prv, fun e q => by
    obtain ⟨_, r⟩ := R.objAt e
    obtain ⟨_, r⟩ := r.some
    exact absurd (Heap.lt_size r) (Nat.not_lt.mpr (q ▸ ha))⟩

theorem Pm.put_self {a : Addr} {o : Obj} : F.put a o a = some o := if_pos rfl
theorem Pm.put_ne {a b : Addr} {o : Obj} (e : b ≠ a) : F.put a o b = F b := if_neg e
theorem Pm.put_cases {a b : Addr} {o o' : Obj} {C : Prop} (e : F.put a o b = some o') (h1 : b = a → o' = o → C) (h2 : b ≠ a → F b = some o' → C) : C := by
  by_cases q : b = a
  · subst q; exact h1 rfl (Option.some.inj (e.symm.trans Pm.put_self))
  · exact h2 q ((Pm.put_ne q).symm.trans e)
theorem Pm.del_ne {a b : Addr} (e : b ≠ a) : F.del a b = F b := if_neg e
theorem Pm.del_self {a : Addr} : F.del a a = none := if_pos rfl
theorem Pm.del_some {a b : Addr} {o : Obj} (e : F.del a b = some o) : b ≠ a ∧ F b = some o := by
  by_cases q : b = a
  · subst q; exact clash Pm.del_self e
  · exact ⟨q, (Pm.del_ne q).symm.trans e⟩

theorem Rel.learn (R : Rel X g F H s) {a : Addr} {o : Obj} (f : Free g F a) (e : s.heap.get? a = some o) : Rel X g (F.put a o) H s :=
  ⟨R.same, R.low, R.zed, fun q => Pm.put_cases q (fun h1 h2 => h1 ▸ h2 ▸ e) fun _ => R.prv, fun q => Pm.put_cases q (fun h1 _ => h1 ▸ f.z) fun _ => R.zf, R.len, R.obj, R.mz, fun q => (Pm.put_ne (f.m q)).trans (R.mf q), R.inj⟩
noncomputable abbrev Gh.frz (g : Gh) (a : Addr) (o : Obj) : Gh := ⟨g.σ, g.Z.put a o⟩
theorem Gh.frz_le {a : Addr} {o : Obj} (e : g.Z a = none) : g.Le (g.frz a o) := ⟨id, fun q => (Pm.put_ne fun z => clash e (z ▸ q)).trans q⟩
theorem Rel.freeze (R : Rel X g F H s) {a : Addr} {o : Obj} (e : F a = some o) : Rel X (g.frz a o) (F.del a) H s :=
  have L := Gh.frz_le (o := o) (R.zf e)
  have ne : ∀ {i : Nat} {p : Addr × Addr}, g.σ[i]? = some p → p.2 ≠ a := fun q z => clash (z ▸ R.mf q) e
  ⟨R.same, fun q => L.zd (R.low q), fun q => Pm.put_cases q (fun h1 h2 => h1 ▸ h2 ▸ R.prv e) fun _ => R.zed, fun q => R.prv (Pm.del_some q).2, fun q => (Pm.put_ne (Pm.del_some q).1).trans (R.zf (Pm.del_some q).2), R.len,
    fun a b => (R.obj a b).up L, fun q => (Pm.put_ne (ne q)).trans (R.mz q), fun q => (Pm.del_ne (ne q)).trans (R.mf q), R.inj⟩
noncomputable abbrev Gh.add (g : Gh) (p : Addr × Addr) : Gh := ⟨g.σ ++ [p], g.Z⟩
theorem Gh.add_le {p : Addr × Addr} : g.Le (g.add p) := ⟨fun e => (List.getElem?_append_left (List.getElem?_eq_some_iff.mp e).1).trans e, id⟩
theorem snoc_at {α : Type} {l : List α} {a b : α} {i : Nat} {C : Prop} (e : (l ++ [a])[i]? = some b) (h1 : l[i]? = some b → C) (h2 : i = l.length → b = a → C) : C := by
  rcases Nat.lt_trichotomy i l.length with q | q | q
  · exact h1 ((List.getElem?_append_left q).symm.trans e)
  · subst q; exact h2 rfl (Option.some.inj (e.symm.trans List.getElem?_concat_length))
  · exact clash (List.getElem?_eq_none (by rw [List.length_append]; exact q)) e
theorem Rel.give (R : Rel X g F H s) {x m : Addr} {o : Obj} {ao : AO} (e : F m = some o) (r : OR X (g.add (x, m)) s.heap (x, m) ao) : Rel X (g.add (x, m)) (F.del m) (H ++ [ao]) s :=
  have ne : ∀ {i : Nat} {p : Addr × Addr}, g.σ[i]? = some p → p.2 ≠ m := fun q z => clash (z ▸ R.mf q) e
  ⟨R.same, R.low, R.zed, fun q => R.prv (Pm.del_some q).2, fun q => R.zf (Pm.del_some q).2, by rw [List.length_append, List.length_append, R.len]; rfl,
    fun a b => snoc_at a (fun a => snoc_at b (fun b => (R.obj a b).up Gh.add_le) fun i => absurd (List.getElem?_eq_some_iff.mp a).1 (i ▸ R.len ▸ Nat.lt_irrefl _)) fun i q => by
      subst i q
      rw [R.len, List.getElem?_concat_length] at b
      cases b; exact r,
    fun a => snoc_at a R.mz fun _ q => (congrArg (fun p => g.Z p.2) q).trans (R.zf e), fun a => snoc_at a (fun a => (Pm.del_ne (ne a)).trans (R.mf a)) fun _ q => q ▸ Pm.del_self,
    fun a b q => snoc_at a (fun a => snoc_at b (fun b => R.inj a b q) fun _ z => absurd q (z ▸ ne a)) fun i z => snoc_at b (fun b => absurd q.symm (z ▸ ne b)) fun j _ => i.trans j.symm⟩
theorem Rel.setF (R : Rel X g F H s) {a : Addr} {o o' : Obj} {tk : Nat} (e : F a = some o) (hb : Heap.SameBut a s.heap h') (e' : h'.get? a = some o') : Rel X g (F.put a o') H { s with heap := h', toks := tk } :=
  have ne : ∀ {i : Nat} {p : Addr × Addr}, g.σ[i]? = some p → p.2 ≠ a := fun q z => clash (z ▸ R.mf q) e
  ⟨R.toks', R.low, fun q => (hb.2 _ fun z => clash (R.zf e) (z ▸ q)).trans (R.zed q), fun q => Pm.put_cases q (fun h1 h2 => h1 ▸ h2 ▸ e') fun n q => (hb.2 _ n).trans (R.prv q),
    fun q => Pm.put_cases q (fun h1 _ => h1 ▸ R.zf e) fun _ => R.zf, R.len, fun a b => (R.obj a b).at fun q => (hb.2 _ (ne a)).trans q, R.mz, fun q => (Pm.put_ne (ne q)).trans (R.mf q), R.inj⟩
theorem Rel.mutate (R : Rel X g F H s) {i : Nat} {p : Addr × Addr} {ao : AO} {tk : Nat} (e : g.σ[i]? = some p) (hb : Heap.SameBut p.2 s.heap h') (r : OR X g h' p ao) : Rel X g F (H.set i ao) { s with heap := h', toks := tk } :=
  ⟨R.toks', R.low, fun q => (hb.2 _ fun z => clash (R.mz e) (z ▸ q)).trans (R.zed q), fun q => (hb.2 _ fun z => clash (R.mf e) (z ▸ q)).trans (R.prv q), R.zf, by rw [List.length_set, R.len],
    fun {j q o} a b => by
      rcases Nat.decEq j i with n | rfl
      · rw [List.getElem?_set_ne (Ne.symm n)] at b
        exact (R.obj a b).at fun z => (hb.2 _ fun y => n (R.inj a e y)).trans z
      · rw [List.getElem?_set_self (R.len ▸ (List.getElem?_eq_some_iff.mp e).1)] at b
        cases a.symm.trans e; cases b; exact r,
    R.mz, R.mf, R.inj⟩
end Mini
end

section
open PySem PySem.W PyProof.Rows PySem.Calls
namespace Mini

theorem bnd {α β : Type} {x : Option α} {f : α → Option β} {b : β} {C : Prop} (e : x.bind f = some b) (k : ∀ a, x = some a → f a = some b → C) : C :=
  Option.casesOn (motive := fun x => x.bind f = some b → (∀ a, x = some a → f a = some b → C) → C) x (fun e _ => clash rfl e) (fun a e k => k a rfl e) e k
theorem iff' {α : Type} {c : Prop} [Decidable c] {x : Option α} {a : α} {C : Prop} (e : (if c then x else none) = some a) (k : c → x = some a → C) : C := by
  by_cases h : c
  · exact k h ((if_pos h).symm.trans e)
  · exact clash (if_neg h) e
theorem ifd {α : Type} {c : Prop} [Decidable c] {x : Option α} {a : α} {C : Prop} (e : (if decide c then x else none) = some a) (k : c → x = some a → C) : C := iff' e fun h => k (of_decide_eq_true h)
section
variable {v : AV}
theorem asI_of {i : Int} (e : asI v = some i) : v = .int i := by
  cases v with
  | int j => exact congrArg _ (Option.some.inj e)
  | _ => exact clash rfl e
theorem asS_of {i : List Nat} (e : asS v = some i) : v = .str i := by
  cases v with
  | str j => exact congrArg _ (Option.some.inj e)
  | _ => exact clash rfl e
theorem asL_of {i : List AV} (e : asL v = some i) : v = .lst i := by
  cases v with
  | lst j => exact congrArg _ (Option.some.inj e)
  | _ => exact clash rfl e
theorem asT_of {i : List AV} (e : asT v = some i) : v = .tup i := by
  cases v with
  | tup j => exact congrArg _ (Option.some.inj e)
  | _ => exact clash rfl e
theorem asB_of {i : Bool} (e : asB v = some i) : v = .bool i := by
  cases v with
  | bool j => exact congrArg _ (Option.some.inj e)
  | _ => exact clash rfl e
theorem asR_of {i : Nat} (e : asR v = some i) : v = .ref i := by
  cases v with
  | ref j => exact congrArg _ (Option.some.inj e)
  | _ => exact clash rfl e
end
theorem one_of {α : Type} {v : α} : ∀ {vs : List α}, one? vs = some v → vs = [v]
  | [], e => clash rfl e
  | _ :: _ :: _, e => clash rfl e
  | [_], e => congrArg (fun x => [x]) (Option.some.inj e)

section
variable {T : Sta} {g : Gh} {x : AV} {c : Value} {C : Value → Prop}
@[elab_as_elim] theorem VR.int1 {i : Int} (r : VR T g (.int i) c) (k : ∀ t, C (.int i t)) : C c := r.elim fun t e => e ▸ k t
@[elab_as_elim] theorem VR.str1 {i : List Nat} (r : VR T g (.str i) c) (k : ∀ t, C (.str ⟨i.toArray⟩ t)) : C c := r.elim fun t e => e ▸ k t
@[elab_as_elim] theorem VR.lst1 {vs : List AV} (r : VR T g (.lst vs) c) (k : ∀ a cvs n, g.Z a = some (listOb cvs n) → VRs T g vs cvs → C (.ref a)) : C c := r.elim fun a r => r.elim fun cvs r => r.elim fun n r => r.1 ▸ k a cvs n r.2.1 r.2.2
@[elab_as_elim] theorem VR.tup1 {vs : List AV} (r : VR T g (.tup vs) c) (k : ∀ a cvs n, g.Z a = some (tupOb cvs n) → VRs T g vs cvs → C (.ref a)) : C c := r.elim fun a r => r.elim fun cvs r => r.elim fun n r => r.1 ▸ k a cvs n r.2.1 r.2.2
@[elab_as_elim] theorem VR.ref1 {i : Nat} (r : VR T g (.ref i) c) (k : ∀ x m, g.σ[i]? = some (x, m) → C (.ref x)) : C c := r.elim fun a r => r.elim fun m r => r.1 ▸ k a m r.2
@[elab_as_elim] theorem VR.spc1 {i : Nat} (r : VR T g (.spc i) c) (k : ∀ x, T.spc i = some x → C (.ref x)) : C c := r.elim fun a r => r.1 ▸ k a r.2
@[elab_as_elim] theorem VR.bool1 {i : Bool} (r : VR T g (.bool i) c) (k : C (.bool i)) : C c := r ▸ k
@[elab_as_elim] theorem VR.non1 (r : VR T g .non c) (k : C .none) : C c := r ▸ k
@[elab_as_elim] theorem VR.rcd1 {i : Nat} {fs : List AV} (r : VR T g (.rcd i fs) c) (k : ∀ x dx D es n cvs, T.cls i = some D → g.Z x = some (instObj D dx) → g.Z dx = some (dictOf es n) → Ent (T.flds i) cvs es → VRs T g fs cvs → C (.ref x)) : C c :=
  r.elim fun x r => r.elim fun dx r => r.elim fun D r => r.elim fun es r => r.elim fun n r => r.elim fun cvs r => r.1 ▸ k x dx D es n cvs r.2.1 r.2.2.1 r.2.2.2.1 r.2.2.2.2.1 r.2.2.2.2.2
@[elab_as_elim] theorem vI {i : Int} (e : asI x = some i) (r : VR T g x c) (k : ∀ t, C (.int i t)) : C c := (asI_of e ▸ r : VR T g (.int i) c).int1 k
@[elab_as_elim] theorem vS {i : List Nat} (e : asS x = some i) (r : VR T g x c) (k : ∀ t, C (.str ⟨i.toArray⟩ t)) : C c := (asS_of e ▸ r : VR T g (.str i) c).str1 k
@[elab_as_elim] theorem vB {i : Bool} (e : asB x = some i) (r : VR T g x c) (k : C (.bool i)) : C c := (asB_of e ▸ r : VR T g (.bool i) c).bool1 k
theorem vL {vs : List AV} (e : asL x = some vs) (r : VR T g x c) : VR T g (.lst vs) c := asL_of e ▸ r
theorem vT {vs : List AV} (e : asT x = some vs) (r : VR T g x c) : VR T g (.tup vs) c := asT_of e ▸ r
theorem vR {i : Nat} (e : asR x = some i) (r : VR T g x c) : VR T g (.ref i) c := asR_of e ▸ r
@[elab_as_elim] theorem vI2 {y v : AV} {d : Value} {f : Int → Int → Option AV} {C : Value → Value → Prop} (e : ((asI x).bind fun a => (asI y).bind fun b => f a b) = some v) (r : VR T g x c) (q : VR T g y d) (k : ∀ a b t u, f a b = some v → C (.int a t) (.int b u)) : C c d :=
  bnd e fun a ea e => bnd e fun b eb e => vI ea r fun t => vI eb q fun u => k a b t u e
end

variable {X : Wo} {g : Gh} {V : Pm} {H H' : AH} {s : Shared} {h' : Heap} {A : Around} {E : Value → Shared → Prop} {Q : Value → Shared → Prop}

theorem Rel.newZ {a : Addr} {o : Obj} {tk : Nat} (R : Rel X g V H s) (ha : s.heap.objs.size ≤ a) (hk : ∀ b o, s.heap.get? b = some o → h'.get? b = some o) (e : h'.get? a = some o) : Rel X (g.frz a o) V H { s with heap := h', toks := tk } :=
  ((R.ext hk).learn (R.free ha) e).freeze Pm.put_self |>.weak fun q =>
    have n := fun z => clash (R.free ha).f (z ▸ q)
    (Pm.del_ne n).trans ((Pm.put_ne n).trans q)

structure Kt (X : Wo) (g : Gh) (V : Pm) (H : AH) (v : AV) (Q : Value → Shared → Prop) : Prop where
  go : ∀ {g' : Gh} {s' : Shared} {cv : Value}, g.Le g' → Rel X g' V H s' → VR X.B.T g' v cv → Q cv s'
theorem Kt.of {u v : AV} (k : Kt X g V H v Q) (e : some u = some v) : Kt X g V H u Q := Option.some.inj e ▸ k
theorem Kt.here {v : AV} {cv : Value} {tk : Nat} (k : Kt X g V H v Q) (R : Rel X g V H s) (r : VR X.B.T g v cv) : Q cv { s with toks := tk } := k.go .refl R.tick r
theorem Kt.int {i : Int} {t : Tok} {tk : Nat} (k : Kt X g V H (.int i) Q) (R : Rel X g V H s) : Q (.int i t) { s with toks := tk } := k.here R ⟨t, rfl⟩
theorem Kt.ext {v : AV} {cv : Value} {tk : Nat} (k : Kt X g V H v Q) (R : Rel X g V H s) (hk : ∀ b o, s.heap.get? b = some o → h'.get? b = some o) (r : VR X.B.T g v cv) : Q cv { s with heap := h', toks := tk } := k.go .refl (R.ext hk) r
theorem Kt.lst {vs : List AV} {cvs : List Value} {a n tk : Nat} (k : Kt X g V H (.lst vs) Q) (R : Rel X g V H s) (rs : VRs X.B.T g vs cvs) (ha : s.heap.objs.size ≤ a) (hk : ∀ b o, s.heap.get? b = some o → h'.get? b = some o) (e : h'.get? a = some (listOb cvs n)) :
    Q (.ref a) { s with heap := h', toks := tk } :=
  have L := Gh.frz_le (o := listOb cvs n) (R.free ha).z
  k.go L (R.newZ ha hk e) ⟨a, cvs, n, rfl, Pm.put_self, rs.up L⟩
theorem keep_push {h : Heap} {o : Obj} : ∀ b o', h.get? b = some o' → (h.push o).get? b = some o' := fun _ _ e => Heap.get?_push_of_some _ e
theorem Kt.lst0 {vs : List AV} {cvs : List Value} {tk : Nat} (k : Kt X g V H (.lst vs) Q) (R : Rel X g V H s) (rs : VRs X.B.T g vs cvs) : Q (.ref s.heap.objs.size) { s with heap := s.heap.push (listOb cvs 0), toks := tk } :=
  k.lst R rs (Nat.le_refl _) keep_push (Heap.get?_push_size _ rfl)

theorem mul_ok {a b : Int} (ha : smallI a = true) (hb : smallI b = true) : IntMulOk a b := by
  have ha : a.natAbs < 2 ^ 30 := of_decide_eq_true ha
  have hb : b.natAbs < 2 ^ 30 := of_decide_eq_true hb
  have h1 : Builtin.Int.intBits a ≤ 64 := intBits_le_64 (by clear hb; omega) (by clear hb; omega)
  intro h
  rw [Bool.and_eq_true] at h
  have h := of_decide_eq_true (Bool.and_eq_true_iff.mp h.1).1
  have : shortFactorBits = 64 := rfl
  clear ha hb
  omega
theorem str_add (a b : List Nat) : (⟨a.toArray⟩ : Str) ++ (⟨b.toArray⟩ : Str) = ⟨(a ++ b).toArray⟩ := by
  show Str.mk (a.toArray ++ b.toArray) = _
  rw [List.append_toArray]
theorem fold_rep (v : Value) (k : Nat) : List.foldl (fun (x1 x2 : Array Value) => x1 ++ x2) #[] (List.replicate k #[v]) = (List.replicate k v).toArray := by
  have key : ∀ (k : Nat) (acc : Array Value), List.foldl (fun (x1 x2 : Array Value) => x1 ++ x2) acc (List.replicate k #[v]) = acc ++ (List.replicate k v).toArray := by
    intro k
    induction k with
    | zero => intro acc; exact Array.append_empty.symm
    | succ k ih =>
      intro acc
      rw [List.replicate_succ, List.replicate_succ, List.foldl_cons, ih, Array.append_assoc]
      exact congrArg (acc ++ ·) (List.append_toArray [v] _)
  rw [key]; exact Array.empty_append

noncomputable def bopOp : Bop → Operator
  | .add => .Add | .sub => .Sub | .mul => .Mult | .fdiv => .FloorDiv | .mod => .Mod | .pow => .Pow
theorem le_line {n : Nat} (h : n ≤ 10000) : n ≤ sizeLine := by rw [sizeLine_eq]; omega
theorem snd_bin {o : Bop} {x y v : AV} {cx cy : Value} (R : Rel X g V H s) (rx : VR X.B.T g x cx) (ry : VR X.B.T g y cy) (e : binV o x y = some v) (k : Kt X g V H v Q) : wpAny X.M A (binaryOp (bopOp o) cx cy) Q E s := by
  cases o with
  | add =>
    cases x with
    | int a => exact bnd e fun b eb e => rx.int1 fun t => vI eb ry fun u => add_int ((k.of e).int R)
    | str a => exact bnd e fun b eb e => ifd e fun hc e => rx.str1 fun t => vS eb ry fun u => add_str (fun t' tk => (k.of e).here R ⟨t', by rw [str_add]⟩) (le_line hc)
    | lst a => exact bnd e fun b eb e => ifd e fun hc e => rx.lst1 fun p ca n hg ra => (vL eb ry).lst1 fun q cb m hg' rb =>
        PySem.P.add_list (R.zed hg) (R.zed hg') ((List.append_toArray ca cb).symm ▸ (k.of e).lst0 R (ra.app rb)) (le_line (by rw [List.size_toArray, List.size_toArray, ra.length, rb.length]; exact hc))
    | _ => exact clash rfl e
  | sub => exact vI2 e rx ry fun _ _ _ _ e => sub_int ((k.of e).int R)
  | mul =>
    refine bnd e fun b eb e1 => ?_
    cases x with
    | int a => exact iff' e1 fun hc e => rx.int1 fun t => vI eb ry fun u => mul_int ((k.of e).int R) (mul_ok (Bool.and_eq_true_iff.mp hc).1 (Bool.and_eq_true_iff.mp hc).2)
    | lst l =>
      cases l with
      | nil => exact clash rfl e1
      | cons w l =>
        cases l with
        | cons _ _ => exact clash rfl e1
        | nil =>
          refine ifd e1 fun hc e => rx.lst1 fun p ca n hg ra => vI eb ry fun u => ?_
          obtain ⟨c, _, rfl, rc, rfl⟩ := ra
          have hg := R.zed hg
          refine wpAny_binaryOp_repeat_ref (T := "list") (U := "int") (by decide) ⟨_, hg, rfl⟩ (fun s' => typeIs_int s' _ _) noFill_list_mul F.fills_int_mul F.slot_int_rmul repeat_list F.slot_int_index.lookup
            (call_meets F.slot_int_rmul (typeIs_int s _ _) F.entry_int_rmul (F.args_int_rmul_2 _ _) (int___rmul___int_list _ _ _ _ _)
              ⟨hg, rfl, ⟨_, hg, rfl⟩, call_meets F.slot_list_mul ⟨_, hg, rfl⟩ F.entry_list_mul (F.args_list_mul_2 _ _)
                (AutoListH.list___mul___list_int_3 _ _ _ _ _ (by simp [Builtin.List.listFitsIndex]; omega) (by simp; omega) (by simp [Builtin.List.listTooLong, sizeLine]; omega))
                ⟨hg, ?_⟩⟩)
          rw [if_neg (by simp), show [c].toArray = #[c] from rfl, fold_rep]
          exact (k.of e).lst0 R (VRs.rep rc _)
    | _ => exact clash rfl e1
  | fdiv =>
    exact vI2 e rx ry fun a b t u e => iff' e fun hc e =>
      have hc := Bool.and_eq_true_iff.mp hc
      floordiv_int (Int.ne_of_gt (of_decide_eq_true hc.2)) ((k.of e).int R) (.inl (PyProof.noPylong_small (of_decide_eq_true (Bool.and_eq_true_iff.mp hc.1).2)))
  | mod => exact vI2 e rx ry fun a b t u e => ifd e fun hc e => mod_int' (Int.ne_of_gt hc) ((k.of e).int R)
  | pow =>
    exact vI2 e rx ry fun a b t u e => iff' e fun hc e1 => by
      obtain rfl := of_decide_eq_true (Bool.and_eq_true_iff.mp hc).2
      exact pow_int (Int.le_refl 0) (by rw [Int.mul_zero]; decide) (by rw [show a ^ Int.toNat 0 = 1 from Int.pow_zero a]; exact (k.of e1).int R)
end Mini
end

section
open PySem PySem.W PyProof.Rows PySem.Calls
namespace Mini

structure clsFine (K : Frag) (C : Addr) : Prop where
  pg : plainGet K C "" = true
  hd : hasDictIn K C = true
  cl : findIn K (.ref C) "__class__" = some (some (.builtin "object.__class__"))
  sp : specialIn K (.builtin "object.__class__") "__get__" = some (some (.builtin "getset_descriptor.__get__"))
  tk : takesIn K (.builtin "object.__class__") = some true
  mo : mroIn K C (.type "object") = some true
structure clsOk (K : Frag) (C : Addr) (flds : List Str) : Prop extends clsFine K C where
  po : plainOver K C = true
  sa : findIn K (.ref C) "__setattr__" = some (some (.builtin "object.__setattr__"))
  fo : ∀ {f}, f ∈ flds → ∃ a, findIn K (.ref C) f = some a ∧ noGet K a = true
  ft : ∀ {f}, f ∈ flds → takerIn K C f = some none
  le : flds.length ≤ 100
  nd : flds.Nodup

structure Cx (X : Wo) : Prop where
  inK : X.B.K.In X.s0.heap
  big : ∃ a o, 1 < a ∧ X.s0.heap.get? a = some o
  cls : ∀ {c : Nat} {C : Addr}, X.B.T.cls c = some C → clsOk X.B.K C (X.B.T.flds c)
  isn : ∀ {c d : Nat} {C D : Addr}, X.B.T.cls c = some C → X.B.T.cls d = some D → c ≠ d → kin_not X.B.K D C = true
  isi : ∀ {c : Nat} {C : Addr}, X.B.T.cls c = some C → isNotIn X.B.K "int" C = true
  spc : ∀ {k : Nat} {a : Addr}, X.B.T.spc k = some a → ∃ D m es n, X.s0.heap.get? a = some (instObj D m) ∧ X.s0.heap.get? m = some (dictOf es n) ∧ clsFine X.B.K D ∧ ∀ {c : Nat} {C : Addr}, X.B.T.cls c = some C → kin_not X.B.K D C = true ∧ C ≠ D
  spcInj : ∀ {i j : Nat} {a : Addr}, X.B.T.spc i = some a → X.B.T.spc j = some a → i = j
  gl : ∀ {x : Str} {v : Value}, X.B.gl x = some v → ∃ mg mb, X.s0.heap.Ns mainGlobals mg ∧ X.s0.heap.Ns builtinsNs mb ∧ (mg x = some v ∨ (mg x = none ∧ mb x = some v))
  vr : ∀ {v : AV} {c : Value}, X.B.vr v c = true → ∀ {g : Gh}, (∀ {a o}, X.s0.heap.get? a = some o → g.Z a = some o) → VR X.B.T g v c

variable {X : Wo} {g : Gh} {V : Pm} {H H' : AH} {s : Shared} {h' : Heap} {A : Around} {E : Value → Shared → Prop} {Q : Value → Shared → Prop}

theorem Rel.inK (R : Rel X g V H s) (C : Cx X) : X.B.K.In s.heap := C.inK.keeps fun _ _ e => R.zed (R.low e)
theorem Rel.big (R : Rel X g V H s) (C : Cx X) : 1 < s.heap.objs.size := C.big.elim fun _ q => q.elim fun _ q => Nat.lt_trans q.1 (Heap.lt_size (R.zed (R.low q.2)))

theorem listAt_of {a : Nat} {vs : List AV} (e : listAt H a = some vs) : H[a]? = some (.list vs) :=
  bnd e fun o eo e => eo.trans (congrArg _ (by
    cases o with
    | list ws => exact congrArg _ (Option.some.inj e)
    | _ => exact clash rfl e))
theorem dictAt_of {a : Nat} {vs : List (List Nat × AV)} (e : dictAt H a = some vs) : H[a]? = some (.dict vs) :=
  bnd e fun o eo e => eo.trans (congrArg _ (by
    cases o with
    | dict ws => exact congrArg _ (Option.some.inj e)
    | _ => exact clash rfl e))
theorem instAt_of {a c : Nat} {vs : List AV} (e : instAt H c a = some vs) : H[a]? = some (.inst c vs) :=
  bnd e fun o eo e => eo.trans (congrArg _ (by
    cases o with
    | inst d ws => exact iff' e fun q e => q ▸ congrArg _ (Option.some.inj e)
    | _ => exact clash rfl e))
section
variable {C : Value → Prop} {c : Value} {v : AV} {i : Nat}
@[elab_as_elim] theorem Rel.list1 {vs : List AV} (R : Rel X g V H s) (r : VR X.B.T g (.ref i) c) (e : listAt H i = some vs) (k : ∀ a cvs n, s.heap.get? a = some (listOb cvs n) → VRs X.B.T g vs cvs → g.σ[i]? = some (a, a) → C (.ref a)) : C c :=
  r.ref1 fun x m hx => (R.obj hx (listAt_of e)).elim fun q r => r.elim fun cvs r => r.elim fun n r => (show m = x from q.symm) ▸ k m cvs n r.1 r.2 ((show x = m from q) ▸ hx)
@[elab_as_elim] theorem Rel.dict1 {kv : List (List Nat × AV)} (R : Rel X g V H s) (r : VR X.B.T g (.ref i) c) (e : dictAt H i = some kv)
    (k : ∀ a kvs, Heap.DictOf (strKind X.prog X.w) s.heap a kvs → kvs.map (·.1) = kv.map (fun q => strS q.1) → VRs X.B.T g (kv.map (·.2)) (kvs.map (·.2)) → g.σ[i]? = some (a, a) → a ≠ sysModules → C (.ref a)) : C c :=
  r.ref1 fun x m hx => (R.obj hx (dictAt_of e)).elim fun q r => r.elim fun kvs r => (show m = x from q.1.symm) ▸ k m kvs r.1 r.2.1 r.2.2 ((show x = m from q.1) ▸ hx) q.2
@[elab_as_elim] theorem Rel.inst1 {d : Nat} {fs : List AV} (R : Rel X g V H s) (r : VR X.B.T g (.ref i) c) (e : instAt H d i = some fs)
    (k : ∀ x m D es n cvs, X.B.T.cls d = some D → g.Z x = some (instObj D m) → s.heap.get? m = some (dictOf es n) → Ent (X.B.T.flds d) cvs es → VRs X.B.T g fs cvs → g.σ[i]? = some (x, m) → C (.ref x)) : C c :=
  r.ref1 fun x m hx => (R.obj hx (instAt_of e)).elim fun D r => r.elim fun es r => r.elim fun n r => r.elim fun cvs r => k x m D es n cvs r.1 r.2.1 r.2.2.1 r.2.2.2.1 r.2.2.2.2 hx
@[elab_as_elim] theorem Rel.it1 {vs : List AV} (R : Rel X g V H s) (r : VR X.B.T g v c) (e : listIt? H v = some vs) (k : ∀ a cvs n, s.heap.get? a = some (listOb cvs n) → VRs X.B.T g vs cvs → C (.ref a)) : C c := by
  cases v with
  | lst _ => exact (Option.some.inj e ▸ r : VR X.B.T g (.lst vs) c).lst1 fun a cvs n z r => k a cvs n (R.zed z) r
  | ref _ => exact R.list1 r e fun a cvs n z r _ => k a cvs n z r
  | _ => exact clash rfl e
@[elab_as_elim] theorem Rel.items1 {vs : List AV} (R : Rel X g V H s) (r : VR X.B.T g v c) (e : items? H v = some vs) (k : ∀ a cvs n, s.heap.get? a = some (listOb cvs n) → VRs X.B.T g vs cvs → C (.ref a))
    (kt : ∀ a cvs n, s.heap.get? a = some (tupOb cvs n) → VRs X.B.T g vs cvs → C (.ref a)) : C c := by
  cases v with
  | tup _ => exact (Option.some.inj e ▸ r : VR X.B.T g (.tup vs) c).tup1 fun a cvs n z r => kt a cvs n (R.zed z) r
  | _ => exact R.it1 r e k
end

mutual
theorem toPy_reads (R : Rel X g V H s) : ∀ {n : Nat} {v : AV} {c : Value} {d : PyData}, VR X.B.T g v c → toPy n H v = some d → ∃ as, Reads s.heap c d as
  | 0, _, _, _, _, e => clash rfl e
  | n + 1, v, c, d, r, e => by
    cases v with
    | non => exact r.non1 (Option.some.inj e ▸ ⟨_, .none⟩)
    | bool b => exact r.bool1 (Option.some.inj e ▸ ⟨_, .bool b⟩)
    | int i => exact r.int1 fun t => Option.some.inj e ▸ ⟨_, .int i t⟩
    | str i => exact r.str1 fun t => Option.some.inj e ▸ ⟨_, .str _ t⟩
    | tup vs => exact r.tup1 fun a cvs n hg rs => bnd e fun ds ed e => (toPyL_reads R rs ed).elim fun as ra => Option.some.inj e ▸ ⟨_, .tuple (R.zed hg) rfl rfl ra⟩
    | lst vs => exact r.lst1 fun a cvs n hg rs => bnd e fun ds ed e => (toPyL_reads R rs ed).elim fun as ra => Option.some.inj e ▸ ⟨_, .list (R.zed hg) rfl rfl ra⟩
    | ref i => exact bnd e fun vs ev e => R.list1 r ev fun a cvs n hg rs _ => bnd e fun ds ed e => (toPyL_reads R rs ed).elim fun as ra => Option.some.inj e ▸ ⟨_, .list hg rfl rfl ra⟩
    | _ => exact clash rfl e
theorem toPyL_reads (R : Rel X g V H s) : ∀ {n : Nat} {vs : List AV} {cs : List Value} {ds : List PyData}, VRs X.B.T g vs cs → toPyL n H vs = some ds → ∃ as, ReadsAll s.heap cs ds as
  | 0, _, _, _, _, e => clash rfl e
  | n + 1, vs, cs, ds, r, e => by
    cases vs with
    | nil => exact Option.some.inj e ▸ (show cs = [] from r) ▸ ⟨_, .nil⟩
    | cons v vs => exact bnd e fun d ed e => bnd e fun ds es e => r.elim fun c r => r.elim fun cs r => (toPy_reads R r.2.1 ed).elim fun as a => (toPyL_reads R r.2.2 es).elim fun bs b => Option.some.inj e ▸ r.1 ▸ ⟨_, .cons a b⟩
end
end Mini
end

section
open PySem PySem.W PyProof.Rows PySem.Calls
namespace Mini
variable {X : Wo} {g : Gh} {V : Pm} {H H' : AH} {s : Shared} {h' : Heap} {A : Around} {E : Value → Shared → Prop} {Q : Value → Shared → Prop}

noncomputable def isOp (neg : Bool) : CmpOp := if neg then .IsNot else .Is
theorem is_no (neg : Bool) {a b : Value} (e : isSame a b = pure false) (h : Q (.bool (if neg then !false else false)) s) : wpAny X.M A (compareOp (isOp neg) a b) Q E s := by
  cases neg with
  | false =>
    show wpAny _ _ (do return .bool (← isSame a b)) Q E s
    rw [e]; exact wpAny_bind (wpAny_pure (wpAny_pure h))
  | true =>
    show wpAny _ _ (do return .bool (!(← isSame a b))) Q E s
    rw [e]; exact wpAny_bind (wpAny_pure (wpAny_pure h))
theorem is_refs (neg b : Bool) {p q : Addr} {o1 o2 : Obj} (g1 : s.heap.get? p = some o1) (g2 : s.heap.get? q = some o2) (nt : o1.cls ≠ .type "tuple") (h1 : b = true → p = q) (h2 : b = false → p ≠ q) (h : Q (.bool (if neg then !b else b)) s) :
    wpAny X.M A (compareOp (isOp neg) (.ref p) (.ref q)) Q E s := by
  cases b with
  | true =>
    have e := h1 rfl; subst e
    cases neg with
    | false => exact wpAny_is_ref_self h
    | true => exact wpAny_isNot_ref_self h
  | false =>
    cases neg with
    | false => exact wpAny_is_ref_other (h2 rfl) g1 g2 nt h
    | true => exact wpAny_isNot_ref_other (h2 rfl) g1 g2 nt h

theorem Rel.seen (R : Rel X g V H s) {i : Nat} {p : Addr × Addr} (hp : g.σ[i]? = some p) : ∃ ob, s.heap.get? p.1 = some ob ∧ ob.cls ≠ .type "tuple" ∧ (p.1 = p.2 ∨ ∃ c D, X.B.T.cls c = some D ∧ g.Z p.1 = some (instObj D p.2)) :=
  (R.objAt hp).elim fun o r => by
    cases o with
    | list vs => exact r.2.elim fun _ q => q.elim fun _ q => ⟨_, r.1 ▸ q.1, by simp, .inl r.1⟩
    | inst c fs => exact r.elim fun D r => r.elim fun _ r => r.elim fun _ r => r.elim fun _ r => ⟨_, R.zed r.2.1, by simp, .inr ⟨c, D, r.1, r.2.1⟩⟩
    | dict kv => exact r.2.elim fun _ q => q.1.elim fun o q => q.elim fun _ q => q.elim fun _ q => ⟨o, r.1.1 ▸ q.1, by rw [q.2.1.1]; decide, .inl r.1.1⟩
theorem Rel.same_at (R : Rel X g V H s) {i j : Nat} {x m m' : Addr} (hi : g.σ[i]? = some (x, m)) (hj : g.σ[j]? = some (x, m')) : i = j := by
  obtain ⟨_, _, _, a⟩ := R.seen hi
  obtain ⟨_, _, _, b⟩ := R.seen hj
  rcases a with a | ⟨_, _, _, a⟩
  · rcases b with b | ⟨_, _, _, b⟩
    · exact R.inj hi hj (a.symm.trans b)
    · exact clash (R.mz hi) (a ▸ b)
  · rcases b with b | ⟨_, _, _, b⟩
    · exact clash (R.mz hj) (b ▸ a)
    · exact R.inj hi hj (by have := Option.some.inj (a.symm.trans b); simp at this; exact this.2)

theorem snd_is {x y : AV} {cx cy : Value} {b : Bool} (C : Cx X) (R : Rel X g V H s) (rx : VR X.B.T g x cx) (ry : VR X.B.T g y cy) (e : isV x y = some b) (neg : Bool)
    (h : Q (.bool (if neg then !b else b)) s) : wpAny X.M A (compareOp (isOp neg) cx cy) Q E s := by
  cases y with
  | non =>
    refine ry.non1 ?_
    cases x with
    | non =>
      have h : Q (.bool (if neg then !true else true)) s := Option.some.inj e ▸ h
      refine rx.non1 ?_
      cases neg with
      | false => exact PySem.is_none h
      | true => exact isNot_none h
    | ref _ => exact rx.ref1 fun _ _ _ => is_no neg rfl (Option.some.inj e ▸ h)
    | rcd _ _ => exact rx.rcd1 fun _ _ _ _ _ _ _ _ _ _ _ => is_no neg rfl (Option.some.inj e ▸ h)
    | int _ => exact rx.int1 fun _ => is_no neg rfl (Option.some.inj e ▸ h)
    | tup _ => exact rx.tup1 fun _ _ _ _ _ => is_no neg rfl (Option.some.inj e ▸ h)
    | _ => exact clash rfl e
  | ref j =>
    cases x with
    | ref i =>
      refine rx.ref1 fun p m hi => ry.ref1 fun q m' hj => (R.seen hi).elim fun _ a => (R.seen hj).elim fun _ b => is_refs neg _ a.1 b.1 a.2.1 (fun z => ?_) (fun z w => ?_) h
      · cases (of_decide_eq_true ((Option.some.inj e).trans z)); cases hi.symm.trans hj; rfl
      · exact of_decide_eq_false ((Option.some.inj e).trans z) (R.same_at (w ▸ hi) hj)
    | _ => exact clash rfl e
  | spc j =>
    refine ry.spc1 fun q hj => ?_
    obtain ⟨D, m, es, n, z, _, _, hn⟩ := C.spc hj
    have z := R.low z
    cases x with
    | spc i =>
      refine rx.spc1 fun p hi => ?_
      obtain ⟨D', m', _, _, z', _, _, _⟩ := C.spc hi
      refine is_refs neg _ (R.zed (R.low z')) (R.zed z) (by simp) (fun y => ?_) (fun y w => ?_) h
      · exact Option.some.inj (hi.symm.trans ((of_decide_eq_true ((Option.some.inj e).trans y)) ▸ hj))
      · exact of_decide_eq_false ((Option.some.inj e).trans y) (C.spcInj (w ▸ hi) hj)
    | ref i =>
      refine rx.ref1 fun p m hi => (R.seen hi).elim fun _ a => is_refs neg false a.1 (R.zed z) a.2.1 (fun y => nomatch y) (fun _ w => ?_) (Option.some.inj e ▸ h)
      subst w
      rcases a.2.2 with b | ⟨c, _, hc, b⟩
      · exact clash (R.mz hi) ((show p = m from b) ▸ z)
      · have := Option.some.inj (b.symm.trans z)
        simp at this
        exact (hn hc).2 this.1
    | rcd c fs =>
      refine rx.rcd1 fun p _ _ _ _ _ hc z' _ _ _ => is_refs neg false (R.zed z') (R.zed z) (by simp) (fun y => nomatch y) (fun _ w => ?_) (Option.some.inj e ▸ h)
      subst w
      have := Option.some.inj (z'.symm.trans z)
      simp at this
      exact (hn hc).2 this.1
    | int _ => exact rx.int1 fun _ => is_no neg rfl (Option.some.inj e ▸ h)
    | _ => exact clash rfl e
  | _ => exact clash rfl e

noncomputable def eqOp (neg : Bool) : CmpOp := if neg then .NotEq else .Eq
theorem isL_list {h : Heap} {a : Addr} {cvs : List Value} {n : Nat} (g : h.get? a = some (listOb cvs n)) : h.IsList a cvs.toArray := ⟨_, g, rfl, n, rfl⟩
theorem str_beq (a b : List Nat) : ((⟨a.toArray⟩ : Str) == (⟨b.toArray⟩ : Str)) = decide (a = b) := by
  rw [Bool.eq_iff_iff]; simp
theorem or_of {α : Type} {x y : Option α} {a : α} (e : x.or y = some a) : x = some a ∨ y = some a := by
  cases x with
  | none => exact .inr e
  | some b => exact .inl e
theorem eqD_ok {x y : AV} {cx cy : Value} {b : Bool} (R : Rel X g V H s) (hu : A.units + 80 < cLine) (rx : VR X.B.T g x cx) (ry : VR X.B.T g y cy) (e : eqD H x y = some b) (neg : Bool)
    (h : Q (.bool (if neg then !b else b)) s) : wpAny X.M A (compareOp (eqOp neg) cx cy) Q E s := by
  rcases or_of e with e | e
  · refine bnd e fun n en e => bnd e fun m em e => iff' e fun hc e => R.it1 rx en fun a ca k ga ra => R.it1 ry em fun b' cb k' gb rb => ?_
    have hne : (ca.toArray.size != cb.toArray.size) = true := by rw [List.size_toArray, List.size_toArray, ra.length, rb.length]; exact hc
    have h : Q (.bool (if neg then !false else false)) s := Option.some.inj e ▸ h
    cases neg with
    | false => exact SeqAt.eq_list_lengthsAt (isL_list ga) (isL_list gb) hne (by omega) h
    | true => exact SeqAt.RcNeAt.lists_lengths (isL_list ga) (isL_list gb) hne (by omega) _ _ E Q h
  · refine bnd e fun d ed e => bnd e fun f ef e => iff' e fun hs e => (toPy_reads R rx ed).elim fun as r1 => (toPy_reads R ry ef).elim fun bs r2 => ?_
    have hs := Bool.and_eq_true_iff.mp hs
    have h : Q (.bool (if neg then !(d.eqv f) else d.eqv f)) s := Option.some.inj e ▸ h
    cases neg with
    | false => exact eq_dataH r1 r2 hs.1 hs.2 (by omega) h
    | true => exact ne_dataH r1 r2 hs.1 hs.2 (by omega) h
theorem snd_eq {x y : AV} {cx cy : Value} {b : Bool} (R : Rel X g V H s) (hu : A.units + 80 < cLine) (rx : VR X.B.T g x cx) (ry : VR X.B.T g y cy) (e : eqV H x y = some b) (neg : Bool)
    (h : Q (.bool (if neg then !b else b)) s) : wpAny X.M A (compareOp (eqOp neg) cx cy) Q E s := by
  cases x with
  | int i =>
    cases y with
    | int j =>
      refine rx.int1 fun t => ry.int1 fun u => ?_
      have h : Q (.bool (if neg then !(decide (i = j)) else decide (i = j))) s := Option.some.inj e ▸ h
      cases neg with
      | false => exact eq_int h
      | true => exact ne_int h
    | _ => exact eqD_ok R hu rx ry e neg h
  | str i =>
    cases y with
    | str j =>
      refine rx.str1 fun t => ry.str1 fun u => ?_
      have h : Q (.bool (if neg then !(decide (i = j)) else decide (i = j))) s := Option.some.inj e ▸ h
      cases neg with
      | false => exact eq_str (by rw [str_beq]; exact h)
      | true => exact ne_str (by rw [bne, str_beq]; exact h)
    | _ => exact eqD_ok R hu rx ry e neg h
  | _ => exact eqD_ok R hu rx ry e neg h

noncomputable def inOp (neg : Bool) : CmpOp := if neg then .NotIn else .In
theorem inD_ok {x y : AV} {cx cy : Value} {b : Bool} (R : Rel X g V H s) (hu : A.units + 80 < cLine) (rx : VR X.B.T g x cx) (ry : VR X.B.T g y cy) (e : inD H x y = some b) (neg : Bool)
    (h : Q (.bool (if neg then !b else b)) s) : wpAny X.M A (compareOp (inOp neg) cx cy) Q E s := by
  refine bnd e fun vs ev e => bnd e fun d ed e => bnd e fun ds es e => iff' e fun hs e => (toPy_reads R rx ed).elim fun as r1 => ?_
  have hs := Bool.and_eq_true_iff.mp hs
  have c2 : PyData.canLayAll0 ds = true := SeqAt.canLay_of_shaped hs.2
  have c1 := SeqAt.canLay_of_shaped hs.1
  have hr : A.units + 1 + min (PyData.depthAll ds) d.depth < cLine := room_in_shaped hs.1 (by omega)
  have h : Q (.bool (if neg then !(ds.any fun y => y.eqv d) else (ds.any fun y => y.eqv d))) s := Option.some.inj e ▸ h
  refine R.items1 ry ev (fun a cvs n hg rs => (toPyL_reads R rs es).elim fun bs r2 => ?_) (fun a cvs n hg rs => (toPyL_reads R rs es).elim fun bs r2 => ?_)
  · cases neg with
    | false => exact SeqAt.in_list_reads (.list hg rfl rfl r2) r1 c2 c1 hr h
    | true => exact SeqAt.notIn_list_reads (.list hg rfl rfl r2) r1 c2 c1 hr h
  · cases neg with
    | false => exact SeqAt.in_tuple_reads (.tuple hg rfl rfl r2) r1 c2 c1 hr h
    | true => exact SeqAt.notIn_tuple_reads (.tuple hg rfl rfl r2) r1 c2 c1 hr h
theorem found_at (s' : List Nat) (k : Nat) : (!(Builtin.Str.occurrences (⟨s'.toArray⟩ : Str) ⟨[k].toArray⟩ 0 (⟨s'.toArray⟩ : Str).length 1).isEmpty) = s'.contains k := by
  rw [show (⟨[k].toArray⟩ : Str) = { cps := #[k] } from rfl, StrLaws.found_one]
  rw [Bool.eq_iff_iff]; simp
theorem snd_in {x y : AV} {cx cy : Value} {b : Bool} (R : Rel X g V H s) (hu : A.units + 80 < cLine) (rx : VR X.B.T g x cx) (ry : VR X.B.T g y cy) (e : inV H x y = some b) (neg : Bool)
    (h : Q (.bool (if neg then !b else b)) s) : wpAny X.M A (compareOp (inOp neg) cx cy) Q E s := by
  cases y with
  | str w =>
    refine bnd e fun z ez e1 => vS ez rx fun t => ry.str1 fun u => ?_
    cases z with
    | nil => exact clash rfl e1
    | cons k z =>
      cases z with
      | cons _ _ => exact clash rfl e1
      | nil =>
        have h : Q (.bool (if neg then !(w.contains k) else w.contains k)) s := Option.some.inj e1 ▸ h
        cases neg with
        | false => exact in_str (by rw [found_at]; exact h)
        | true => exact notIn_str (by rw [found_at]; exact h)
  | _ => exact inD_ok R hu rx ry e neg h

noncomputable def copOp : Cop → CmpOp
  | .lt => .Lt | .le => .LtE | .gt => .Gt | .ge => .GtE | .eq => .Eq | .ne => .NotEq | .is => .Is | .isnt => .IsNot | .isin => .In | .nin => .NotIn
theorem map_of {α β : Type} {x : Option α} {f : α → β} {b : β} {C : Prop} (e : x.map f = some b) (k : ∀ a, x = some a → f a = b → C) : C := by
  cases x with
  | none => exact clash rfl e
  | some a => exact k a rfl (Option.some.inj e)
@[elab_as_elim] theorem vI2b {T : Sta} {x y : AV} {c d : Value} {f : Int → Int → Option Bool} {v : Bool} {C : Value → Value → Prop} (e : ((asI x).bind fun a => (asI y).bind fun b => f a b) = some v) (r : VR T g x c) (q : VR T g y d) (k : ∀ a b t u, f a b = some v → C (.int a t) (.int b u)) : C c d :=
  bnd e fun a ea e => bnd e fun b eb e => vI ea r fun t => vI eb q fun u => k a b t u e
theorem snd_cmp {o : Cop} {x y : AV} {cx cy : Value} {b : Bool} (C : Cx X) (R : Rel X g V H s) (hu : A.units + 80 < cLine) (rx : VR X.B.T g x cx) (ry : VR X.B.T g y cy) (e : cmpV H o x y = some b) (h : Q (.bool b) s) : wpAny X.M A (compareOp (copOp o) cx cy) Q E s := by
  cases o with
  | lt => exact vI2b e rx ry fun _ _ _ _ e => lt_int (Option.some.inj e ▸ h)
  | le => exact vI2b e rx ry fun _ _ _ _ e => le_int (Option.some.inj e ▸ h)
  | gt => exact vI2b e rx ry fun _ _ _ _ e => gt_int (Option.some.inj e ▸ h)
  | ge => exact vI2b e rx ry fun _ _ _ _ e => ge_int (Option.some.inj e ▸ h)
  | eq => exact snd_eq R hu rx ry e false h
  | ne => exact map_of e fun a ea e => snd_eq R hu rx ry ea true (e ▸ h)
  | is => exact snd_is C R rx ry e false h
  | isnt => exact map_of e fun a ea e => snd_is C R rx ry ea true (e ▸ h)
  | isin => exact snd_in R hu rx ry e false h
  | nin => exact map_of e fun a ea e => snd_in R hu rx ry ea true (e ▸ h)
end Mini
end

section
open PySem PySem.W PyProof.Rows PySem.Calls
namespace Mini
variable {X : Wo} {g : Gh} {V : Pm} {H H' : AH} {s : Shared} {h' : Heap} {A : Around} {E : Value → Shared → Prop} {Q : Value → Shared → Prop}

noncomputable def notSlice (e : PySem.Expr) : Bool := e.ctorIdx != 26
theorem subscripted_plain {slice : PySem.Expr} (hn : notSlice slice = true) (o i : Value) : subscripted slice false o i = operate [o, i] (getItem o i) := by
  cases slice <;> first | rfl | exact nomatch hn
theorem seq_at {i : Int} {n j : Nat} (e : seqIndex? i n = some j) : (0 ≤ i ∧ j = i.toNat) ∨ (i < 0 ∧ -(n : Int) ≤ i ∧ j = (i + n).toNat) := by
  have e : (if (decide (0 ≤ (if i < 0 then i + (n : Int) else i)) && decide ((if i < 0 then i + (n : Int) else i) < (n : Int))) = true then some (if i < 0 then i + (n : Int) else i).toNat else none) = some j := e
  by_cases h : i < 0
  · rw [if_pos h] at e
    exact .inr (iff' e fun q e => ⟨h, by have := of_decide_eq_true (Bool.and_eq_true_iff.mp q).1; omega, (Option.some.inj e).symm⟩)
  · rw [if_neg h] at e
    exact .inl ⟨Int.not_lt.mp h, iff' e fun _ e => (Option.some.inj e).symm⟩
theorem seq_nat {i : Int} {n : Nat} (h : 0 ≤ i) (hn : i.toNat < n) : seqIndex? i n = some i.toNat := by
  show (if (decide (0 ≤ (if i < 0 then i + (n : Int) else i)) && decide ((if i < 0 then i + (n : Int) else i) < (n : Int))) = true then some (if i < 0 then i + (n : Int) else i).toNat else none) = some _
  rw [if_neg (Int.not_lt.mpr h), if_pos (Bool.and_eq_true_iff.mpr ⟨decide_eq_true h, decide_eq_true ((Int.toNat_lt h).mp hn)⟩)]

theorem subD_ok {value slice : PySem.Expr} {x v : AV} {cx : Value} {i : Int} {t : Tok} (hn : notSlice slice = true) (R : Rel X g V H s) (rx : VR X.B.T g x cx)
    (e : ((items? H x).bind fun vs => if smallI i then (seqIndex? i vs.length).bind fun j => vs[j]? else none) = some v) (k : Kt X g V H v Q) :
    wpAny X.M A (subscriptTail value slice cx (.int i t)) Q E s := by
  refine bnd e fun vs ev e => iff' e fun hs e => bnd e fun j ej e => ?_
  have hs : i.natAbs < 2 ^ 30 := of_decide_eq_true hs
  have q := seq_at ej
  refine R.items1 rx ev (fun a cvs n hg rs => (rs.get e).elim fun c r => tail_any ⟨_, hg, rfl⟩ F.slot_list_getitem.lookup ?_ (subscripted_plain hn _ _)) (fun a cvs n hg rs => (rs.get e).elim fun c r =>
    tail_any ⟨_, hg, rfl⟩ F.slot_tuple_getitem.lookup (PySem.P.getItem_tuple hg (by clear q; omega) (by clear q; omega) (by rw [List.size_toArray, rs.length]; exact ej) (List.getElem?_toArray.trans r.1) (k.here R r.2)) (subscripted_plain hn _ _))
  have r1 : cvs.toArray[j]? = some c := List.getElem?_toArray.trans r.1
  rcases q with q | q
  · exact wpAny_getItem_list (isL_list hg) q.1 (by clear q; omega) (q.2 ▸ r1) (k.here R r.2)
  · have hl : cvs.toArray.size = vs.length := rs.length
    exact wpAny_getItem_list_neg (isL_list hg) q.1 (by rw [hl]; exact q.2.1) (by clear q; omega) (by rw [hl]; exact q.2.2 ▸ r1) (k.here R r.2)
theorem snd_sub {value slice : PySem.Expr} {x y v : AV} {cx cy : Value} (hn : notSlice slice = true) (R : Rel X g V H s) (rx : VR X.B.T g x cx) (ry : VR X.B.T g y cy) (e : subV H x y = some v) (k : Kt X g V H v Q) :
    wpAny X.M A (subscriptTail value slice cx cy) Q E s := by
  refine bnd e fun i ei e1 => vI ei ry fun t => ?_
  cases x with
  | str w =>
    refine iff' e1 fun hi e => map_of e fun c ec e => rx.str1 fun u => ?_
    have hl := (List.getElem?_eq_some_iff.mp ec).1
    refine tail_any (typeIs_str s _ _) F.slot_str_getitem.lookup (getItem_str (c := c) ?_ ?_ ((k.of (congrArg some e)).here R ⟨s.toks, rfl⟩)) (subscripted_plain hn _ _)
    · have h1 := hi.1; have h2 := hi.2
      rw [Bool.or_eq_false_iff]; exact ⟨decide_eq_false (by omega), decide_eq_false (by omega)⟩
    · rw [show (⟨w.toArray⟩ : Str).length = w.length from rfl, seq_nat hi.1 hl]; exact List.getElem?_toArray.trans ec
  | _ => exact subD_ok hn R rx e1 k

theorem kms_lo_nat (n m : Nat) : kms_lo (some (Int.ofNat n)) m = min n m := by unfold kms_lo; exact if_neg (Int.not_lt.mpr (Int.natCast_nonneg n))
theorem kms_hi_nat (n m : Nat) : kms_hi (some (Int.ofNat n)) m = min n m := by unfold kms_hi; exact if_neg (Int.not_lt.mpr (Int.natCast_nonneg n))
theorem slice_eq {α : Type} (s : List α) (l u : Option Nat) : (s.drop (kms_lo (l.map Int.ofNat) s.length)).take (kms_hi (u.map Int.ofNat) s.length - kms_lo (l.map Int.ofNat) s.length) = sliceL s (l.getD 0) u := by
  have lo : kms_lo (l.map Int.ofNat) s.length = min (l.getD 0) s.length := by
    cases l with
    | none => exact (Nat.zero_min _).symm
    | some n => exact kms_lo_nat ..
  have cut : ∀ t : List α, t.length ≤ s.length → t.drop (min (l.getD 0) s.length) = t.drop (l.getD 0) := fun t ht => by
    rcases Nat.le_total (l.getD 0) s.length with q | q
    · rw [Nat.min_eq_left q]
    · rw [Nat.min_eq_right q, List.drop_eq_nil_of_le ht, List.drop_eq_nil_of_le (Nat.le_trans ht q)]
  rw [lo, ← List.drop_take]
  cases u with
  | none => rw [show kms_hi (Option.map Int.ofNat none) s.length = s.length from rfl, List.take_length]; exact cut s (Nat.le_refl _)
  | some n =>
    rw [show kms_hi (Option.map Int.ofNat (some n)) s.length = min n s.length from kms_hi_nat .., kmk_take_min]
    exact cut _ (List.length_take_le' ..)
theorem sliceL_sub {α : Type} (s : List α) (l : Nat) (u : Option Nat) : (sliceL s l u).Sublist s := by
  cases u with
  | none => exact List.drop_sublist _ _
  | some _ => exact (List.drop_sublist _ _).trans (List.take_sublist _ _)
noncomputable def PartIs (l : Option Nat) (l' : Option (Int × Tok)) : Prop := l'.map (·.1) = l.map Int.ofNat
theorem part_is {l' : Option (Int × Tok)} {l : Option Int} (e : l'.map (·.1) = l) : IsPart (partValue l') l := by
  subst e
  cases l' with
  | none => exact .none
  | some p => constructor
noncomputable abbrev sliceOb (l u : Option (Int × Tok)) : Obj := { cls := .type "slice", data := .fields #[partValue l, partValue u, .none] }

theorem snd_slice {value : PySem.Expr} {lw up : Option PySem.Expr} {p : Pos} {x v : AV} {c : Value} {l u : Option Nat} {l' u' : Option (Int × Tok)} (R : Rel X g V H s) (rx : VR X.B.T g x c) (hl : PartIs l l') (hu : PartIs u u')
    (e : cutV (l.getD 0) u x = some v) (k : Kt X g V H v Q) :
    wpAny X.M A (subscriptTail value (.Slice lw up none p) c (.ref s.heap.objs.size)) Q E { s with heap := s.heap.push (sliceOb l' u') } := by
  have new : (s.heap.push (sliceOb l' u')).get? s.heap.objs.size = some (sliceOb l' u') := Heap.get?_push_size _ rfl
  cases x with
  | str x =>
    refine ifd e fun hx e => rx.str1 fun t => ?_
    have k := k.of e
    refine tail_any (ops := [.ref s.heap.objs.size, .str ⟨x.toArray⟩ t]) (typeIs_str _ _ _) F.slot_str_getitem.lookup (wpAny_getItem_str_slice (l := l') (u := u') (st := none) ⟨_, new, rfl, rfl⟩ rfl ?_) rfl
    have pk : slicePicked (⟨x.toArray⟩ : Str) l' u' none = (List.range (kms_hi (u.map Int.ofNat) x.length - kms_lo (l.map Int.ofNat) x.length)).map (kms_lo (l.map Int.ofNat) x.length + ·) := by
      show sliceRange (sliceBounds (l'.map (·.1)) (u'.map (·.1)) none x.length).1 (sliceBounds (l'.map (·.1)) (u'.map (·.1)) none x.length).2.1 1 = _
      rw [kms_bounds, sliceRange_one, hl, hu]
    have fm : (slicePicked (⟨x.toArray⟩ : Str) l' u' none).filterMap (fun i => (⟨x.toArray⟩ : Str).cps[i]?) = sliceL x (l.getD 0) u := by
      rw [pk]; exact (pick_run x.toArray _ _).trans (slice_eq x l u)
    have fin : ∀ {tk t'}, Q (.str ⟨(sliceL x (l.getD 0) u).toArray⟩ t') { s with heap := s.heap.push (sliceOb l' u'), toks := tk } := k.ext R keep_push ⟨_, rfl⟩
    unfold sliceMade
    split
    · rename_i hc
      have hlen : (sliceL x (l.getD 0) u).length = x.length := by
        have h1 := beq_iff_eq.mp (Bool.and_eq_true_iff.mp hc).2
        rw [pk, List.length_map, List.length_range, show (⟨x.toArray⟩ : Str).length = x.length from rfl] at h1
        have h2 : kms_hi (u.map Int.ofNat) x.length ≤ x.length := by
          cases u with
          | none => exact Nat.le_refl _
          | some n => rw [show kms_hi (Option.map Int.ofNat (some n)) x.length = min n x.length from kms_hi_nat ..]; exact Nat.min_le_right _ _
        rw [← slice_eq, List.length_take, List.length_drop]
        clear pk fm
        omega
      have := (sliceL_sub x (l.getD 0) u).eq_of_length hlen
      exact (this ▸ fin : Q (.str ⟨x.toArray⟩ t) _)
    · rw [fm]
      exact ⟨le_line (Nat.le_trans (sliceL_sub x (l.getD 0) u).length_le hx), fin⟩
  | lst x =>
    refine ifd e fun hx e => rx.lst1 fun a cvs n hg rs => ?_
    have k := k.of e
    have hg := keep_push (o := sliceOb l' u') _ _ (R.zed hg)
    refine tail_any (ops := [.ref s.heap.objs.size, .ref a]) ⟨_, hg, rfl⟩ F.slot_list_getitem.lookup (wpAny_getItem_list_slice (lo := l.map Int.ofNat) (hi := u.map Int.ofNat) (st := none) (isL_list hg) ⟨_, new, rfl, rfl⟩ (part_is hl) (part_is hu) .none (by simp) ?_ (le_line (by rw [List.size_toArray, rs.length]; exact hx))) rfl
    rw [kms_pick_eq, show kms_pick cvs.toArray.toList (l.map Int.ofNat) (u.map Int.ofNat) = sliceL cvs (l.getD 0) u from slice_eq cvs l u]
    refine k.lst (R.ext keep_push (tk := s.toks)) (n := 0) ?_ (Nat.le_refl _) keep_push (Heap.get?_push_size _ rfl) --(by rw [Heap.size_push]; exact Nat.le_succ _) (fun _ _ e => keep_push _ _ (keep_push _ _ e)) (Heap.get?_push_size _ rfl)
    cases u with
    | none => exact rs.drop _
    | some _ => exact (rs.take _).drop _
  | _ => exact clash rfl e
end Mini
end

section
open PySem PySem.W PyProof.Rows PySem.Calls
namespace Mini

theorem alls_vr {α : Type} {f : AV → Option α} {mk : α → Tok → Value} {T : Sta} {g : Gh} (hf : ∀ {v : AV} {c : Value} {a : α}, f v = some a → VR T g v c → ∃ t, c = mk a t) :
    ∀ {vs : List AV} {cs : List Value} {as : List α}, VRs T g vs cs → alls f vs = some as → ∃ xs : List (α × Tok), cs = xs.map (fun p => mk p.1 p.2) ∧ xs.map (·.1) = as
  | [], _, _, r, e => ⟨[], r, Option.some.inj e⟩
  | _ :: _, _, _, r, e => r.elim fun _ r => r.elim fun _ r => bnd e fun a ea e => bnd e fun _ el e => (hf ea r.2.1).elim fun t et => (alls_vr hf r.2.2 el).elim fun xs q => ⟨(a, t) :: xs, by rw [r.1, et, q.1]; rfl, by rw [List.map_cons, q.2]; exact Option.some.inj e⟩
theorem ints_vr {T : Sta} {g : Gh} {vs : List AV} {cs : List Value} {ns : List Int} (r : VRs T g vs cs) (e : ints? vs = some ns) : ∃ xs : List (Int × Tok), cs = xs.map (fun p => .int p.1 p.2) ∧ xs.map (·.1) = ns :=
  alls_vr (mk := .int) (fun e r => vI e r fun t => ⟨t, rfl⟩) r e
theorem ints_are : ∀ xs : List (Int × Tok), IntsAre (xs.map (fun p => .int p.1 p.2)) (xs.map (·.1))
  | [] => .nil
  | p :: xs => .cons p.1 p.2 (ints_are xs)

theorem max_ge (m x : Int) : m ≤ (if m < x then x else m) ∧ x ≤ (if m < x then x else m) := by
  by_cases h : m < x
  · rw [if_pos h]; exact ⟨Int.le_of_lt h, Int.le_refl x⟩
  · rw [if_neg h]; exact ⟨Int.le_refl m, Int.not_lt.mp h⟩
theorem maxL_ge : ∀ (l : List Int) (m : Int), m ≤ maxL m l ∧ ∀ x ∈ l, x ≤ maxL m l
  | [], m => ⟨Int.le_refl _, fun _ h => nomatch h⟩
  | y :: l, m =>
    have ih := maxL_ge l (if m < y then y else m)
    ⟨Int.le_trans (max_ge m y).1 ih.1, fun x hx => (List.mem_cons.mp hx).elim (fun e => by rw [e]; exact Int.le_trans (max_ge m y).2 ih.1) (ih.2 _)⟩
theorem maxL_mem : ∀ (l : List Int) (m : Int), maxL m l ∈ m :: l
  | [], m => List.mem_cons_self
  | y :: l, m => by
    have ih := maxL_mem l (if m < y then y else m)
    rcases List.mem_cons.mp ih with e | e
    · show maxL _ l ∈ _
      rw [e]
      by_cases h : m < y
      · rw [if_pos h]; exact List.mem_cons_of_mem _ List.mem_cons_self
      · rw [if_neg h]; exact List.mem_cons_self
    · exact List.mem_cons_of_mem _ (List.mem_cons_of_mem _ e)
theorem log2_small {n : Nat} (h : n < 2 ^ 30) : n.log2 < 1920 := by
  rcases Nat.eq_zero_or_pos n with rfl | h0
  · decide
  · exact (Nat.log2_lt (Nat.ne_of_gt h0)).2 (Nat.lt_of_lt_of_le h (Nat.pow_le_pow_right (n := 2) (by decide) (by decide)))
theorem rangeSize_down {a : Int} (h : -1 ≤ a) : Builtin.Range.rangeSize a (-1) (-1) = ((a + 1).toNat : Int) := by
  unfold Builtin.Range.rangeSize
  rw [if_neg (by decide), show (a - -1 - 1) / -(-1 : Int) = a from (Int.ediv_one _).trans (by omega)]
  split <;> omega
theorem small_down {a : Int} (h : -1 ≤ a) (h' : a ≤ 1000) : Builtin.Range.small a (-1) (-1) = true := by
  unfold Builtin.Range.small
  rw [rangeSize_down h]
  simp [Builtin.Range.rangeFitsLong]
  omega
theorem range_allm (bs : List Bool) : ((List.range bs.length).all fun i => (bs[i]?).getD true) = bs.all id := by
  rw [Bool.eq_iff_iff, List.all_eq_true, List.all_eq_true]
  constructor
  · intro q b hb
    obtain ⟨i, hi, rfl⟩ := List.getElem_of_mem hb
    have := q i (List.mem_range.mpr hi)
    rwa [List.getElem?_eq_getElem hi] at this
  · intro q i hi
    rw [List.getElem?_eq_getElem (List.mem_range.mp hi)]
    exact q _ (List.getElem_mem _)
theorem numAt_get (xs : List (Int × Tok)) (i : Nat) (hi : i < xs.length) : numAt xs.toArray i = (xs.map (·.1))[i]'(by simpa using hi) := by
  simp [numAt, hi]

variable {X : Wo} {g : Gh} {V : Pm} {H H' : AH} {s : Shared} {h' : Heap} {A : Around} {E : Value → Shared → Prop} {Q : Value → Shared → Prop}

theorem snd_max {a : Addr} {ds : List Value} {n : Nat} {ws : List AV} {x : Int} {r : List Int} (hh : A.handled = none) (R : Rel X g V H s) (hg : s.heap.get? a = some (listOb ds n)) (rd : VRs X.B.T g ws ds) (e : ints? ws = some (x :: r)) (k : Kt X g V H (.int (maxL x r)) Q) :
    wpAny X.M A (call (.builtin "max") [.ref a]) Q E s := by
  obtain ⟨xs, rfl, hx⟩ := ints_vr rd e
  have hlen : xs.length = r.length + 1 := by have := congrArg List.length hx; rwa [List.length_map] at this
  have hl : s.heap.IsList a (intItems xs.toArray) := ⟨_, hg, rfl, n, by simp [intItems]⟩
  refine max_intList hh hl (by rw [List.size_toArray, hlen]; exact Nat.succ_pos _) fun v h' tk hv hk => ?_
  obtain ⟨t, rfl⟩ := intItems_at hv
  obtain ⟨h1, h2⟩ := argBest_gt (numAt xs.toArray) (xs.toArray.size - 1)
  refine k.ext R hk ?_
  rw [List.size_toArray] at h1 h2 ⊢
  have hk : argBest (fun i j => decide (numAt xs.toArray i > numAt xs.toArray j)) (xs.length - 1) < xs.length := by rw [hlen] at h1 ⊢; exact Nat.lt_succ_of_le h1
  have hb := fun j (hj : j < xs.length) => h2 j (Nat.le_sub_one_of_lt hj)
  refine ⟨t, congrArg (Value.int · t) (Int.le_antisymm ?_ ?_)⟩
  · have h3 : ∀ K, K < xs.length → numAt xs.toArray K ∈ xs.map (·.1) := fun K hK => by rw [numAt_get _ _ hK]; exact List.getElem_mem _
    have h3 := h3 _ hk
    rw [hx] at h3
    rcases List.mem_cons.mp h3 with q | q
    · rw [q]; exact (maxL_ge r x).1
    · exact (maxL_ge r x).2 _ q
  · have e2 : maxL x r ∈ xs.map (·.1) := hx ▸ maxL_mem r x
    obtain ⟨j, hj, e3⟩ := List.getElem_of_mem e2
    have hj' : j < xs.length := by rwa [List.length_map] at hj
    rw [← e3, ← numAt_get _ _ hj']
    exact hb j hj'
theorem snd_all {a : Addr} {bs : List Bool} {n : Nat} (hh : A.handled = none) (R : Rel X g V H s) (hg : s.heap.get? a = some (listOb (bs.map Value.bool) n)) (k : Kt X g V H (.bool (bs.all id)) Q) :
    wpAny X.M A (call (.builtin "all") [.ref a]) Q E s := by
  have hl : s.heap.IsList a (bs.map Value.bool).toArray := isL_list hg
  have hlt : a < s.heap.objs.size := Heap.lt_size hg
  refine call_all_walk (wpAny_pyIter_list hl ?_)
  refine ⟨s.heap.objs.size, [s.heap.objs.size, a], [s.heap.objs.size], (bs.map Value.bool).toArray.size, _, _, fun i => (bs[i]?).getD true, rfl, Walks.list (A := A.in1) hh _ a (Nat.ne_of_lt hlt) (bs.map Value.bool).toArray,
    ⟨⟨_, Heap.get?_push_size _ rfl, rfl, rfl⟩, hl.push _⟩, fun i v s' Q' E' hP hQ => ?_, fun h' tk hk => ?_⟩
  · have hP' : (bs.map Value.bool)[i]? = some v := List.getElem?_toArray.symm.trans hP
    rw [List.getElem?_map] at hP'
    refine map_of hP' fun b e q => ?_
    have hQ : Q' ((bs[i]?).getD true) s' := hQ
    rw [e] at hQ
    exact q ▸ wpAny_truthy_bool hQ
  · rw [List.size_toArray, List.length_map, range_allm bs]
    exact k.ext (s := s) R (fun b o e => hk b o (fun hm => Nat.lt_irrefl _ (Heap.lt_size (List.mem_singleton.mp hm ▸ e))) (keep_push b o e)) rfl

theorem Kt.new {ao : AO} {o : Obj} {a tk : Nat} (k : Kt X g V (H ++ [ao]) (.ref H.length) Q) (R : Rel X g V H s) (ha : s.heap.objs.size ≤ a) (hk : ∀ b o, s.heap.get? b = some o → h'.get? b = some o) (e : h'.get? a = some o) (r : OR X (g.add (a, a)) h' (a, a) ao) :
    Q (.ref a) { s with heap := h', toks := tk } :=
  have f := R.free ha
  k.go Gh.add_le ((((R.ext hk).learn f e).give (x := a) Pm.put_self r).weak fun q => have n := fun z => clash f.f (z ▸ q); (Pm.del_ne n).trans ((Pm.put_ne n).trans q)) ⟨a, a, rfl, by rw [← R.len]; exact List.getElem?_concat_length⟩
theorem Kt.list {vs : List AV} {cvs : List Value} {a n tk : Nat} (k : Kt X g V (H ++ [.list vs]) (.ref H.length) Q) (R : Rel X g V H s) (rs : VRs X.B.T g vs cvs) (ha : s.heap.objs.size ≤ a) (hk : ∀ b o, s.heap.get? b = some o → h'.get? b = some o) (e : h'.get? a = some (listOb cvs n)) :
    Q (.ref a) { s with heap := h', toks := tk } := k.new R ha hk e ⟨rfl, cvs, n, e, rs.up Gh.add_le⟩

noncomputable def biFn : BI → Value
  | .len => .builtin "len" | .abs => .builtin "abs" | .ord => .builtin "ord" | .str => .type "str" | .listM => .type "list" | .listF => .type "list" | .max => .builtin "max" | .all => .builtin "all" | .range => .type "range"
@[elab_as_elim] theorem one_vr {T : Sta} {g : Gh} {vs : List AV} {v : AV} {cs : List Value} {C : List Value → Prop} (e : one? vs = some v) (r : VRs T g vs cs) (k : ∀ c, VR T g v c → C [c]) : C cs :=
  (one_of e ▸ r : VRs T g [v] cs).elim fun c r => r.elim fun ds r => r.1 ▸ (show ds = [] from r.2.2) ▸ k c r.2.1
theorem snd_range {vs : List AV} {cvs : List Value} {v : AV} (R : Rel X g V H s) (rs : VRs X.B.T g vs cvs) (e : rangeV vs = some v) (k : Kt X g V H v Q) : wpAny X.M A (call (.type "range") cvs) Q E s := by
  have ha : s.heap.objs.size ≤ s.heap.objs.size := Nat.le_refl _
  match vs, rs, e with
  | [], _, e => exact clash rfl e
  | [_, _], _, e => exact clash rfl e
  | _ :: _ :: _ :: _ :: _, _, e => exact clash rfl e
  | [_], rs, e =>
    obtain ⟨c, _, rfl, r, rfl⟩ := rs
    refine bnd e fun n en e => ifd e fun hc e => vI en r fun t => ?_
    refine call_range_1 ((k.of e).go (Gh.frz_le (R.free ha).z) (R.newZ ha keep_push (Heap.get?_push_size _ rfl)) ?_)
    exact ⟨_, _, _, _, _, _, rfl, Pm.put_self, fun h e => e, small_one (by omega) (by omega) (by omega) (by omega), by rw [rangeSize_one]; split <;> omega⟩
  | [_, _, _], rs, e =>
    obtain ⟨_, _, rfl, r1, _, _, rfl, r2, _, _, rfl, r3, rfl⟩ := rs
    refine bnd e fun a ea e => bnd e fun b eb e => bnd e fun c ec e => ifd e fun hc e1 => vI ea r1 fun t => vI eb r2 fun u => vI ec r3 fun w => ?_
    obtain ⟨rfl, rfl, h1, h2⟩ := hc
    refine call_range_3 (by decide) ((k.of e1).go (Gh.frz_le (R.free ha).z) (R.newZ ha keep_push (Heap.get?_push_size _ rfl)) ?_) (.inl (PyProof.noPylong_small (by decide)))
    exact ⟨_, _, _, _, _, _, rfl, Pm.put_self, fun h e => e, small_down h1 h2, rangeSize_down h1⟩
theorem Kt.of2 {v u : AV} {H1 H2 : AH} (k : Kt X g V H2 v Q) (e : some (u, H1) = some (v, H2)) : Kt X g V H1 u Q := by
  have e := Option.some.inj e
  exact (Prod.mk.inj e).1 ▸ (Prod.mk.inj e).2 ▸ k
theorem snd_bi {b : BI} {vs : List AV} {cvs : List Value} {v : AV} (hh : A.handled = none) (R : Rel X g V H s) (rs : VRs X.B.T g vs cvs) (e : biV H b vs = some (v, H')) (k : Kt X g V H' v Q) : wpAny X.M A (call (biFn b) cvs) Q E s := by
  cases b with
  | range => exact map_of e fun u eu e => snd_range R rs eu (k.of2 (congrArg some e))
  | len =>
    refine bnd e fun c ec e => one_vr ec rs fun cc r => bnd e fun n en e => ifd e fun hc e => ?_
    have k := k.of2 e
    rcases or_of en with en | en
    · refine map_of en fun w ew q => vS ew r fun t => len_str ?_ ?_
      · rw [show (⟨w.toArray⟩ : Str).length = n from q]; omega
      · rw [show (⟨w.toArray⟩ : Str).length = n from q]; exact k.int R
    · exact map_of en fun vs ev q => R.items1 r ev
        (fun a cvs m hg rs => len_list (isL_list hg) (by rw [List.size_toArray, rs.length, q]; omega) (by rw [List.size_toArray, rs.length, q]; exact k.int R))
        (fun a cvs m hg rs => len_tuple ⟨_, hg, rfl, m, rfl⟩ (by rw [List.size_toArray, rs.length, q]; omega) (by rw [List.size_toArray, rs.length, q]; exact k.int R))
  | abs => exact bnd e fun c ec e => one_vr ec rs fun cc r => bnd e fun i ei e => vI ei r fun t => call_abs_int fun u tk => (k.of2 e).int R
  | ord =>
    exact bnd e fun c ec e => one_vr ec rs fun cc r => bnd e fun w ew e => vS ew r fun t => bnd e fun x ex e => by
      cases one_of ex
      exact ord_of_one rfl ((k.of2 e).int R)
  | str => exact bnd e fun c ec e => one_vr ec rs fun cc r => bnd e fun i ei e => vI ei r fun t => iff' e fun hc e => PySem.P.str_of_int (log2_small (of_decide_eq_true hc)) ((k.of2 e).here R ⟨s.toks, rfl⟩)
  | listM =>
    exact bnd e fun c ec e => one_vr ec rs fun cc r => bnd e fun ws ew e => ifd e fun hc e => R.items1 r ew
      (fun a ds n hg rd => call_list_seq a (.inl rfl) hg rfl rfl (fun h' c' hk gn => (k.of2 e).list R rd (Nat.le_refl _) hk gn) (le_line (by rw [List.size_toArray, rd.length]; exact hc)))
      (fun a ds n hg rd => call_list_seq a (.inr rfl) hg rfl rfl (fun h' c' hk gn => (k.of2 e).list R rd (Nat.le_refl _) hk gn) (le_line (by rw [List.size_toArray, rd.length]; exact hc)))
  | listF =>
    exact bnd e fun c ec e => one_vr ec rs fun cc r => bnd e fun ws ew e => ifd e fun hc e => R.items1 r ew
      (fun a ds n hg rd => call_list_seq a (.inl rfl) hg rfl rfl (fun h' c' hk gn => (k.of2 e).lst R rd (Nat.le_refl _) hk gn) (le_line (by rw [List.size_toArray, rd.length]; exact hc)))
      (fun a ds n hg rd => call_list_seq a (.inr rfl) hg rfl rfl (fun h' c' hk gn => (k.of2 e).lst R rd (Nat.le_refl _) hk gn) (le_line (by rw [List.size_toArray, rd.length]; exact hc)))
  | max =>
    exact bnd e fun c ec e => one_vr ec rs fun cc r => bnd e fun ws ew e => R.it1 r ew fun a ds n hg rd => bnd e fun ns en e => by
      cases ns with
      | nil => exact clash rfl e
      | cons x r => exact snd_max hh R hg rd en (k.of2 e)
  | all =>
    exact bnd e fun c ec e => one_vr ec rs fun cc r => bnd e fun ws ew e => (vL ew r).lst1 fun a ds n hg rd => bnd e fun bs eb e => by
      obtain ⟨xs, rfl, rfl⟩ := alls_vr (mk := fun b _ => .bool b) (fun e r => vB e r ⟨0, rfl⟩) rd eb
      rw [show xs.map (fun p => Value.bool p.1) = (xs.map (·.1)).map Value.bool by rw [List.map_map]; rfl] at hg
      exact snd_all hh R (R.zed hg) (k.of2 e)
end Mini
end

section
open PySem PySem.W PyProof.Rows PySem.Calls
namespace Mini

noncomputable def methT : MN → AV → String × String
  | .append, _ => ("list", "list.append")
  | .pop, _ => ("list", "list.pop")
  | .index, v => if (asS v).isSome then ("str", "str.index") else ("list", "list.index")
  | .get, _ => ("dict", "dict.get")
  | .find, _ => ("str", "str.find")
  | .upper, _ => ("str", "str.upper")
  | .lower, _ => ("str", "str.lower")
  | .rstrip, _ => ("str", "str.rstrip")
  | .join, _ => ("str", "str.join")
noncomputable def methN : MN → Str
  | .append => "append" | .pop => "pop" | .index => "index" | .get => "get" | .find => "find" | .upper => "upper" | .lower => "lower" | .rstrip => "rstrip" | .join => "join"

theorem dropLast_arr (cvs : List Value) : cvs.toArray.eraseIdxIfInBounds (cvs.length - 1) = cvs.dropLast.toArray := by
  unfold Array.eraseIdxIfInBounds
  split
  · rw [List.eraseIdx_toArray, List.eraseIdx_length_sub_one]
  · rename_i hn
    cases cvs with
    | nil => rfl
    | cons a l => exact absurd (Nat.lt_succ_self _) hn
theorem strS_inj {a b : List Nat} (z : strS a = strS b) : a = b := by simpa [strS] using z
theorem strS_dec (a b : List Nat) : (a == b) = decide (strS b = strS a) := by
  by_cases q : a = b
  · rw [q, beq_self_eq_true]; exact (decide_eq_true rfl).symm
  · rw [beq_eq_false_iff_ne.mpr q]; exact (decide_eq_false fun z => q (strS_inj z.symm)).symm
theorem lookup_valueAt {T : Sta} {g : Gh} : ∀ {kv : List (List Nat × AV)} {kvs : List (Str × Value)} (k : List Nat), kvs.map (·.1) = kv.map (fun q => strS q.1) → VRs T g (kv.map (·.2)) (kvs.map (·.2)) →
    VR T g ((kv.lookup k).getD .non) ((valueAt kvs (strS k)).getD .none)
  | [], [], _, _, _ => rfl
  | [], _ :: _, _, e, _ => nomatch e
  | _ :: _, [], _, e, _ => nomatch e
  | (a, v) :: kv, (b, c) :: kvs, k, e, r => by
    obtain ⟨e1, e2⟩ := List.cons.inj e
    obtain ⟨_, _, q, r1, r2⟩ := r
    obtain ⟨rfl, rfl⟩ := List.cons.inj q
    have ih := lookup_valueAt k e2 r2
    unfold valueAt at ih ⊢
    rw [List.lookup_cons, List.find?_cons, strS_dec, show b = strS a from e1]
    by_cases z : strS a = strS k
    · rw [decide_eq_true z]; exact r1
    · rw [decide_eq_false z]; exact ih
theorem join_flat : ∀ ss : List (List Nat), Txt.join (strS []) (ss.map strS) = strS ss.flatten
  | [] => rfl
  | [x] => by
    show Builtin.Str.glued _ _ = _
    rw [StrLaws.glued_eq_join]
    simp [Str.join]
  | x :: y :: r => by
    have ih := join_flat (y :: r)
    show Builtin.Str.glued _ _ = _
    rw [show Txt.join (strS []) ((y :: r).map strS) = Builtin.Str.glued (strS []) ((y :: r).map strS) from rfl, StrLaws.glued_eq_join] at ih
    rw [StrLaws.glued_eq_join]
    show strS x ++ strS [] ++ Str.join (strS []) ((y :: r).map strS) = _
    rw [ih]
    show Str.mk (_ ++ _ ++ _) = _
    simp [strS]
theorem short_str {n : Nat} {t : Str} (h : (decide (n ≤ 100) && decide (t.length ≤ 1000)) = true) : Builtin.Str.tooLong t.length = false := by
  have := of_decide_eq_true (Bool.and_eq_true_iff.mp h).2
  simp [Builtin.Str.tooLong, sizeLine]; omega
theorem join_room {ss : List (List Nat)} (h1 : ss.flatten.length ≤ 100000) (h2 : ss.length ≤ 10000) : JoinOk (strS []) (ss.map strS) := by
  unfold JoinOk
  rw [StrLaws.joinTotal]
  simp only [Builtin.Str.tooLong, sizeLine, List.map_map]
  rw [List.length_flatten] at h1
  have e5 : (fun x : Str => x.length) ∘ strS = List.length := by funext x; simp [strS, Str.length]
  rw [e5]
  simp [Str.length, strS]
  omega

variable {X : Wo} {g : Gh} {V : Pm} {H H' : AH} {s : Shared} {h' : Heap} {A : Around} {E : Value → Shared → Prop} {Q : Value → Shared → Prop}

theorem isN_of {v : AV} (e : isN v = true) : v = .non := by
  cases v with
  | non => rfl
  | _ => exact nomatch e
@[elab_as_elim] theorem two_vr {T : Sta} {vs : List AV} {p : AV × AV} {cs : List Value} {C : List Value → Prop} (e : two? vs = some p) (r : VRs T g vs cs) (k : ∀ c d, VR T g p.1 c → VR T g p.2 d → C [c, d]) : C cs := by
  match vs, e with
  | [x, y], e =>
    obtain ⟨c, _, rfl, r1, d, _, rfl, r2, rfl⟩ := r
    cases e
    exact k c d r1 r2
  | [], e | [_], e | _ :: _ :: _ :: _, e => exact clash rfl e
theorem some_of {α : Type} {x : Option α} {C : Prop} (e : x.isSome = true) (k : ∀ a, x = some a → C) : C := by
  cases x with
  | none => exact nomatch e
  | some a => exact k a rfl
structure Recv (m : MN) (ov : AV) (cov : Value) (s : Shared) : Prop where
  pa : PlainAttrs (methT m ov).1
  sl : Slot (methT m ov).1 (methN m) (methT m ov).2
  ty : typeOf (.builtin (methT m ov).2) = pure (.type "method_descriptor")
  is : s.TypeIs cov (methT m ov).1
  dn : ∀ a, cov = .ref a → ∃ ob, s.heap.get? a = some ob ∧ ob.dict = none
theorem dn_str {x : Str} {t : Tok} : ∀ a, Value.str x t = .ref a → ∃ ob, s.heap.get? a = some ob ∧ ob.dict = none := fun _ q => nomatch q
theorem dn_ref {x : Addr} {o : Obj} (e : s.heap.get? x = some o) (hd : o.dict = none) : ∀ a, Value.ref x = .ref a → ∃ ob, s.heap.get? a = some ob ∧ ob.dict = none := fun _ q => ⟨o, Value.ref.inj q ▸ e, hd⟩
theorem snd_recv {m : MN} {ov : AV} {cov : Value} (R : Rel X g V H s) (r : VR X.B.T g ov cov) (e : recvOk H m ov = true) : Recv m ov cov s := by
  cases ov with
  | ref i =>
    cases m with
    | append => exact some_of e fun _ e => R.list1 r e fun _ _ _ hg _ _ => ⟨F.plainAttrs_list, F.slot_list_append, F.type_list_append, ⟨_, hg, rfl⟩, dn_ref hg rfl⟩
    | pop => exact some_of e fun _ e => R.list1 r e fun _ _ _ hg _ _ => ⟨F.plainAttrs_list, F.slot_list_pop, F.type_list_pop, ⟨_, hg, rfl⟩, dn_ref hg rfl⟩
    | index => exact some_of e fun _ e => R.list1 r e fun _ _ _ hg _ _ => ⟨F.plainAttrs_list, F.slot_list_index, F.type_list_index, ⟨_, hg, rfl⟩, dn_ref hg rfl⟩
    | get => exact some_of e fun _ e => R.dict1 r e fun _ _ hd _ _ _ _ => ⟨F.plainAttrs_dict, F.slot_dict_get, F.type_dict_get, hd.typeIs, hd.elim fun _ q => q.elim fun _ q => q.elim fun _ q => dn_ref q.1 q.2.1.2.1⟩
    | _ => exact nomatch e
  | str w =>
    refine r.str1 fun t => ?_
    cases m with
    | index => exact ⟨F.plainAttrs_str, F.slot_str_index, F.type_str_index, typeIs_str _ _ _, dn_str⟩
    | find => exact ⟨F.plainAttrs_str, F.slot_str_find, F.type_str_find, typeIs_str _ _ _, dn_str⟩
    | upper => exact ⟨F.plainAttrs_str, F.slot_str_upper, F.type_str_upper, typeIs_str _ _ _, dn_str⟩
    | lower => exact ⟨F.plainAttrs_str, F.slot_str_lower, F.type_str_lower, typeIs_str _ _ _, dn_str⟩
    | rstrip => exact ⟨F.plainAttrs_str, F.slot_str_rstrip, F.type_str_rstrip, typeIs_str _ _ _, dn_str⟩
    | join => exact ⟨F.plainAttrs_str, F.slot_str_join, F.type_str_join, typeIs_str _ _ _, dn_str⟩
    | _ => exact nomatch e
  | _ => exact nomatch e

theorem Kt.mut {v : AV} {cv : Value} {i : Nat} {a : Addr} {ao : AO} {tk : Nat} (k : Kt X g V (H.set i ao) v Q) (R : Rel X g V H s) (hp : g.σ[i]? = some (a, a)) (hb : Heap.SameBut a s.heap h') (r : OR X g h' (a, a) ao) (rv : VR X.B.T g v cv) : Q cv { s with heap := h', toks := tk } :=
  k.go .refl (R.mutate hp hb r) rv

theorem snd_meth {m : MN} {ov v : AV} {cov : Value} {vs : List AV} {cvs : List Value} (R : Rel X g V H s) (r : VR X.B.T g ov cov) (rs : VRs X.B.T g vs cvs) (e : methV H m ov vs = some (v, H')) (k : Kt X g V H' v Q) :
    wpAny X.M A (call (.builtin (methT m ov).2) (cov :: cvs)) Q E s := by
  cases m with
  | append =>
    refine bnd e fun i ei e => bnd e fun x ex e => one_vr ex rs fun c rc => bnd e fun us eu e => ifd e fun hc e => R.list1 (vR ei r) eu fun a ds n hg rd hp => ?_
    show wpAny _ _ (call (.builtin "list.append") _) _ _ _
    refine call_meets F.slot_list_append ⟨_, hg, rfl⟩ F.entry_list_append (F.args_list_append_2 _ _) (list_append _ ds.toArray n _ (by rw [List.size_toArray, rd.length, sizeLine_eq]; omega)) ⟨hg, ?_⟩
    have g2 := IsL.update hg (fun x => x.push c)
    rw [List.push_toArray] at g2
    exact (k.of2 e).mut R hp (.update ..) ⟨rfl, _, _, g2, rd.app ⟨_, _, rfl, rc, rfl⟩⟩ rfl
  | pop =>
    refine bnd e fun i ei e => ?_
    cases vs with
    | cons _ _ => exact clash rfl e
    | nil =>
      refine bnd e fun us eu e => ifd e fun hc e => bnd e fun u eu' e => R.list1 (vR ei r) eu fun a ds n hg rd hp => ?_
      obtain ⟨cu, e3, ru⟩ := rd.get (List.getLast?_eq_getElem? ▸ eu')
      rw [show cvs = [] from rs]
      show wpAny _ _ (call (.builtin "list.pop") _) _ _ _
      refine call_meets F.slot_list_pop ⟨_, hg, rfl⟩ F.entry_list_pop (F.args_list_pop_1 _) (MeetsSeq.list_pop_last _ ds.toArray n cu (by rw [List.size_toArray, List.getElem?_toArray, rd.length]; exact e3) (by rw [List.size_toArray, rd.length, sizeLine_eq]; omega)) ⟨hg, ?_⟩
      have g1 := IsL.update hg (fun x => x.eraseIdxIfInBounds (ds.toArray.size - 1))
      rw [show ds.toArray.size - 1 = ds.length - 1 from rfl, dropLast_arr] at g1
      exact (k.of2 e).mut R hp (.update ..) ⟨rfl, _, _, g1, rd.dropLast⟩ ru
  | index =>
    refine bnd e fun x ex e => one_vr ex rs fun c rc => ?_
    cases ov with
    | ref i =>
      exact bnd e fun z ez e => bnd e fun us eu e => bnd e fun ns en e => iff' e fun hc e => R.list1 r eu fun a ds n hg rd hp => vI ez rc fun t => by
        obtain ⟨xs, rfl, rfl⟩ := ints_vr rd en
        have hc := Bool.and_eq_true_iff.mp hc
        exact index_list_ints (isL_list hg) (ints_are xs) hc.2 (List.contains_iff_mem.mp hc.1) ((k.of2 e).int R)
    | str w =>
      refine r.str1 fun t => bnd e fun z ez e1 => vS ez rc fun u => bnd e1 fun c ec e2 => ?_
      cases one_of ec
      split at e2
      · rename_i i rest ho
        exact SC.index ho ((k.of2 e2).int R)
      · exact clash rfl e2
    | _ => exact clash rfl e
  | get =>
    refine bnd e fun i ei e => bnd e fun p ep e => two_vr ep rs fun c d r1 r2 => iff' e fun hn e => bnd e fun z ez e => bnd e fun kv ek e => vS ez r1 fun t => R.dict1 (vR ei r) ek fun a kvs hd e1 rd hp hne => ?_
    rw [isN_of hn] at r2
    rw [show d = .none from r2]
    show wpAny _ _ (call (.builtin "dict.get") _) _ _ _
    exact call_meetsIn F.slot_dict_get hd.typeIs F.entry_dict_get (F.args_dict_get_3 _ _ _) (meets_dict_get_default (strKind X.prog X.w) _ (strKind_is X.prog X.w _ _) (beq_eq_false_iff_ne.mpr hne) .none) ⟨valueAt kvs, hd.mapOf, (k.of2 e).here R (lookup_valueAt _ e1 rd)⟩
  | find =>
    refine bnd e fun w ew e => vS ew r fun t => ?_
    rcases or_of e with e | e
    · exact bnd e fun x ex e => one_vr ex rs fun c r1 => bnd e fun z ez e => vS ez r1 fun u => SC.find ((k.of2 e).int R)
    · exact bnd e fun p ep e => two_vr ep rs fun c d r1 r2 => bnd e fun z ez e => vS ez r1 fun u => bnd e fun i ei e => vI ei r2 fun u => SC.find3 ((k.of2 e).int R)
  | upper =>
    refine bnd e fun w ew e => vS ew r fun t => ?_
    cases vs with
    | cons _ _ => exact clash rfl e
    | nil =>
      rw [show cvs = [] from rs]
      exact iff' e fun hc e => SC.upper (short_str hc) ((k.of2 e).here R ⟨_, rfl⟩)
  | lower =>
    refine bnd e fun w ew e => vS ew r fun t => ?_
    cases vs with
    | cons _ _ => exact clash rfl e
    | nil =>
      rw [show cvs = [] from rs]
      exact iff' e fun hc e => SC.lower (short_str hc) ((k.of2 e).here R ⟨_, rfl⟩)
  | rstrip => exact bnd e fun w ew e => vS ew r fun t => bnd e fun x ex e => one_vr ex rs fun c rc => bnd e fun z ez e => vS ez rc fun u => ifd e fun hc e => SC.rstripChars (fun t' tk => (k.of2 e).here R ⟨_, rfl⟩) (le_line hc)
  | join =>
    refine bnd e fun w ew e => vS ew r fun t => ?_
    cases w with
    | cons _ _ => exact clash rfl e
    | nil =>
      exact bnd e fun x ex e => one_vr ex rs fun c rc => bnd e fun us eu e => R.it1 rc eu fun a ds n hg rd => bnd e fun ss es e => iff' e fun hc e => by
        obtain ⟨xs, rfl, hx⟩ := alls_vr (mk := fun b t => .str ⟨b.toArray⟩ t) (fun e r => vS e r fun t => ⟨t, rfl⟩) rd es
        have hc := Bool.and_eq_true_iff.mp hc
        refine SC.join (l := xs.map fun p => (strS p.1, p.2)) ⟨_, hg, rfl, n, ?_⟩ ?_ (join_room (of_decide_eq_true hc.1) (of_decide_eq_true hc.2)) (fun t' tk => ?_)
        · rw [strValues, List.map_map]; rfl
        · rw [List.map_map, ← hx, List.map_map]; rfl
        · exact (k.of2 e).here R ⟨t', by rw [show (⟨#[]⟩ : Str) = strS [] from rfl, join_flat]; rfl⟩
end Mini
end

section
open PySem PySem.W PyProof.Rows PySem.Calls
namespace Mini

theorem Ent.put {hs : Int} {t : Value} {v : Value} : ∀ {ns : List Str} {cs : List Value} {es : List DictEntry}, Ent ns cs es → ns.Nodup → ∀ {i : Nat} {x : Str}, i < cs.length → ns[i]? = some x → Ent ns (cs.set i v) (putL x hs t v es)
  | _, [], _, _, _, _, _, h, _ => absurd h (Nat.not_lt_zero _)
  | _, c :: cs, _, r, nd, i, x, h, f => by
    obtain ⟨y, ms, hs', t', ds, rfl, rfl, b⟩ := r
    cases i with
    | zero =>
      cases f
      show Ent _ (v :: cs) (if (Value.str x _).isStr x = true then _ else _)
      rw [if_pos (by simp [Value.isStr])]
      exact ⟨_, _, _, _, _, rfl, rfl, b⟩
    | succ i =>
      have hne : y ≠ x := fun q => (List.nodup_cons.mp nd).1 (q ▸ List.mem_of_getElem? (i := i) f)
      show Ent _ (c :: cs.set i v) (if (Value.str y _).isStr x = true then _ else _)
      rw [if_neg (by simp [Value.isStr, hne])]
      exact ⟨_, _, _, _, _, rfl, rfl, Ent.put b (List.nodup_cons.mp nd).2 (Nat.lt_of_succ_lt_succ h) f⟩
theorem Ent.none_at {x : Str} : ∀ {ns : List Str} {cs : List Value} {es : List DictEntry}, Ent ns cs es → x ∉ ns → getL x es = some none
  | _, [], _, r, _ => r ▸ rfl
  | _, c :: cs, _, r, h => by
    obtain ⟨y, ms, hs', t', ds, rfl, rfl, b⟩ := r
    have hne : (y == x) = false := beq_eq_false_iff_ne.mpr fun q => h (q ▸ List.mem_cons_self)
    have ih := Ent.none_at b fun q => h (List.mem_cons_of_mem _ q)
    unfold getL at ih ⊢
    simp only [List.find?_cons, Value.isStr, hne, List.any_cons, DictEntry.refKey, Bool.false_or]
    exact ih
theorem Ent.plain : ∀ {ns : List Str} {cs : List Value} {es : List DictEntry}, Ent ns cs es → es.any (·.refKey) = false
  | _, [], _, r => r ▸ rfl
  | _, c :: cs, _, r => by
    obtain ⟨y, ms, hs', t', ds, rfl, rfl, b⟩ := r
    rw [List.any_cons, Ent.plain b]; rfl
theorem Ent.snoc {hs : Int} {t : Tok} {v : Value} {x : Str} : ∀ {ns : List Str} {cs : List Value} {es : List DictEntry}, Ent ns cs es → ns.Nodup → ns[cs.length]? = some x → Ent ns (cs ++ [v]) (putL x hs (.str x t) v es)
  | [], [], _, _, _, f => clash List.getElem?_nil f
  | y :: ns, [], _, r, _, f => by
    cases f; cases r; exact ⟨_, _, _, _, _, rfl, rfl, rfl⟩
  | _, c :: cs, _, r, nd, f => by
    obtain ⟨y, ms, hs', t', ds, rfl, rfl, b⟩ := r
    have hne : y ≠ x := fun q => (List.nodup_cons.mp nd).1 (q ▸ List.mem_of_getElem? (i := cs.length) f)
    show Ent _ (c :: (cs ++ [v])) (if (Value.str y _).isStr x = true then _ else _)
    rw [if_neg (by simp [Value.isStr, hne])]
    exact ⟨_, _, _, _, _, rfl, rfl, Ent.snoc b (List.nodup_cons.mp nd).2 f⟩
theorem Ent.len : ∀ {ns : List Str} {cs : List Value} {es : List DictEntry}, Ent ns cs es → es.length ≤ ns.length
  | _, [], _, r => r ▸ Nat.zero_le _
  | _, c :: cs, _, r => by
    obtain ⟨y, ms, hs', t', ds, rfl, rfl, b⟩ := r
    exact Nat.succ_le_succ (Ent.len b)
theorem putL_len (x : Str) (hs : Int) (t v : Value) : ∀ es : List DictEntry, (putL x hs t v es).length ≤ es.length + 1
  | [] => Nat.le_refl _
  | e :: r => by
    unfold putL; split
    · exact Nat.le_succ _
    · exact Nat.succ_le_succ (putL_len x hs t v r)

variable {X : Wo} {g : Gh} {V : Pm} {H H' : AH} {s : Shared} {h h' : Heap} {A : Around} {E : Value → Shared → Prop} {Q : Value → Shared → Prop} {U : Unit → Shared → Prop} {K : Frag}

theorem VR.handed {T : Sta} {c : Value} : ∀ {v : AV}, VR T g v c → handedIn c = true
  | .unb, r => r.elim
  | .non, r => r ▸ rfl
  | .bool _, r => r ▸ rfl
  | .int _, r => r.int1 fun _ => rfl
  | .str _, r => r.str1 fun _ => rfl
  | .tup _, r => r.tup1 fun _ _ _ _ _ => rfl
  | .lst _, r => r.lst1 fun _ _ _ _ _ => rfl
  | .rng _ _ _, r => r.elim fun _ r => r.elim fun _ r => r.elim fun _ r => r.elim fun _ r => r.elim fun _ r => r.elim fun _ r => r.1 ▸ rfl
  | .rcd _ _, r => r.rcd1 fun _ _ _ _ _ _ _ _ _ _ _ => rfl
  | .ref _, r => r.ref1 fun _ _ _ => rfl
  | .spc _, r => r.spc1 fun _ _ => rfl
theorem inst_of {C x m : Addr} {es : List DictEntry} {n : Nat} (g : h.get? x = some (instObj C m)) (gd : h.get? m = some (dictOf es n)) : InstAt h x (instObj C m) C (some (dictOf es n)) := ⟨g, rfl, rfl, gd⟩

@[elab_as_elim] theorem Rel.fields {c f : Nat} {ov v : AV} {cov : Value} {C : Value → Prop} (R : Rel X g V H s) (r : VR X.B.T g ov cov) (e : attrV H c f ov = some v)
    (k : ∀ x m D es n cvs fs, X.B.T.cls c = some D → s.heap.get? x = some (instObj D m) → s.heap.get? m = some (dictOf es n) → Ent (X.B.T.flds c) cvs es → VRs X.B.T g fs cvs → fs[f]? = some v → C (.ref x)) : C cov := by
  cases ov with
  | ref i => exact bnd e fun fs ef e => R.inst1 r ef fun x m D es n cvs hc hx hm en rs _ => k x m D es n cvs fs hc (R.zed hx) hm en rs e
  | rcd d fs => exact iff' e fun q e => (q ▸ r : VR X.B.T g (.rcd c fs) cov).rcd1 fun x m D es n cvs hc hx hm en rs => k x m D es n cvs fs hc (R.zed hx) (R.zed hm) en rs e
  | _ => exact clash rfl e
theorem snd_attr {c f : Nat} {ov v : AV} {cov : Value} {x : Str} (C : Cx X) (R : Rel X g V H s) (r : VR X.B.T g ov cov) (e : attrV H c f ov = some v) (hx : (X.B.T.flds c)[f]? = some x) (k : Kt X g V H v Q) : wpAny X.M A (getAttr cov x true) Q E s :=
  R.fields r e fun y m D es n cvs fs hc gy gm en rs ev => (rs.get ev).elim fun cv q => by
    have K := C.cls hc
    obtain ⟨a, ha, ho⟩ := K.fo (List.mem_of_getElem? hx)
    exact get_value (R.inK C) (inst_of gy gm) (plainGet_of K.pg).1 (findObj_own K.hd ha ho (by rw [lookIn_dict]; exact en.get K.nd q.1 hx)) q.2.handed (k.here R q.2)

theorem isIn_self (K : Frag) (C : Addr) : isIn K (.ref C) C = true := by unfold isIn; simp
theorem kin_off {D Ca x m : Addr} {es : List DictEntry} {n : Nat} (C : Cx X) (R : Rel X g V H s) (hn : kin_not X.B.K D Ca = true) (hf : clsFine X.B.K D) (gx : s.heap.get? x = some (instObj D m)) (gm : s.heap.get? m = some (dictOf es n)) (k : Kt X g V H (.bool false) Q) :
    wpAny X.M A (call (.builtin "isinstance") [.ref x, .ref Ca]) Q E s :=
  kin_callC (R.inK C) (inst_of gx gm) hn hf.pg hf.hd hf.cl hf.sp hf.tk hf.mo (k.here R rfl)
theorem isi_own {c d : Nat} {Ca D x m : Addr} {es : List DictEntry} {n : Nat} (C : Cx X) (R : Rel X g V H s) (hc : X.B.T.cls c = some Ca) (hd : X.B.T.cls d = some D) (gx : s.heap.get? x = some (instObj D m)) (gm : s.heap.get? m = some (dictOf es n)) (k : Kt X g V H (.bool (decide (d = c))) Q) :
    wpAny X.M A (call (.builtin "isinstance") [.ref x, .ref Ca]) Q E s := by
  by_cases q : d = c
  · subst q
    rw [hd] at hc; cases hc
    rw [decide_eq_true rfl] at k
    exact isi_call (R.inK C) (fun M => (inst_of gx gm).type) (isIn_self _ _) (by intro z; cases z) (k.go .refl R rfl)
  · rw [decide_eq_false q] at k
    exact kin_off C R (C.isn hc hd (Ne.symm q)) (C.cls hd).toclsFine gx gm k
theorem snd_isi {c : Nat} {v : AV} {cv : Value} {b : Bool} {Ca : Addr} (C : Cx X) (R : Rel X g V H s) (r : VR X.B.T g v cv) (e : isiV H c v = some b) (hc : X.B.T.cls c = some Ca) (k : Kt X g V H (.bool b) Q) :
    wpAny X.M A (call (.builtin "isinstance") [cv, .ref Ca]) Q E s := by
  cases v with
  | ref i =>
    refine bnd e fun o eo e1 => ?_
    cases o with
    | inst d fs =>
      have eo : instAt H d i = some fs := by unfold instAt; rw [eo]; exact if_pos rfl
      exact R.inst1 r eo fun x m D es n cvs hd hx hm en rs _ => isi_own C R hc hd (R.zed hx) hm (Option.some.inj e1 ▸ k)
    | _ => exact clash rfl e1
  | rcd d fs => exact r.rcd1 fun x m D es n cvs hd hx hm en rs => isi_own C R hc hd (R.zed hx) (R.zed hm) (Option.some.inj e ▸ k)
  | int i => exact r.int1 fun t => isn_call (P := fun _ => True) (R.inK C) (fun M => Looks.of_pure rfl) (C.isi hc) (by intro z; cases z) trivial int_cls ((Option.some.inj e ▸ k : Kt X g V H (.bool false) Q).here R rfl)
  | spc i => exact r.spc1 fun a ha => (C.spc ha).elim fun D q => q.elim fun m q => q.elim fun es q => q.elim fun n q => kin_off C R (q.2.2.2 hc).1 q.2.2.1 (R.zed (R.low q.1)) (R.zed (R.low q.2.1)) (Option.some.inj e ▸ k)
  | _ => exact clash rfl e

theorem osa_own {C x m : Addr} {es : List DictEntry} {n : Nat} {name : Str} {tk : Tok} {v : Value} {R : Result → Shared → Prop} (X' : K.In s.heap) (g : s.heap.get? x = some (instObj C m)) (gd : s.heap.get? m = some (dictOf es n)) (hp : plainOver K C = true) (ht : takerIn K C name = some none) (hh : hasDictIn K C = true)
    (hany : (!es.any (·.key.isStr name) && es.any (·.refKey)) = false) (hz : (putL name (PyData.keyHash X.w.params name) (.str name s.toks) v es).length ≤ sizeLine + 1)
    (h : R (.ok (.ret .none)) { s with heap := s.heap.update m (Obj.putName name (PyData.keyHash X.w.params name) (.str name s.toks) v), toks := s.toks + 1 }) :
    codeAny X.M A (.call (.builtin "object.__setattr__") ⟨[.ref x, .str name tk, v], []⟩) R s := by
  refine osa_open X' (inst_of g gd) hp ht fun b => ?_
  obtain ⟨cd, hc, hd'⟩ := any_some hh
  refine wpAny_bind (wpAny_pure (wpAny_bind (wpAny_bind (wpAny_loadPart g (wpAny_bind ((looks_clsIn X' hc).here ?_))))))
  rw [hd']
  refine wpAny_pure (a := some m) (wpAny_bind (wpAny_pure (wpAny_bind ?_)))
  unfold nsSet
  refine wpAny_bind (wpAny_bind (wpAny_askSetting (wpAny_pure (wpAny_bind (wpAny_mkText (wpAny_bind (wpAny_loadPart gd ?_)))))))
  have c' : (!es.toArray.any (·.key.isStr name) && es.toArray.any (·.refKey)) = false := by rw [← Array.any_toList, ← Array.any_toList]; exact hany
  dsimp only
  rw [aRefKeyMayBeTheName_at, c']
  refine wpAny_updatePart gd ?_
  have g2 := Heap.get?_update_self (Obj.putName name (PyData.keyHash X.w.params name) (.str name s.toks) v) gd (by rw [putName_dict]; rfl)
  rw [putName_dict] at g2
  refine wpAny_bind (wpAny_lookBehind g2 (pastItsLine_dict (by rw [List.size_toArray]; exact hz)) ?_)
  exact wpAny_pure h
theorem set_field {c : Nat} {D x m : Addr} {es : List DictEntry} {n : Nat} {cvs : List Value} {name : Str} {cv : Value} (C : Cx X) (R : Rel X g V H s) (hc : X.B.T.cls c = some D) (hx : name ∈ X.B.T.flds c) (gx : s.heap.get? x = some (instObj D m)) (gm : s.heap.get? m = some (dictOf es n)) (en : Ent (X.B.T.flds c) cvs es)
    (k : ∀ h' n' tk hs t, Heap.SameBut m s.heap h' → h'.get? m = some (dictOf (putL name hs (.str name t) cv es) n') → U () { s with heap := h', toks := tk }) : wpAny X.M A (setAttr (.ref x) name cv) U E s := by
  have K := C.cls hc
  refine set_plain (R.inK C) (inst_of gx gm) K.sa (osa_own (s := { s with toks := s.toks + 1 }) (R.inK C) gx gm K.po (K.ft hx) K.hd (by rw [en.plain, Bool.and_false]) ?_ ?_)
  · refine Nat.le_trans (putL_len ..) (Nat.succ_le_succ (Nat.le_trans en.len (Nat.le_trans K.le ?_)))
    rw [sizeLine_eq]; decide
  · have g2 := Heap.get?_update_self (Obj.putName name (PyData.keyHash X.w.params name) (.str name (s.toks + 1)) cv) gm (by rw [putName_dict]; rfl)
    rw [putName_dict] at g2
    exact k _ _ _ _ _ (Heap.SameBut.update s.heap m (Obj.putName name (PyData.keyHash X.w.params name) (.str name (s.toks + 1)) cv)) g2
theorem snd_setAttr {c f : Nat} {ov v : AV} {cov cv : Value} {x : Str} (C : Cx X) (R : Rel X g V H s) (r : VR X.B.T g ov cov) (rv : VR X.B.T g v cv) (e : setAttrV H c f v ov = some H') (hx : (X.B.T.flds c)[f]? = some x) (k : ∀ {s'}, Rel X g V H' s' → U () s') :
    wpAny X.M A (setAttr cov x cv) U E s :=
  bnd e fun i ei e => bnd e fun fs ef e => iff' e fun hf e => R.inst1 (vR ei r) ef fun y m D es n cvs hc hy hm en rs hp =>
    set_field C R hc (List.mem_of_getElem? hx) (R.zed hy) hm en fun h' n' tk hs t hb g2 => k (Option.some.inj e ▸ R.mutate hp hb ⟨D, _, n', _, hc, hy, g2, en.put (C.cls hc).nd (by rw [rs.length]; exact hf) hx, rs.set rv f⟩)

theorem put_any (k : List Nat) : ∀ {kv : List (List Nat × AV)} {kvs : List (Str × Value)}, kvs.map (·.1) = kv.map (fun q => strS q.1) → kvs.any (fun p => decide (p.1 = strS k)) = (kv.lookup k).isSome
  | [], [], _ => rfl
  | [], _ :: _, e => nomatch e
  | _ :: _, [], e => nomatch e
  | (a, u) :: kv, (b, c) :: kvs, e => by
    obtain ⟨e1, e2⟩ := List.cons.inj e
    rw [List.any_cons, List.lookup_cons, strS_dec, show b = strS a from e1, put_any k e2]
    cases decide (strS a = strS k) <;> rfl
theorem put_map {T : Sta} {k : List Nat} {v : AV} {cv : Value} (rv : VR T g v cv) : ∀ {kv : List (List Nat × AV)} {kvs : List (Str × Value)}, kvs.map (·.1) = kv.map (fun q => strS q.1) → VRs T g (kv.map (·.2)) (kvs.map (·.2)) →
    (kvs.map (fun p => if p.1 = strS k then (p.1, cv) else p)).map (·.1) = (kv.map fun p => if p.1 = k then (p.1, v) else p).map (fun q => strS q.1) ∧
    VRs T g ((kv.map fun p => if p.1 = k then (p.1, v) else p).map (·.2)) ((kvs.map (fun p => if p.1 = strS k then (p.1, cv) else p)).map (·.2))
  | [], [], _, _ => ⟨rfl, rfl⟩
  | [], _ :: _, e, _ => nomatch e
  | _ :: _, [], e, _ => nomatch e
  | (a, u) :: kv, (b, c) :: kvs, e, r => by
    obtain ⟨e1, e2⟩ := List.cons.inj e
    obtain ⟨_, _, q, r1, r2⟩ := r
    obtain ⟨rfl, rfl⟩ := List.cons.inj q
    obtain ⟨i1, i2⟩ := put_map (k := k) rv e2 r2
    obtain rfl : b = strS a := e1
    simp only [List.map_cons, i1]
    by_cases z : a = k
    · rw [if_pos z, if_pos (congrArg strS z)]
      exact ⟨rfl, _, _, rfl, rv, i2⟩
    · rw [if_neg z, if_neg fun y => z (strS_inj y)]
      exact ⟨rfl, _, _, rfl, r1, i2⟩
theorem dictPut_stored {T : Sta} {kv : List (List Nat × AV)} {kvs : List (Str × Value)} (k : List Nat) {v : AV} {cv : Value} (e : kvs.map (·.1) = kv.map (fun q => strS q.1)) (r : VRs T g (kv.map (·.2)) (kvs.map (·.2))) (rv : VR T g v cv) :
    (stored kvs (strS k) cv).map (·.1) = (dictPut kv k v).map (fun q => strS q.1) ∧ VRs T g ((dictPut kv k v).map (·.2)) ((stored kvs (strS k) cv).map (·.2)) := by
  unfold stored dictPut
  rw [put_any k e]
  by_cases q : (kv.lookup k).isSome = true
  · rw [if_pos q, if_pos q]; exact put_map rv e r
  · rw [if_neg q, if_neg q, List.map_append, List.map_append, List.map_append, List.map_append, e]
    exact ⟨rfl, r.app ⟨_, _, rfl, rv, rfl⟩⟩
theorem snd_setItem {ov iv v : AV} {cov civ cv : Value} (R : Rel X g V H s) (r : VR X.B.T g ov cov) (ri : VR X.B.T g iv civ) (rv : VR X.B.T g v cv) (e : setSubV H v ov iv = some H') (k : ∀ {s'}, Rel X g V H' s' → U () s') :
    wpAny X.M A (setItem cov civ cv) U E s := by
  refine bnd e fun i ei e => ?_
  cases iv with
  | int j =>
    refine bnd e fun us eu e => iff' e fun hi e => R.list1 (vR ei r) eu fun a ds n hg rd hp => ri.int1 fun t => ?_
    have g2 := IsL.update hg (fun x => x.setIfInBounds j.toNat cv)
    rw [List.setIfInBounds_toArray] at g2
    refine ki_setAt hg hi.1 (by omega) (by rw [List.size_toArray, rd.length]; omega) (k (Option.some.inj e ▸ R.mutate hp (.update s.heap _ (Obj.mapSeq (·.setIfInBounds j.toNat cv))) ⟨rfl, _, _, g2, rd.set rv _⟩))
  | str w =>
    refine bnd e fun kv ek e => iff' e fun hi e => R.dict1 (vR ei r) ek fun a kvs hd e1 rd hp hne => ri.str1 fun t => ?_
    have q := dictPut_stored w e1 rd rv
    refine wpAny_setItem_pairs (strKind_is X.prog X.w _ _) hd (fun h' hd' hb => k (Option.some.inj e ▸ R.mutate hp hb ⟨⟨rfl, hne⟩, _, hd', q⟩)) (le_line ?_)
    have := congrArg List.length e1
    rw [List.length_map, List.length_map] at this
    rw [this]; exact hi
  | _ => exact clash rfl e
end Mini
end

section
open PySem PySem.W PyProof.Rows PySem.Calls
namespace Mini

noncomputable def Hd (V : Pm) (a : Addr) (ρ : Obj → Prop) : Prop := ∃ o, V a = some o ∧ ρ o
noncomputable abbrev itOf (n : String) (v : Value) (i : Nat) (o : Obj) : Prop := o.cls = .type n ∧ o.data = .fields #[v, .int i 0]
noncomputable abbrev rngOb (x left step : Int) : Obj := { cls := .type "range_iterator", dict := none, data := .fields #[rawInt x, rawInt left, rawInt step], slots := #[] }
noncomputable abbrev enmOb (it : Addr) (i : Int) (old : Value) : Obj := { cls := .type "enumerate", dict := none, data := .fields #[.none, .bool false, .ref it, rawInt i, .none, old], slots := #[] }

inductive ItR (X : Wo) (g : Gh) (V : Pm) (it : Addr) : List Addr → Src → Nat → Prop
  | lst {vs : List AV} {l : Addr} {cvs : List Value} {n i : Nat} : g.Z l = some (listOb cvs n) → VRs X.B.T g vs cvs → Hd V it (itOf "list_iterator" (.ref l) i) → ItR X g V it [it] (.items vs) i
  | tup {vs : List AV} {l : Addr} {cvs : List Value} {n i : Nat} : g.Z l = some (tupOb cvs n) → VRs X.B.T g vs cvs → Hd V it (itOf "tuple_iterator" (.ref l) i) → ItR X g V it [it] (.items vs) i
  | str {s : List Nat} {t : Tok} {i : Nat} : Hd V it (itOf "str_ascii_iterator" (.str ⟨s.toArray⟩ t) i) → ItR X g V it [it] (.items (s.map fun c => .str [c])) i
  | rng {a st : Int} {n i : Nat} : i ≤ n → V it = some (rngOb (a + (i : Nat) * st) ((n : Int) - (i : Nat)) st) → ItR X g V it [it] (.items ((List.range n).map fun (i : Nat) => .int (a + st * (i : Int)))) i
  | enm {s : List Nat} {t : Tok} {i : Nat} {it2 : Addr} {old : Value} : it ≠ it2 → i ≤ s.length → V it = some (enmOb it2 i old) → Hd V it2 (itOf "str_ascii_iterator" (.str ⟨s.toArray⟩ t) i) →
      ItR X g V it [it, it2] (.items ((s.zipIdx).map fun p => .tup [.int p.2, .str [p.1]])) i
  | heap {a : Nat} {x : Addr} {i : Nat} : g.σ[a]? = some (x, x) → Hd V it (itOf "list_iterator" (.ref x) i) → ItR X g V it [it] (.heap a) i

noncomputable def isTup (e : PySem.Expr) : Bool := e.ctorIdx == 25

variable {X : Wo} {g g' : Gh} {V V' : Pm} {H H' : AH} {s : Shared} {h h' : Heap} {A : Around} {E : Value → Shared → Prop} {Q : Value → Shared → Prop} {U : Unit → Shared → Prop} {N : Shared → Prop} {tgt : PySem.Expr} {it : Addr} {ws : List Addr} {sr : Src} {i : Nat}

theorem Hd.mv {a : Addr} {ρ : Obj → Prop} (e : V' a = V a) (d : Hd V a ρ) : Hd V' a ρ := d.imp fun _ => .imp e.trans id
theorem ItR.up (L : g.Le g') (k : ∀ b ∈ ws, V' b = V b) (r : ItR X g V it ws sr i) : ItR X g' V' it ws sr i := by
  cases r with
  | lst z r d => exact .lst (L.zd z) (r.up L) (d.mv (k it (.head _)))
  | tup z r d => exact .tup (L.zd z) (r.up L) (d.mv (k it (.head _)))
  | str d => exact .str (d.mv (k it (.head _)))
  | rng a d => exact .rng a ((k it (.head _)).trans d)
  | enm a b c d => exact .enm a b ((k it (.head _)).trans c) (d.mv (k _ (.tail _ (.head _))))
  | heap z d => exact .heap (L.sg z) (d.mv (k it (.head _)))

theorem lot_plain {v : Value} {o : Obj} {n : String} (g : s.heap.get? it = some o) (hc : o.cls = .type n)
    (hn : ["enumerate", "zip", "dict_itemiterator", "dict_reverseitemiterator", "odict_iterator", "itertools.zip_longest", "itertools.pairwise"].contains n = false) (hQ : U () s) : wpAny X.M A (letOwnedTupleGo tgt (.ref it) v) U E s := by
  unfold letOwnedTupleGo
  have fin : wpAny X.M A (do
      let (.ref r, .ref a) := (Value.ref it, v) | return
      let o ← load r
      match o.cls, o.data with
      | .type n, .fields vs =>
        if ["enumerate", "zip", "dict_itemiterator", "dict_reverseitemiterator", "odict_iterator", "itertools.zip_longest", "itertools.pairwise"].contains n && vs[0]? == some (rawInt a) then
          rule "for.unpacks-the-owned-tuple"
          updateField r 0 .none
      | _, _ => pure ()) U E s := by
    cases v with
    | ref a =>
      refine wpAny_bind (wpAny_load g ?_)
      rw [hc]
      cases hd : o.data with
      | fields vs =>
        dsimp only
        rw [hn, Bool.false_and]
        exact wpAny_pure hQ
      | _ => exact wpAny_pure hQ
    | _ => exact wpAny_pure hQ
  split
  · exact fin
  · exact fin
  · exact wpAny_pure hQ
theorem lot_step {v : Value} {o : Obj} {n : String} {ρ : Obj → Prop} {tk : Nat} (R : Rel X g V H s) (e : V it = some o) (hb : Heap.SameBut it s.heap h') (d : ∃ o', h'.get? it = some o' ∧ ρ o') (hc : ∀ {o}, ρ o → o.cls = .type n)
    (hn : ["enumerate", "zip", "dict_itemiterator", "dict_reverseitemiterator", "odict_iterator", "itertools.zip_longest", "itertools.pairwise"].contains n = false)
    (k : ∀ {V' : Pm}, Rel X g V' H { s with heap := h', toks := tk } → Hd V' it ρ → (∀ b, b ∉ [it] → V' b = V b) → U () { s with heap := h', toks := tk }) : wpAny X.M A (letOwnedTupleGo tgt (.ref it) v) U E { s with heap := h', toks := tk } :=
  d.elim fun o' q => lot_plain q.1 (hc q.2) hn (k (R.setF e hb q.1) ⟨o', Pm.put_self, q.2⟩ fun b hb => Pm.put_ne fun z => hb (z ▸ .head _))

theorem snd_next {v : AV} (hh : A.handled = none) (R : Rel X g V H s) (ht : ws.length = 1 ∨ isTup tgt = true) (r : ItR X g V it ws sr i) (e : nextOf H i sr = some (some v))
    (k : ∀ {V' : Pm} {g' : Gh} {s' : Shared} {cv : Value}, g.Le g' → Rel X g' V' H s' → ItR X g' V' it ws sr (i + 1) → (∀ b, b ∉ ws → V' b = V b) → VR X.B.T g' v cv → Q cv s') :
    wpAny X.M A (pyNext (.ref it)) (fun r s₁ => match r with | none => N s₁ | some v => wpAny X.M A (letOwnedTupleGo tgt (.ref it) v) (fun _ s' => Q v s') E s₁) E s := by
  cases r with
  | lst z rs d =>
    obtain ⟨cv, hg, rv⟩ := rs.get (Option.some.inj e)
    obtain ⟨o, ho, d⟩ := d
    exact wpAny_pyNext_list_item ⟨o, R.prv ho, d⟩ (isL_list (R.zed z)) (List.getElem?_toArray.trans hg) fun h' d' hb => lot_step (tk := s.toks) R ho hb d' And.left (by decide) fun R' D kp => k .refl R' (.lst z rs D) kp rv
  | tup z rs d =>
    obtain ⟨cv, hg, rv⟩ := rs.get (Option.some.inj e)
    obtain ⟨o, ho, d⟩ := d
    exact wpAny_pyNext_tuple_item ⟨o, R.prv ho, d⟩ ⟨_, R.zed z, rfl, _, rfl⟩ (List.getElem?_toArray.trans hg) fun h' d' hb => lot_step (tk := s.toks) R ho hb d' And.left (by decide) fun R' D kp => k .refl R' (.tup z rs D) kp rv
  | str d =>
    have e := Option.some.inj e
    rw [List.getElem?_map] at e
    obtain ⟨o, ho, d⟩ := d
    exact map_of e fun c hc q => wpAny_pyNext_ascii_item ⟨o, R.prv ho, d⟩ (c := c) (List.getElem?_toArray.trans hc) fun h' d' hb => lot_step R ho hb d' And.left (by decide) fun R' D kp => k .refl R' (.str D) kp (q ▸ ⟨_, rfl⟩)
  | @rng a st n _ hi d =>
    have e := Option.some.inj e
    rw [List.getElem?_map] at e
    refine map_of e fun c hc q => ?_
    obtain ⟨h1, rfl⟩ := List.getElem?_eq_some_iff.mp hc
    rw [List.length_range] at h1
    refine wpAny_pyNext_range_item (R.prv d) (by omega) fun h' d' hb => lot_step (n := "range_iterator") (ρ := fun o => o = rngOb (a + ((i + 1 : Nat) : Int) * st) ((n : Int) - ((i + 1 : Nat) : Int)) st) R d hb ⟨_, d', ?_⟩ (fun e => congrArg Obj.cls e) (by decide) fun R' D kp => k .refl R' (.rng h1 ?_) kp ?_
    · have e1 : a + (i : Int) * st + st = a + ((i + 1 : Nat) : Int) * st := by push_cast; rw [Int.add_mul, Int.one_mul, Int.add_assoc]
      have e2 : (n : Int) - (i : Int) - 1 = (n : Int) - ((i + 1 : Nat) : Int) := by push_cast; omega
      rw [e1, e2]
    · obtain ⟨_, p, rfl⟩ := D; exact p
    · rw [← q, List.getElem_range, Int.mul_comm]; exact ⟨_, rfl⟩
  | @enm x t _ it2 old hne _ he d =>
    have e := Option.some.inj e
    rw [List.getElem?_map, List.getElem?_zipIdx] at e
    refine map_of e fun p hp q => map_of hp fun c hc q' => ?_
    obtain ⟨o, ho, d⟩ := d
    have hlt : i < (⟨x.toArray⟩ : Str).cps.size := (List.getElem?_eq_some_iff.mp hc).1
    refine wpAny_pyNext_enum_itemD (A := A) (Draws.strAscii (A := A.in1) hh it2 ⟨x.toArray⟩ t) (R.prv he) ⟨o, R.prv ho, d⟩ hlt hne (by simpa using hne) fun y h' tk hy ho' d' ht' hs hk => ?_
    cases tgt with
    | Tuple elts x1 pos =>
      refine wpAny_letOwnedTupleGo_enum ho' fun h'' he'' hb => ?_
      obtain ⟨c', u, hc', rfl⟩ := hy
      obtain rfl : c' = c := Option.some.inj ((List.getElem?_toArray.symm.trans hc').symm.trans hc)
      obtain ⟨o2, g2, d2⟩ := d'
      have f := R.free (Nat.le_refl _)
      have ne1 : s.heap.objs.size ≠ it := fun z => clash f.f (z ▸ he)
      have ne2 : s.heap.objs.size ≠ it2 := fun z => clash f.f (z ▸ ho)
      -- the two iterators are let go, then held anew
      have W : Rel X g ((V.del it).del it2) H { s with heap := h'', toks := tk + 1 } := by
        have ms : ∀ {j : Nat} {p : Addr × Addr}, g.σ[j]? = some p → p.2 ≠ it ∧ p.2 ≠ it2 := fun a => ⟨fun z => clash (R.mf a) (z ▸ he), fun z => clash (R.mf a) (z ▸ ho)⟩
        have kp : ∀ {b o}, b ≠ it → b ≠ it2 → s.heap.get? b = some o → h''.get? b = some o := fun n1 n2 e => (hb.2 _ n1).trans (hk _ _ n1 n2 e)
        refine ⟨R.toks', R.low, fun q => kp (fun z => clash (R.zf he) (z ▸ q)) (fun z => clash (R.zf ho) (z ▸ q)) (R.zed q), fun q => ?_, fun q => R.zf (Pm.del_some (Pm.del_some q).2).2, R.len, fun a b => (R.obj a b).at (kp (ms a).1 (ms a).2), R.mz, fun a => (Pm.del_ne (ms a).2).trans ((Pm.del_ne (ms a).1).trans (R.mf a)), R.inj⟩
        have q2 := Pm.del_some (Pm.del_some q).2
        exact kp q2.1 (Pm.del_some q).1 (R.prv q2.2)
      have f1 : Free g ((V.del it).del it2) it := ⟨R.zf he, (Pm.del_ne hne).trans Pm.del_self, fun a z => clash (R.mf a) (z ▸ he)⟩
      have f2 : Free g (((V.del it).del it2).put it (enmOb it2 ((i : Int) + 1) (.str ⟨#[c']⟩ u))) it2 := ⟨R.zf ho, (Pm.put_ne (Ne.symm hne)).trans Pm.del_self, fun a z => clash (R.mf a) (z ▸ ho)⟩
      have W2 := (W.learn f1 he'').learn f2 ((hb.2 _ (Ne.symm hne)).trans g2)
      have f3 : Free g ((((V.del it).del it2).put it (enmOb it2 ((i : Int) + 1) (.str ⟨#[c']⟩ u))).put it2 o2) s.heap.objs.size := ⟨f.z, (Pm.put_ne ne2).trans ((Pm.put_ne ne1).trans ((Pm.del_ne ne2).trans ((Pm.del_ne ne1).trans f.f))), f.m⟩
      have W3 := ((W2.learn f3 ((hb.2 _ ne1).trans ht')).freeze Pm.put_self).weak fun q =>
        have n := fun z => clash f3.f (z ▸ q)
        (Pm.del_ne n).trans ((Pm.put_ne n).trans q)
      refine k (Gh.frz_le f.z) W3 (.enm (t := t) hne hlt ((Pm.put_ne hne).trans Pm.put_self) ⟨o2, Pm.put_self, d2⟩) (fun b hb => ?_) (q ▸ q' ▸ ⟨_, [.int i tk, .str ⟨#[c']⟩ u], 0, rfl, Pm.put_self, _, _, rfl, ?_, _, _, rfl, ⟨u, rfl⟩, rfl⟩)
      · have n1 : b ≠ it := fun z => hb (z ▸ .head _)
        have n2 : b ≠ it2 := fun z => hb (z ▸ .tail _ (.head _))
        exact (Pm.put_ne n2).trans ((Pm.put_ne n1).trans ((Pm.del_ne n2).trans (Pm.del_ne n1)))
      · rw [Nat.zero_add]; exact ⟨tk, rfl⟩
    | _ => rcases ht with ht | ht <;> exact nomatch ht
  | heap z d =>
    refine bnd e fun vs ev e => ?_
    have hl := R.obj z (listAt_of ev)
    obtain ⟨_, cvs, n, hg, rs⟩ := hl
    obtain ⟨cv, hg', rv⟩ := rs.get (Option.some.inj e)
    obtain ⟨o, ho, d⟩ := d
    exact wpAny_pyNext_list_item ⟨o, R.prv ho, d⟩ (isL_list hg) (List.getElem?_toArray.trans hg') fun h' d' hb => lot_step (tk := s.toks) R ho hb d' And.left (by decide) fun R' D kp => k .refl R' (.heap z D) kp rv

theorem Rel.drop {a : Addr} {o : Obj} {tk : Nat} (R : Rel X g V H s) (e : V a = some o) (hx : Heap.ExtBut a s.heap h') : Rel X g (V.del a) H { s with heap := h', toks := tk } :=
  have ne : ∀ {i : Nat} {p : Addr × Addr}, g.σ[i]? = some p → p.2 ≠ a := fun q z => clash (z ▸ R.mf q) e
  ⟨R.toks', R.low, fun q => hx _ _ (fun z => clash (R.zf e) (z ▸ q)) (R.zed q), fun q => hx _ _ (Pm.del_some q).1 (R.prv (Pm.del_some q).2), fun q => R.zf (Pm.del_some q).2, R.len, fun a b => (R.obj a b).at (hx _ _ (ne a)), R.mz, fun q => (Pm.del_ne (ne q)).trans (R.mf q), R.inj⟩
theorem del_keep (hi : it ∈ ws) : ∀ b, b ∉ ws → (V.del it) b = V b := fun _ hb => Pm.del_ne fun z => hb (z ▸ hi)
theorem snd_end (hh : A.handled = none) (R : Rel X g V H s) (r : ItR X g V it ws sr i) (e : nextOf H i sr = some none) (k : ∀ {V' : Pm} {s' : Shared}, Rel X g V' H s' → (∀ b, b ∉ ws → V' b = V b) → N s') :
    wpAny X.M A (pyNext (.ref it)) (fun r s₁ => match r with | none => N s₁ | some v => wpAny X.M A (letOwnedTupleGo tgt (.ref it) v) (fun _ s' => Q v s') E s₁) E s := by
  cases r with
  | lst z rs d =>
    obtain ⟨o, ho, d⟩ := d
    have e := List.getElem?_eq_none_iff.mp (Option.some.inj e)
    exact wpAny_pyNext_list_end hh ⟨o, R.prv ho, d⟩ (isL_list (R.zed z)) (List.getElem?_toArray.trans (List.getElem?_eq_none (rs.length ▸ e))) fun h' hx => k (R.drop (tk := s.toks) ho hx) (del_keep (.head _))
  | tup z rs d =>
    obtain ⟨o, ho, d⟩ := d
    have e := List.getElem?_eq_none_iff.mp (Option.some.inj e)
    exact wpAny_pyNext_tuple_end hh ⟨o, R.prv ho, d⟩ ⟨_, R.zed z, rfl, _, rfl⟩ (List.getElem?_toArray.trans (List.getElem?_eq_none (rs.length ▸ e))) fun h' hx => k (R.drop (tk := s.toks) ho hx) (del_keep (.head _))
  | str d =>
    obtain ⟨o, ho, d⟩ := d
    have e := List.getElem?_eq_none_iff.mp (Option.some.inj e)
    rw [List.length_map] at e
    exact wpAny_pyNext_ascii_end hh ⟨o, R.prv ho, d⟩ (List.getElem?_toArray.trans (List.getElem?_eq_none e)) fun h' hx => k (R.drop (tk := s.toks) ho hx) (del_keep (.head _))
  | rng hi d =>
    have e := List.getElem?_eq_none_iff.mp (Option.some.inj e)
    rw [List.length_map, List.length_range] at e
    exact wpAny_pyNext_range_end hh (R.prv d) (by omega) fun h' hx => k (R.drop (tk := s.toks) d hx) (del_keep (.head _))
  | @enm x t _ it2 old hne hi he d =>
    obtain ⟨o, ho, d⟩ := d
    have e := List.getElem?_eq_none_iff.mp (Option.some.inj e)
    rw [List.length_map, List.length_zipIdx] at e
    have hie : i = (⟨x.toArray⟩ : Str).cps.size := Nat.le_antisymm hi e
    exact wpAny_pyNext_enum_endD (A := A) (Draws.strAscii (A := A.in1) hh it2 ⟨x.toArray⟩ t) (R.prv he) (hie ▸ ⟨o, R.prv ho, d⟩) fun h' hx => k (R.drop (tk := s.toks) ho hx) (del_keep (.tail _ (.head _)))
  | heap z d =>
    refine bnd e fun vs ev e => ?_
    obtain ⟨_, cvs, n, hg, rs⟩ := R.obj z (listAt_of ev)
    obtain ⟨o, ho, d⟩ := d
    have e := List.getElem?_eq_none_iff.mp (Option.some.inj e)
    exact wpAny_pyNext_list_end hh ⟨o, R.prv ho, d⟩ (isL_list hg) (List.getElem?_toArray.trans (List.getElem?_eq_none (rs.length ▸ e))) fun h' hx => k (R.drop (tk := s.toks) ho hx) (del_keep (.head _))

theorem ItR.self (R : Rel X g V H s) (r : ItR X g V it ws sr i) (h : Q (.ref it) s) : wpAny X.M A (pyIter (.ref it)) Q E s := by
  cases r with
  | lst _ _ d => exact wpAny_pyIter_listiter (d.elim fun o q => ⟨o, R.prv q.1, q.2⟩) h
  | tup _ _ d => exact wpAny_pyIter_tupleiter (d.elim fun o q => ⟨o, R.prv q.1, q.2⟩) h
  | str d => exact wpAny_pyIter_striter_ascii (d.elim fun o q => ⟨o, R.prv q.1, q.2⟩) h
  | rng _ d => exact wpAny_pyIter_rangeiter (R.prv d) h
  | enm _ _ he _ => exact wpAny_pyIter_enum (R.prv he) h
  | heap _ d => exact wpAny_pyIter_listiter (d.elim fun o q => ⟨o, R.prv q.1, q.2⟩) h
end Mini
end

section
open PySem PySem.W PyProof.Rows PySem.Calls
namespace Mini
variable {X : Wo} {g g' : Gh} {V V' : Pm} {H H' : AH} {s : Shared} {h h' : Heap} {A : Around} {E : Value → Shared → Prop} {Q : Value → Shared → Prop} {U : Unit → Shared → Prop} {sr : Src}

structure Ki (X : Wo) (g : Gh) (V : Pm) (H : AH) (en : Bool) (sr : Src) (Q : Value → Shared → Prop) : Prop where
  go : ∀ {it : Addr} {ws : List Addr} {V' : Pm} {g' : Gh} {s' : Shared}, g.Le g' → Rel X g' V' H s' → ItR X g' V' it ws sr 0 → it ∈ ws → (∀ b ∈ ws, V b = none) → (∀ b, b ∉ ws → V' b = V b) → (ws.length = 1 ∨ en = true) → Q (.ref it) s'
theorem Ki.new {o : Obj} {tk : Nat} (k : Ki X g V H false sr Q) (R : Rel X g V H s) (ho : o.isFreed = false) (I : ItR X g (V.put s.heap.objs.size o) s.heap.objs.size [s.heap.objs.size] sr 0) : Q (.ref s.heap.objs.size) { s with heap := s.heap.push o, toks := tk } :=
  have f := R.free (Nat.le_refl _)
  k.go .refl ((R.ext keep_push).learn f (Heap.get?_push_size _ ho)) I (.head _) (fun b hb => (List.mem_singleton.mp hb) ▸ f.f) (fun b hb => Pm.put_ne fun z => hb (z ▸ .head _)) (.inl rfl)
theorem snd_iter {v : AV} {cv : Value} (R : Rel X g V H s) (r : VR X.B.T g v cv) (e : srcOf v = some sr) (hn : (nextOf H 0 sr).isSome = true) (k : Ki X g V H false sr Q) : wpAny X.M A (pyIter cv) Q E s := by
  cases v with
  | lst vs => exact r.lst1 fun a cvs n z rs => wpAny_pyIter_list (isL_list (R.zed z)) ((Option.some.inj e ▸ k : Ki X g V H false (.items vs) Q).new (tk := s.toks) R rfl (.lst z rs ⟨_, Pm.put_self, rfl, rfl⟩))
  | tup vs => exact r.tup1 fun a cvs n z rs => wpAny_pyIter_tuple ⟨_, R.zed z, rfl, _, rfl⟩ ((Option.some.inj e ▸ k : Ki X g V H false (.items vs) Q).new (tk := s.toks) R rfl (.tup z rs ⟨_, Pm.put_self, rfl, rfl⟩))
  | str w => exact r.str1 fun t => iff' e fun ha e => wpAny_pyIter_ascii (by simpa using ha) ((Option.some.inj e ▸ k : Ki X g V H false (.items (w.map fun c => .str [c])) Q).new (tk := s.toks) R rfl (.str ⟨_, Pm.put_self, rfl, rfl⟩))
  | rng a st n =>
    obtain ⟨r, b, t, u, v, o, rfl, z, hr, hs, hz⟩ := r
    refine wpAny_pyIter_range (hr _ (R.zed z)) hs ((Option.some.inj e ▸ k : Ki X g V H false (.items ((List.range n).map fun (i : Nat) => .int (a + st * (i : Int)))) Q).new (tk := s.toks) R rfl (.rng (Nat.zero_le _) (Pm.put_self.trans ?_)))
    rw [hz]
    simp
  | ref i => exact (Option.some.inj e ▸ fun k hn => some_of hn fun _ q => bnd q fun vs ev _ => R.list1 r ev fun a cvs n hg rs hp => wpAny_pyIter_list (isL_list hg) (k.new (tk := s.toks) R rfl (.heap hp ⟨_, Pm.put_self, rfl, rfl⟩)) : Ki X g V H false sr Q → (nextOf H 0 sr).isSome = true → wpAny X.M A (pyIter cv) Q E s) k hn
  | _ => exact clash rfl e
theorem snd_enum {v : AV} {cv : Value} (R : Rel X g V H s) (r : VR X.B.T g v cv) (e : enumOf v = some sr) (k : Ki X g V H true sr Q) : wpAny X.M A (call (.type "enumerate") [cv]) (fun ev s₁ => wpAny X.M A (pyIter ev) Q E s₁) E s := by
  refine bnd e fun w ew e => iff' e fun ha e => vS ew r fun t => call_enumerate_str fun h' he hi hs hk => wpAny_pyIter_enum he ?_
  obtain ⟨o, ho, hd⟩ := hi
  have ty : strIterType ⟨w.toArray⟩ = "str_ascii_iterator" := if_pos (by simpa using ha)
  rw [ty] at hd
  have f := R.free (Nat.le_refl _)
  have f1 := R.free (Nat.le_succ s.heap.objs.size)
  have W := (R.ext (h' := h') (tk := s.toks) hk).learn f ho
  have W2 := W.learn (a := s.heap.objs.size + 1) ⟨f1.z, (Pm.put_ne (Nat.succ_ne_self _)).trans f1.f, f1.m⟩ he
  have kk : Ki X g V H true (.items ((w.zipIdx).map fun p => .tup [.int p.2, .str [p.1]])) Q := Option.some.inj e ▸ k
  refine kk.go (ws := [s.heap.objs.size + 1, s.heap.objs.size]) .refl W2 (.enm (Nat.succ_ne_self _) (Nat.zero_le _) Pm.put_self ⟨o, (Pm.put_ne (Nat.succ_ne_self _).symm).trans Pm.put_self, hd⟩) (.head _) (fun b hb => ?_) (fun b hb => ?_) (.inr rfl)
  · rcases List.mem_cons.mp hb with rfl | hb
    · exact f1.f
    · exact List.mem_singleton.mp hb ▸ f.f
  · exact (Pm.put_ne fun (z : b = s.heap.objs.size + 1) => hb (z ▸ .head _)).trans (Pm.put_ne fun (z : b = s.heap.objs.size) => hb (z ▸ .tail _ (.head _)))
end Mini
end

section
open PySem PySem.W PyProof.Rows PySem.Calls
namespace Mini

noncomputable abbrev nsOb (m : Str → Option Value) (o : Obj) : Prop := ∃ es ep, o.data = .dict es ep ∧ StrKeys es ∧ ∀ name, nsFind es name = m name
noncomputable def Slot' (V : Pm) (env : Env) (m : Str → Option Value) (x : Str) (o : Option Value) : Prop :=
  (env.kindOf x = some .local ∧ m x = o) ∨ ((env.kindOf x = some .cell ∨ env.kindOf x = some .free) ∧ ∃ a, env.cells.lookup x = some a ∧ Hd V a fun ob => ob.data = .cell o)
noncomputable def Own (env : Env) (b : Addr) : Prop := b = env.locals ∨ ∃ x, env.cells.lookup x = some b
noncomputable def Reach (env : Env) (x : Str) (b : Addr) : Prop := (env.kindOf x = some .local ∧ b = env.locals) ∨ (env.kindOf x ≠ some .local ∧ env.cells.lookup x = some b)
theorem Reach.own {env : Env} {x : Str} {b : Addr} (r : Reach env x b) : Own env b := r.imp And.right fun q => ⟨x, q.2⟩

structure FR (X : Wo) (g : Gh) (V : Pm) (names : List Str) (env : Env) (ls : List AV) : Prop where
  kind : env.scope.kind = .function
  glob : env.globals = mainGlobals
  blt : env.builtins = builtinsNs
  nd : names.Nodup
  len : ls.length = names.length
  inj : ∀ {x y : Str} {c : Addr}, env.cells.lookup x = some c → env.cells.lookup y = some c → x = y
  nc : ∀ {x : Str} {c : Addr}, env.cells.lookup x = some c → c ≠ env.locals
  own : ∀ {b : Addr}, Own env b → ∃ o, V b = some o
  ns : ∃ m, Hd V env.locals (nsOb m) ∧ ∀ {k : Nat} {x : Str} {v : AV}, names[k]? = some x → ls[k]? = some v → ∃ o, Slot' V env m x o ∧ (v = .unb ∨ ∃ c, o = some c ∧ VR X.B.T g v c)

variable {X : Wo} {g g' : Gh} {V V' : Pm} {H H' : AH} {s : Shared} {h h' : Heap} {A : Around} {E : Value → Shared → Prop} {Q : Value → Shared → Prop} {U : Unit → Shared → Prop} {names : List Str} {env : Env} {ls : List AV} {m m' : Str → Option Value} {x : Str}

theorem Slot'.mv {o : Option Value} (k : ∀ b, Own env b → V' b = V b) (hm : env.kindOf x = some .local → m' x = m x) (r : Slot' V env m x o) : Slot' V' env m' x o :=
  r.imp (fun q => ⟨q.1, (hm q.1).trans q.2⟩) fun q => ⟨q.1, q.2.imp fun a q => ⟨q.1, q.2.mv (k a (.inr ⟨x, q.1⟩))⟩⟩
theorem FR.up (L : g.Le g') (k : ∀ b, Own env b → V' b = V b) (r : FR X g V names env ls) : FR X g' V' names env ls :=
  { r with own := fun q => (r.own q).imp fun _ => (k _ q).trans, ns := r.ns.imp fun m => .imp (Hd.mv (k _ (.inl rfl))) fun f _ _ _ h1 h2 => (f h1 h2).imp fun o => .imp (Slot'.mv k fun _ => rfl) (.imp id (.imp fun c => .imp id (VR.up L))) }
theorem Hd.ns (R : Rel X g V H s) (d : Hd V env.locals (nsOb m)) : s.heap.Ns env.locals m := d.elim fun o q => q.2.elim fun es p => p.elim fun ep p => ⟨o, es, ep, R.prv q.1, p⟩
theorem Hd.cell {a : Addr} {v : Option Value} (R : Rel X g V H s) (d : Hd V a fun ob => ob.data = .cell v) : s.heap.IsCell a v := d.elim fun o q => ⟨o, R.prv q.1, q.2⟩
theorem FR.load {k : Nat} {v : AV} {pos : Pos} (Fr : FR X g V names env ls) (R : Rel X g V H s) (hx : names[k]? = some x) (hv : ls[k]? = some v) (hu : isU v = false) (hd : (x == ("__debug__" : Str)) = false)
    (hc : (x == ("__classdict__" : Str)) = false) (h : ∀ c, VR X.B.T g v c → Q c s) : wpAny X.M A (eval (.Name x pos) env) Q E s := by
  obtain ⟨m, hm, f⟩ := Fr.ns
  obtain ⟨o, sl, ho⟩ := f hx hv
  rcases ho with e | ⟨c, rfl, r⟩
  · rw [e] at hu; exact nomatch hu
  · refine wpAny_Name ?_ hd
    rcases sl with ⟨hk, e⟩ | ⟨hk, a, ha, d⟩
    · exact wpAny_loadName_local Fr.kind hk (hm.ns R) e (h c r)
    · rcases hk with hk | hk
      · exact wpAny_loadName_cell Fr.kind hk ha (d.cell R) (h c r)
      · exact wpAny_loadName_free Fr.kind hk ha (d.cell R) (h c r) hc
theorem put_more {a b : Addr} {o : Obj} (q : ∃ o, V b = some o) : ∃ o', V.put a o b = some o' := by
  by_cases h : b = a
  · exact ⟨o, h ▸ Pm.put_self⟩
  · exact q.imp fun _ => (Pm.put_ne h).trans
theorem FR.store {k : Nat} {v : AV} {c : Value} {W : Addr → Prop} (Fr : FR X g V names env ls) (R : Rel X g V H s) (hx : names[k]? = some x) (r : VR X.B.T g v c) (hW : ∀ b, Reach env x b → W b)
    (fin : ∀ {V' : Pm} {s' : Shared}, Rel X g V' H s' → FR X g V' names env (ls.set k v) → (∀ b, ¬ W b → V' b = V b) → U () s') : wpAny X.M A (storeName env x c) U E s := by
  obtain ⟨m, hm, f⟩ := Fr.ns
  have hk : k < ls.length := by rw [Fr.len]; exact (List.getElem?_eq_some_iff.mp hx).1
  obtain ⟨o0, sl, _⟩ := f hx (List.getElem?_eq_getElem hk)
  have new : ∀ {V' : Pm} {m' : Str → Option Value}, (∀ {b}, (∃ o, V b = some o) → ∃ o, V' b = some o) → Hd V' env.locals (nsOb m') → (∀ {y o}, y ≠ x → Slot' V env m y o → Slot' V' env m' y o) → Slot' V' env m' x (some c) → FR X g V' names env (ls.set k v) := fun {V' m'} h0 h1 h2 h3 =>
    ⟨Fr.kind, Fr.glob, Fr.blt, Fr.nd, (List.length_set ..).trans Fr.len, Fr.inj, Fr.nc, fun q => h0 (Fr.own q), m', h1, fun {j y u} hy hu => by
      rcases Nat.decEq j k with n | rfl
      · rw [List.getElem?_set_ne (Ne.symm n)] at hu
        exact (f hy hu).imp fun o => .imp (h2 fun z => n ((List.getElem?_inj (List.getElem?_eq_some_iff.mp hy).1 Fr.nd).mp (hy.trans (z ▸ hx.symm)))) id
      · rw [List.getElem?_set_self hk] at hu
        rw [hx] at hy
        exact ⟨some c, Option.some.inj hy ▸ h3, .inr ⟨c, rfl, Option.some.inj hu ▸ r⟩⟩⟩
  obtain ⟨ol, hol, dol⟩ := hm
  have hn : s.heap.Ns env.locals m := Hd.ns R ⟨ol, hol, dol⟩
  rcases sl with ⟨hkd, _⟩ | ⟨hkd, a, ha, d⟩
  · refine wpAny_storeName_local hkd hn (fun h' hn' hb => ?_) (by rw [Fr.kind]; rfl)
    obtain ⟨o', es, ep, g', d'⟩ := hn'
    refine fin (R.setF hol hb g') (new put_more ⟨o', Pm.put_self, es, ep, d'⟩ (fun ne sl => ?_) (.inl ⟨hkd, if_pos rfl⟩)) fun b hb => Pm.put_ne fun z => hb (hW b (.inl ⟨hkd, z⟩))
    exact sl.imp (fun q => ⟨q.1, (if_neg ne).trans q.2⟩) fun q => ⟨q.1, q.2.imp fun b q => ⟨q.1, q.2.mv (Pm.put_ne (Fr.nc q.1))⟩⟩
  · obtain ⟨oa, hoa, da⟩ := d
    have hkl : env.kindOf x ≠ some .local := fun z => by rcases hkd with e | e <;> cases z.symm.trans e
    have cell : ∀ h', h'.IsCell a (some c) → Heap.SameBut a s.heap h' → U () { s with heap := h' } := fun h' hc' hb => by
      obtain ⟨o', g', d'⟩ := hc'
      refine fin (R.setF (tk := s.toks) hoa hb g') (new (m' := m) put_more ⟨ol, (Pm.put_ne (Fr.nc ha).symm).trans hol, dol⟩ (fun ne sl => ?_) (.inr ⟨hkd, a, ha, o', Pm.put_self, d'⟩)) fun b hb => Pm.put_ne fun z => hb (hW b (.inr ⟨hkl, z ▸ ha⟩))
      exact sl.imp id fun q => ⟨q.1, q.2.imp fun b q => ⟨q.1, q.2.mv (Pm.put_ne fun z => ne (Fr.inj q.1 (z ▸ ha)))⟩⟩
    rcases hkd with e | e
    · exact wpAny_storeName_cell Fr.kind e ha ⟨oa, R.prv hoa, da⟩ cell
    · unfold storeName
      simp only [e, Fr.kind]
      exact wpAny_bind (wpAny_cellOf ha (wpAny_cellSet ⟨oa, R.prv hoa, da⟩ cell))
end Mini
end

section
open PySem PySem.W PyProof.Rows PySem.Calls
namespace Mini

theorem dif_of {c : Prop} [Decidable c] {f : c → Bool} (h : (if h : c then f h else false) = true) : ∃ h, f h = true := by
  by_cases q : c
  · exact ⟨q, (dif_pos q).symm.trans h⟩
  · exact nomatch (dif_neg q).symm.trans h
noncomputable def isNm (names : List Str) (k : Nat) (e : PySem.Expr) : Bool := if h : e.ctorIdx = 23 then PySem.Expr.Name.elim (motive_1 := fun _ => Bool) e h fun x _ => names[k]? == some x else false
theorem isNm_of {names : List Str} {k : Nat} {e : PySem.Expr} (h : isNm names k e = true) : ∃ x pos, e = .Name x pos ∧ names[k]? = some x :=
  (dif_of h).elim fun h q => PySem.Expr.Name.elim (motive_1 := fun e => ∀ h, PySem.Expr.Name.elim (motive_1 := fun _ => Bool) e h (fun x _ => names[k]? == some x) = true → ∃ x pos, e = .Name x pos ∧ names[k]? = some x) e h (fun x pos _ q => ⟨x, pos, rfl, beq_iff_eq.mp q⟩) h q
noncomputable def chkNames (names : List Str) : List Nat → List PySem.Expr → Bool
  | [], es => es.isEmpty
  | k :: ks, es => match es with
    | [] => false
    | e :: es => isNm names k e && chkNames names ks es
noncomputable def isTp (names : List Str) (ks : List Nat) (e : PySem.Expr) : Bool := if h : e.ctorIdx = 25 then PySem.Expr.Tuple.elim (motive_1 := fun _ => Bool) e h fun es _ _ => chkNames names ks es else false
noncomputable def chkTgt (names : List Str) (e : PySem.Expr) : Tgt → Bool
  | .one k => isNm names k e
  | .many ks => isTp names ks e
theorem chkMany_of {names : List Str} {ks : List Nat} {e : PySem.Expr} (h : isTp names ks e = true) : ∃ es n pos, e = .Tuple es n pos ∧ chkNames names ks es = true :=
  (dif_of h).elim fun h q => PySem.Expr.Tuple.elim (motive_1 := fun e => ∀ h, PySem.Expr.Tuple.elim (motive_1 := fun _ => Bool) e h (fun es _ _ => chkNames names ks es) = true → ∃ es n pos, e = .Tuple es n pos ∧ chkNames names ks es = true) e h (fun es n pos _ q => ⟨es, n, pos, rfl, q⟩) h q
noncomputable def tgtKs : Tgt → List Nat
  | .one k => [k]
  | .many ks => ks
noncomputable def Tg (names : List Str) (env : Env) : List Nat → List (Value → Sem Unit) → Prop
  | [], fs => fs = []
  | k :: ks, fs => ∃ x f r, fs = f :: r ∧ names[k]? = some x ∧ (∀ {M : Model} {A : Around} {E : Value → Shared → Prop} {s : Shared} {v : Value} {Q : Unit → Shared → Prop}, wpAny M A (storeName env x v) Q E s → wpAny M A (f v) Q E s) ∧ Tg names env ks r
theorem chkNames_tg {names : List Str} {env : Env} : ∀ {ks : List Nat} {es : List PySem.Expr}, chkNames names ks es = true → Tg names env ks ((assignEach es env).map (·.2)) ∧ (assignEach es env).findIdx? (·.1) = none ∧ (assignEach es env).length = ks.length
  | [], [], _ => ⟨rfl, rfl, rfl⟩
  | [], _ :: _, h => nomatch h
  | _ :: _, [], h => nomatch h
  | k :: ks, e :: es, h => by
    have h := Bool.and_eq_true_iff.mp h
    obtain ⟨x, pos, rfl, hx⟩ := isNm_of h.1
    obtain ⟨a, b, c⟩ := chkNames_tg (env := env) h.2
    refine ⟨⟨x, _, _, rfl, hx, fun h => assign_Name h, a⟩, ?_, congrArg (· + 1) c⟩
    show List.findIdx? _ ((false, _) :: assignEach es env) = none
    rw [List.findIdx?_cons, b]; rfl

theorem bindMany_comm {j : Nat} {u : AV} : ∀ {ks : List Nat} {vs ls : List AV}, j ∉ ks → bindMany ks vs (ls.set j u) = (bindMany ks vs ls).map (·.set j u)
  | [], [], _, _ => rfl
  | [], _ :: _, _, _ => rfl
  | _ :: _, [], _, _ => rfl
  | k :: ks, v :: vs, ls, hj => by
    have h1 : j ≠ k := fun z => hj (z ▸ .head _)
    have h2 : j ∉ ks := fun z => hj (.tail _ z)
    show (if k < (ls.set j u).length then bindMany ks vs ((ls.set j u).set k v) else none) = Option.map _ (if k < ls.length then bindMany ks vs (ls.set k v) else none)
    rw [List.length_set, List.set_comm _ _ h1, bindMany_comm h2]
    split <;> rfl
theorem bindMany_snoc {k : Nat} {v : AV} : ∀ {ks : List Nat} {vs ls ls' : List AV}, bindMany ks vs ls = some ls' → k < ls.length → bindMany (ks ++ [k]) (vs ++ [v]) ls = some (ls'.set k v)
  | [], [], ls, ls', e, hk => by rw [← show ls = ls' from Option.some.inj e]; exact if_pos hk
  | [], _ :: _, _, _, e, _ => clash rfl e
  | _ :: _, [], _, _, e, _ => clash rfl e
  | j :: ks, u :: vs, ls, ls', e, hk => iff' e fun hj e => (if_pos hj).trans (bindMany_snoc e (by rw [List.length_set]; exact hk))
theorem bindMany_rev : ∀ {ks : List Nat} {vs ls ls' : List AV}, ks.Nodup → bindMany ks vs ls = some ls' → bindMany ks.reverse vs.reverse ls = some ls'
  | [], [], _, _, _, e => e
  | [], _ :: _, _, _, _, e => clash rfl e
  | _ :: _, [], _, _, _, e => clash rfl e
  | k :: ks, v :: vs, ls, ls', nd, e => iff' e fun hk e => by
    have nd' := List.nodup_cons.mp nd
    rw [bindMany_comm nd'.1] at e
    rw [List.reverse_cons, List.reverse_cons]
    exact map_of e fun l1 e1 q => q ▸ bindMany_snoc (bindMany_rev nd'.2 e1) hk
theorem bindMany_len : ∀ {ks : List Nat} {vs ls ls' : List AV}, bindMany ks vs ls = some ls' → ks.length = vs.length
  | [], [], _, _, _ => rfl
  | [], _ :: _, _, _, e => clash rfl e
  | _ :: _, [], _, _, e => clash rfl e
  | _ :: _, _ :: _, _, _, e => iff' e fun _ e => congrArg (· + 1) (bindMany_len e)

variable {X : Wo} {g g' : Gh} {V V' : Pm} {H H' : AH} {s : Shared} {h h' : Heap} {A : Around} {E : Value → Shared → Prop} {Q : Value → Shared → Prop} {U : Unit → Shared → Prop} {names : List Str} {env : Env} {ls ls' : List AV} {W : Addr → Prop}

structure Ks (X : Wo) (g : Gh) (V : Pm) (H : AH) (names : List Str) (env : Env) (ls : List AV) (W : Addr → Prop) (U : Unit → Shared → Prop) : Prop where
  go : ∀ {V' : Pm} {s' : Shared}, Rel X g V' H s' → FR X g V' names env ls → (∀ b, ¬ W b → V' b = V b) → U () s'
noncomputable def InW (names : List Str) (env : Env) (W : Addr → Prop) (ks : List Nat) : Prop := ∀ {k : Nat}, k ∈ ks → ∀ {x : Str}, names[k]? = some x → ∀ b, Reach env x b → W b
theorem snd_inOrder : ∀ {ks : List Nat} {fs : List (Value → Sem Unit)} {vs : List AV} {cvs : List Value} {ls : List AV} {V : Pm} {s : Shared}, Tg names env ks fs → InW names env W ks → VRs X.B.T g vs cvs → bindMany ks vs ls = some ls' → FR X g V names env ls → Rel X g V H s →
    Ks X g V H names env ls' W U → wpAny X.M A (assignInOrder fs cvs) U E s
  | [], _, [], _, _, _, _, tg, _, rs, e, Fr, R, k => by
    rw [show _ = [] from tg, show _ = [] from rs]
    exact wpAny_pure (k.go R (Option.some.inj e ▸ Fr) fun _ _ => rfl)
  | [], _, _ :: _, _, _, _, _, _, _, _, e, _, _, _ => clash rfl e
  | _ :: _, _, [], _, _, _, _, _, _, _, e, _, _, _ => clash rfl e
  | j :: ks, fs, v :: vs, cvs, ls, V, s, tg, hW, rs, e, Fr, R, k => by
    obtain ⟨x, f, r, rfl, hx, hf, tg⟩ := tg
    obtain ⟨c, ds, rfl, r1, rs⟩ := rs
    exact iff' e fun _ e => wpAny_bind (wpAny_holding (hf (Fr.store R hx r1 (hW (.head _) hx) fun R' Fr' kp => snd_inOrder tg (fun h => hW (.tail _ h)) rs e Fr' R' ⟨fun R2 F2 kp2 => k.go R2 F2 fun b hb => (kp2 b hb).trans (kp b hb)⟩)))

theorem snd_unpack {v : AV} {cv : Value} {vs : List AV} {n : Nat} {Q : List Value → Shared → Prop} (hh : A.handled = none) (R : Rel X g V H s) (r : VR X.B.T g (.tup vs) cv) (hn : n = vs.length) (k : ∀ {cvs s'}, Rel X g V H s' → VRs X.B.T g vs cvs → Q cvs s') :
    wpAny X.M A (unpackItems cv n none) Q E s :=
  r.tup1 fun a cvs m hg rs => by
    rw [hn, ← rs.length]
    exact unpackItems_tuple hh ⟨_, R.zed hg, rfl, _, rfl⟩ fun h' hx' => k (R.ext (tk := s.toks) fun b o e => hx' b o (Nat.ne_of_lt (Heap.lt_size e)) e) rs
theorem snd_assign {tgt : PySem.Expr} {t : Tgt} {v : AV} {cv : Value} (hh : A.handled = none) (hc : chkTgt names tgt t = true) (hW : InW names env W (tgtKs t)) (R : Rel X g V H s) (Fr : FR X g V names env ls) (r : VR X.B.T g v cv) (e : bindT t v ls = some ls') (k : Ks X g V H names env ls' W U) :
    wpAny X.M A (assign tgt env cv) U E s := by
  cases t with
  | one j =>
    obtain ⟨x, pos, rfl, hx⟩ := isNm_of hc
    exact iff' e fun _ e => assign_Name (Fr.store R hx r (hW (.head _) hx) fun R' Fr' kp => k.go R' (Option.some.inj e ▸ Fr') kp)
  | many ks =>
    obtain ⟨es, n, pos, rfl, hc⟩ := chkMany_of hc
    obtain ⟨a, b, c⟩ := chkNames_tg (env := env) hc
    refine bnd e fun vs ev e => ?_
    show wpAny _ _ (do standAt pos; unpack cv (assignEach es env)) _ _ _
    refine wpAny_bind (wpAny_standAt ?_)
    unfold unpack
    rw [b]
    exact wpAny_bind (wpAny_holding (snd_unpack (v := v) hh R (vT ev r) (c.trans (bindMany_len e)) fun R' rs => snd_inOrder a hW rs e Fr R' k))
end Mini
end

section
open PySem PySem.W PyProof.Rows PySem.Calls
namespace Mini

noncomputable def AOk (n : Nat) (A : Around) : Prop := A.handled = none ∧ A.depth + 4 * n + 4 < recursionLimit ∧ A.units + 12 * n + 100 < cLine
theorem AOk.units {n : Nat} {A : Around} (h : AOk n A) : A.units + 80 < cLine := by have := h.2.2; omega

structure Lg where
  X : Wo
  cf : CF
  n : Nat
structure At (L : Lg) (sc : Scope) (ns : List Str) (A : Around) (env : Env) (g : Gh) (V : Pm) (ls : List AV) (H : AH) (s : Shared) : Prop where
  ok : AOk L.n A
  sc : env.scope = sc
  fr : FR L.X g V ns env ls
  rel : Rel L.X g V H s
structure Kb (X : Wo) (g : Gh) (V : Pm) (H : AH) (b : Bool) (Q : Bool → Shared → Prop) : Prop where
  go : ∀ {g' : Gh} {s' : Shared}, g.Le g' → Rel X g' V H s' → Q b s'
structure Kl (X : Wo) (g : Gh) (V : Pm) (H : AH) (vs : List AV) (Q : List Value → Shared → Prop) : Prop where
  go : ∀ {g' : Gh} {s' : Shared} {cvs : List Value}, g.Le g' → Rel X g' V H s' → VRs X.B.T g' vs cvs → Q cvs s'
noncomputable def SE (L : Lg) (sc : Scope) (ns : List Str) (e : PySem.Expr) (ie : IE) : Prop := ∀ {A : Around} {E : Value → Shared → Prop} {s : Shared} {g : Gh} {V : Pm} {H : AH} {env : Env} {ls : List AV} {v : AV} {H' : AH} {Q : Value → Shared → Prop},
  At L sc ns A env g V ls H s → evE L.cf L.n ie ls H = some (v, H') → Kt L.X g V H' v Q → wpAny L.X.M A (eval e env) Q E s
noncomputable def SEs (L : Lg) (sc : Scope) (ns : List Str) (es : List PySem.Expr) (ies : IEs) : Prop := ∀ {A : Around} {E : Value → Shared → Prop} {s : Shared} {g : Gh} {V : Pm} {H : AH} {env : Env} {ls : List AV} {vs : List AV} {H' : AH} {Q : List Value → Shared → Prop} (pos : Pos),
  At L sc ns A env g V ls H s → evEs L.cf L.n ies ls H = some (vs, H') → Kl L.X g V H' vs Q → wpAny L.X.M A (spliced (backTo pos (starEach es env))) Q E s
noncomputable def SB (L : Lg) (sc : Scope) (ns : List Str) (it : IT) (t : Env → Sem Bool) : Prop := ∀ {A : Around} {E : Value → Shared → Prop} {s : Shared} {g : Gh} {V : Pm} {H : AH} {env : Env} {ls : List AV} {b : Bool} {H' : AH} {Q : Bool → Shared → Prop},
  At L sc ns A env g V ls H s → evT L.cf L.n it ls H = some (b, H') → Kb L.X g V H' b Q → wpAny L.X.M A (t env) Q E s

section
variable {X : Wo} {g g' : Gh} {V : Pm} {H H' : AH} {s s' : Shared} {v : AV} {b : Bool} {Q : Value → Shared → Prop} {B : Bool → Shared → Prop} {L : Lg} {sc : Scope} {ns : List Str} {A : Around} {env : Env} {ls : List AV}
theorem Kt.up (l : g.Le g') (k : Kt X g V H v Q) : Kt X g' V H v Q := ⟨fun m => k.go (l.trans m)⟩
theorem Kb.up (l : g.Le g') (k : Kb X g V H b B) : Kb X g' V H b B := ⟨fun m => k.go (l.trans m)⟩
theorem Kb.of {c : Bool} (k : Kb X g V H' b B) (e : some (c, H) = some (b, H')) : Kb X g V H c B := by
  have e := Prod.mk.inj (Option.some.inj e)
  exact e.1 ▸ e.2 ▸ k
theorem Kb.here (k : Kb X g V H b B) (R : Rel X g V H s) : B b s := k.go .refl R
theorem At.next (t : At L sc ns A env g V ls H s) (l : g.Le g') (R : Rel L.X g' V H' s') : At L sc ns A env g' V ls H' s' := ⟨t.ok, t.sc, t.fr.up l fun _ _ => rfl, R⟩
end

variable {L : Lg} {sc : Scope} {ns : List Str} {x y z : PySem.Expr} {pos : Pos} {a b c : IE} {t r : IT}

noncomputable def constIs : Const → AV → Bool
  | .none, v => isN v
  | .bool b, v => asB v == some b
  | .int i, v => asI v == some i
  | .str x, v => (asS v).any fun s => x == ⟨s.toArray⟩
  | _, _ => false
theorem se_lit {c : Const} {k : Nat} {v : AV} (hc : constIs c v = true) : SE L sc ns (.Constant c k pos) (.lit v) := fun t e k => by
  have k := k.of2 e
  cases c with
  | none => exact wpAny_Constant_none (k.here t.rel (isN_of hc ▸ rfl))
  | bool b => exact wpAny_Constant_bool (k.here t.rel (asB_of (beq_iff_eq.mp hc) ▸ rfl))
  | int i => exact wpAny_Constant_int (k.here t.rel (asI_of (beq_iff_eq.mp hc) ▸ ⟨_, rfl⟩))
  | str x =>
    obtain ⟨s, es, q⟩ := any_some hc
    rw [beq_iff_eq.mp q]
    exact wpAny_Constant_str (k.here t.rel (asS_of es ▸ ⟨_, rfl⟩))
  | _ => exact nomatch hc
theorem se_nint {i : Int} {k : Nat} {p : Pos} : SE L sc ns (.UnaryOp .USub (.Constant (.int i) k p) pos) (.nint i) := fun t e k => wpAny_UnaryOp (wpAny_Constant_int (PySem.P.neg_int ((k.of2 e).int t.rel.tick)))
theorem se_loc {k : Nat} {x : Str} (hx : ns[k]? = some x) (hd : (x == ("__debug__" : Str)) = false) (hc : (x == ("__classdict__" : Str)) = false) : SE L sc ns (.Name x pos) (.loc k) := fun t e k => bnd e fun v ev e => by
  by_cases hu : isU v = true
  · exact clash (if_pos hu) e
  · rw [if_neg hu] at e
    exact t.fr.load t.rel hx ev (Bool.eq_false_iff.mpr hu) hd hc fun c r => (k.of2 e).go .refl t.rel r
theorem ld_global {x : Str} {c : Value} {env : Env} {ls : List AV} {A : Around} {E : Value → Shared → Prop} {s : Shared} {g : Gh} {V : Pm} {H : AH} {Q : Value → Shared → Prop} (C : Cx L.X) (t : At L sc ns A env g V ls H s) (hk : sc.names.lookup x = some .globalImplicit)
    (hd : (x == ("__debug__" : Str)) = false) (hg : L.X.B.gl x = some c) (h : Q c s) : wpAny L.X.M A (eval (.Name x pos) env) Q E s := by
  obtain ⟨mg, mb, h1, h2, h3⟩ := C.gl hg
  have base : ∀ b o, L.X.s0.heap.get? b = some o → s.heap.get? b = some o := fun _ _ e => t.rel.zed (t.rel.low e)
  have h1' : s.heap.Ns env.globals mg := t.fr.glob ▸ h1.keeps base
  have h2' : s.heap.Ns env.builtins mb := t.fr.blt ▸ h2.keeps base
  refine Calls.Name_function_global t.fr.kind (by show env.scope.names.lookup x = _; rw [t.sc]; exact hk) ?_ hd
  rcases h3 with h3 | ⟨h3, h4⟩
  · exact Calls.loadGlobal_global h1' h3 h
  · exact Calls.loadGlobal_builtin h1' h3 h2' h4 h
theorem se_glb {x : Str} {c : Value} {v : AV} (C : Cx L.X) (hk : sc.names.lookup x = some .globalImplicit) (hd : (x == ("__debug__" : Str)) = false) (hg : L.X.B.gl x = some c) (hv : L.X.B.vr v c = true) : SE L sc ns (.Name x pos) (.glb x v) := fun t e k =>
  ld_global C t hk hd hg ((k.of2 e).go .refl t.rel (C.vr hv t.rel.low))

theorem se_and2 (ha : SE L sc ns x a) (hb : SE L sc ns y b) : SE L sc ns (.BoolOp .And [x, y] pos) (.and2 a b) := fun t e k => bnd e fun p e1 e => bnd e fun d ed e => wpAny_And2 (ha t e1 ⟨fun l R r => vB ed r (wpAny_truthy_bool (by
  cases d with
  | false => exact (k.of2 e).go l R rfl
  | true => exact hb (t.next l R) e (k.up l)))⟩)
theorem boolOp_or {M : Model} {A : Around} {E : Value → Shared → Prop} {s : Shared} {env : Env} {Q : Value → Shared → Prop} (h : wpAny M A (eval x env) (fun v s₁ => wpAny M A (truthy v) (fun t s₂ => if t then Q v s₂ else wpAny M A (eval y env) Q E s₂) E s₁) E s) : wpAny M A (eval (.BoolOp .Or [x, y] pos) env) Q E s := by
  refine wpAny_bind (wpAny_mono h (fun v s₁ h₁ => wpAny_bind (wpAny_standAt (wpAny_bind (wpAny_holding (wpAny_mono h₁ (fun c s₂ h₂ => ?_) fun _ _ x => x))))) fun _ _ x => x)
  cases c with
  | false => exact h₂
  | true => exact wpAny_pure h₂
theorem boolOp_or3 {M : Model} {A : Around} {E : Value → Shared → Prop} {s : Shared} {r : List PySem.Expr} {env : Env} {Q : Value → Shared → Prop} (h : wpAny M A (eval x env) (fun v s₁ => wpAny M A (truthy v) (fun t s₂ => if t then Q v s₂ else wpAny M A (eval (.BoolOp .Or (y :: z :: r) pos) env) Q E s₂) E s₁) E s) :
    wpAny M A (eval (.BoolOp .Or (x :: y :: z :: r) pos) env) Q E s := by
  refine wpAny_bind (wpAny_mono h (fun v s₁ h₁ => wpAny_bind (wpAny_standAt (wpAny_bind (wpAny_holding (wpAny_mono h₁ (fun c s₂ h₂ => ?_) fun _ _ x => x))))) fun _ _ x => x)
  cases c with
  | false => exact h₂
  | true => exact wpAny_pure h₂
theorem se_orG {e : PySem.Expr} (hG : ∀ {A : Around} {E : Value → Shared → Prop} {s : Shared} {env : Env} {Q : Value → Shared → Prop}, wpAny L.X.M A (eval x env) (fun v s₁ => wpAny L.X.M A (truthy v) (fun t s₂ => if t then Q v s₂ else wpAny L.X.M A (eval y env) Q E s₂) E s₁) E s → wpAny L.X.M A (eval e env) Q E s)
    (ha : SE L sc ns x a) (hb : SE L sc ns y b) : SE L sc ns e (.or2 a b) := fun t e k => bnd e fun p e1 e => bnd e fun d ed e => hG (ha t e1 ⟨fun l R r => vB ed r (wpAny_truthy_bool (by
  cases d with
  | true => exact (k.of2 e).go l R rfl
  | false => exact hb (t.next l R) e (k.up l)))⟩)
theorem se_ifx (hc : SB L sc ns t (fun env => isTrue z env (eval z env))) (ha : SE L sc ns x a) (hb : SE L sc ns y b) : SE L sc ns (.IfExp z x y pos) (.ifx t a b) := fun t e k => bnd e fun p e1 e => wpAny_IfExp (hc t e1 ⟨fun l R => by
  obtain ⟨d, _⟩ := p
  cases d with
  | true => exact ha (t.next l R) e (k.up l)
  | false => exact hb (t.next l R) e (k.up l)⟩)
theorem se_bin {o : Bop} (ha : SE L sc ns x a) (hb : SE L sc ns y b) : SE L sc ns (.BinOp x (bopOp o) y pos) (.bin o a b) := fun t e k => bnd e fun p e1 e => bnd e fun q e2 e => bnd e fun u e3 e =>
  wpAny_BinOp (ha t e1 ⟨fun l R r => hb (t.next l R) e2 ⟨fun l2 R2 r2 => snd_bin R2 (r.up l2) r2 e3 ((k.of2 e).up (l.trans l2))⟩⟩)
theorem se_cmp {o : Cop} (C : Cx L.X) (hm : behindInMarks (copOp o) y = false) (ha : SE L sc ns x a) (hb : SE L sc ns y b) : SE L sc ns (.Compare x [copOp o] [y] pos) (.cmp o a b) := fun t e k => bnd e fun p e1 e => bnd e fun q e2 e => bnd e fun u e3 e =>
  wpAny_Compare1 (ha t e1 ⟨fun l R r => hb (t.next l R) e2 ⟨fun l2 R2 r2 => snd_cmp C R2 t.ok.units (r.up l2) r2 e3 ((k.of2 e).go (l.trans l2) R2 rfl)⟩⟩) hm
theorem sb_cmp {o : Cop} (C : Cx L.X) (hm : behindInMarks (copOp o) y = false) (ha : SE L sc ns x a) (hb : SE L sc ns y b) : SB L sc ns (.cmp o a b) (fun env => isTrue (.Compare x [copOp o] [y] pos) env (eval (.Compare x [copOp o] [y] pos) env)) := fun t e k =>
  bnd e fun p e1 e => bnd e fun q e2 e => bnd e fun u e3 e =>
  wpAny_isTrue_Compare1 (ha t e1 ⟨fun l R r => hb (t.next l R) e2 ⟨fun l2 R2 r2 => snd_cmp C R2 t.ok.units (r.up l2) r2 e3 (wpAny_truthy_bool ((k.of e).go (l.trans l2) R2))⟩⟩) hm
theorem sb_cmp2 {o p : Cop} (C : Cx L.X) (hm : lastMarks [copOp o, copOp p] [y, z] = false) (ha : SE L sc ns x a) (hb : SE L sc ns y b) (hc : SE L sc ns z c) :
    SB L sc ns (.cmp2 o p a b c) (fun env => isTrue (.Compare x [copOp o, copOp p] [y, z] pos) env (eval (.Compare x [copOp o, copOp p] [y, z] pos) env)) := fun t e k =>
  bnd e fun p e1 e => bnd e fun q e2 e => bnd e fun u e3 e =>
  isTrue_chain (ha t e1 ⟨fun l R r => test_link (hb (t.next l R) e2 ⟨fun l2 R2 r2 => snd_cmp C R2 t.ok.units (r.up l2) r2 e3 (wpAny_truthy_bool (by
    cases u with
    | false => exact (k.of e).go (l.trans l2) R2
    | true => exact bnd e fun w e4 e => bnd e fun u e5 e => test_last (hc (t.next (l.trans l2) R2) e4 ⟨fun l3 R3 r3 => snd_cmp C R3 t.ok.units (r2.up l3) r3 e5 (wpAny_truthy_bool ((k.of e).go ((l.trans l2).trans l3) R3))⟩)))⟩)⟩) hm
end Mini
end

section
open PySem PySem.W PyProof.Rows PySem.Calls
namespace Mini

noncomputable def plainT (e : PySem.Expr) : Bool := match e.ctorIdx with
  | 0 => false | 3 => false | 5 => false | 15 => false
  | _ => true
theorem plainT_eq {e : PySem.Expr} (h : plainT e = true) (env : Env) (whole : Sem Value) : isTrue e env whole = (do let v ← whole; standAt e.pos; holding [v] (truthy v)) := by
  cases e <;> first | rfl | exact nomatch h
noncomputable def notStar (e : PySem.Expr) : Bool := e.ctorIdx != 22
theorem star_cons {e : PySem.Expr} (h : notStar e = true) (rest : List PySem.Expr) (env : Env) : starEach (e :: rest) env = (false, eval e env) :: starEach rest env := by
  cases e <;> first | rfl | exact nomatch h
theorem star_none : ∀ {es : List PySem.Expr} (_ : es.all notStar = true) (env : Env) (pos : Pos), (backTo pos (starEach es env)).any (·.1) = false
  | [], _, _, _ => rfl
  | e :: es, h, env, pos => by
    rw [List.all_cons, Bool.and_eq_true] at h
    rw [star_cons h.1]
    show (false || (backTo pos (starEach es env)).any (·.1)) = false
    rw [star_none h.2]; rfl
noncomputable def IEs.len : IEs → Nat
  | .nil => 0
  | .cons _ r => r.len + 1
theorem evEs_len {cf : CF} {n : Nat} : ∀ {es : IEs} {ls vs : List AV} {H H' : AH}, evEs cf n es ls H = some (vs, H') → vs.length = es.len
  | .nil, _, _, _, _, e => (Prod.mk.inj (Option.some.inj e)).1 ▸ rfl
  | .cons _ _, _, _, _, _, e => bnd e fun _ _ e => bnd e fun _ e2 e => (Prod.mk.inj (Option.some.inj e)).1 ▸ congrArg (· + 1) (evEs_len e2)

section
variable {X : Wo} {g g' : Gh} {V : Pm} {H H' : AH} {vs : List AV} {Q : List Value → Shared → Prop}
theorem Kl.of {us : List AV} (k : Kl X g V H' vs Q) (e : some (us, H) = some (vs, H')) : Kl X g V H us Q := by
  have e := Prod.mk.inj (Option.some.inj e)
  exact e.1 ▸ e.2 ▸ k
end

variable {L : Lg} {sc : Scope} {ns : List Str} {x y z : PySem.Expr} {pos : Pos} {a b c : IE} {t r : IT} {xs : List PySem.Expr} {es : IEs}

theorem sb_val (hp : plainT x = true) (ha : SE L sc ns x a) : SB L sc ns (.val a) (fun env => isTrue x env (eval x env)) := fun t e k => bnd e fun p e1 e => bnd e fun d ed e =>
  isTrue_plain (ha t e1 ⟨fun l R r => vB ed r (wpAny_truthy_bool ((k.of e).go l R))⟩) (plainT_eq hp _ _)
theorem sb_not (ht : SB L sc ns t (fun env => isTrue x env (eval x env))) : SB L sc ns (.not t) (fun env => isTrue (.UnaryOp .Not x pos) env (eval (.UnaryOp .Not x pos) env)) := fun t e k => bnd e fun p e1 e =>
  isTrue_not (ht t e1 ⟨fun l R => (k.of e).go l R⟩)
theorem sb_and0 : SB L sc ns .kt (fun env => allTrue .And [] env) := fun t e k => wpAny_allTrue_And_nil ((k.of e).here t.rel)
theorem sb_or0 : SB L sc ns .kf (fun env => allTrue .Or [] env) := fun t e k => wpAny_allTrue_Or_nil ((k.of e).here t.rel)
theorem sb_and (ht : SB L sc ns t (fun env => isTrue x env (eval x env))) (hr : SB L sc ns r (fun env => allTrue .And xs env)) : SB L sc ns (.and t r) (fun env => allTrue .And (x :: xs) env) := fun t e k => bnd e fun p e1 e =>
  wpAny_allTrue_And_cons (ht t e1 ⟨fun l R => by
    obtain ⟨d, _⟩ := p
    cases d with
    | true => exact hr (t.next l R) e (k.up l)
    | false => exact (k.of e).go l R⟩)
theorem sb_or (ht : SB L sc ns t (fun env => isTrue x env (eval x env))) (hr : SB L sc ns r (fun env => allTrue .Or xs env)) : SB L sc ns (.or t r) (fun env => allTrue .Or (x :: xs) env) := fun t e k => bnd e fun p e1 e =>
  wpAny_allTrue_Or_cons (ht t e1 ⟨fun l R => by
    obtain ⟨d, _⟩ := p
    cases d with
    | false => exact hr (t.next l R) e (k.up l)
    | true => exact (k.of e).go l R⟩)
noncomputable def ifsOf (ifs : List PySem.Expr) (b : Bool) (env : Env) : Sem Bool := forIn ifs b fun c r => if r = true then do let ok ← isTrue c env (eval c env); pure (ForInStep.yield ok) else pure (ForInStep.yield r)
theorem ifs_false {M : Model} {A : Around} {E : Value → Shared → Prop} {env : Env} {Q : Bool → Shared → Prop} : ∀ {ifs : List PySem.Expr} {s : Shared}, Q false s → wpAny M A (ifsOf ifs false env) Q E s
  | [], s, h => wpAny_pure h
  | c :: r, s, h => by
    unfold ifsOf
    rw [List.forIn_cons, if_neg (by decide)]
    exact wpAny_bind (wpAny_pure (ifs_false h))
theorem sb_ifs0 : SB L sc ns .kt (ifsOf [] true) := fun t e k => wpAny_pure ((k.of e).here t.rel)
theorem sb_ifs (ht : SB L sc ns t (fun env => isTrue x env (eval x env))) (hr : SB L sc ns r (ifsOf xs true)) : SB L sc ns (.and t r) (ifsOf (x :: xs) true) := fun t e k => bnd e fun p e1 e => by
  unfold ifsOf
  rw [List.forIn_cons, if_pos rfl]
  refine wpAny_bind (wpAny_bind (ht t e1 ⟨fun l R => wpAny_pure ?_⟩))
  obtain ⟨d, _⟩ := p
  cases d with
  | true => exact hr (t.next l R) e (k.up l)
  | false => exact ifs_false ((k.of e).go l R)

theorem se_nil : SEs L sc ns [] .nil := fun _ t e k => wpAny_items_nil ((k.of e).go .refl t.rel rfl)
theorem se_cons (hn : notStar x = true) (ha : SE L sc ns x a) (hr : SEs L sc ns xs es) : SEs L sc ns (x :: xs) (.cons a es) := fun pos t e k => bnd e fun p e1 e => bnd e fun q e2 e =>
  wpAny_items_cons (ha t e1 ⟨fun l R r => hr pos (t.next l R) e2 ⟨fun l2 R2 r2 => (k.of e).go (l.trans l2) R2 ⟨_, _, rfl, r.up l2, r2⟩⟩⟩) (star_cons hn _ _)
theorem line_of {n m : Nat} {vs : List AV} {cvs : List Value} {T : Sta} {g : Gh} (h : m ≤ 1000) (e : vs.length = m) (r : VRs T g vs cvs) : cvs.length ≤ sizeLine := le_line (by rw [r.length, e]; exact Nat.le_trans h (by decide))
section
variable {X : Wo} {g : Gh} {V : Pm} {H : AH} {s : Shared} {h' : Heap} {Q : Value → Shared → Prop}
theorem Kt.tup {vs : List AV} {cvs : List Value} {a n tk : Nat} (k : Kt X g V H (.tup vs) Q) (R : Rel X g V H s) (rs : VRs X.B.T g vs cvs) (ha : s.heap.objs.size ≤ a) (hk : ∀ b o, s.heap.get? b = some o → h'.get? b = some o) (e : h'.get? a = some (tupOb cvs n)) :
    Q (.ref a) { s with heap := h', toks := tk } :=
  have L := Gh.frz_le (o := tupOb cvs n) (R.free ha).z
  k.go L (R.newZ ha hk e) ⟨a, cvs, n, rfl, Pm.put_self, rs.up L⟩
end
theorem se_tup {k : Nat} (hl : es.len ≤ 1000) (he : SEs L sc ns xs es) : SE L sc ns (.Tuple xs k pos) (.tup es) := fun t e k => bnd e fun p e1 e =>
  wpAny_Tuple (he pos t e1 ⟨fun l R rs => ⟨line_of (n := 0) hl (evEs_len e1) rs, ((k.of2 e).up l).tup (n := 0) R rs (Nat.le_refl _) keep_push (Heap.get?_push_size _ rfl)⟩⟩)
theorem se_list {m : Bool} (hl : es.len ≤ 1000) (he : SEs L sc ns xs es) : SE L sc ns (.List xs pos) (.list m es) := fun t e k => bnd e fun p e1 e =>
  wpAny_List (he pos t e1 ⟨fun l R rs => ⟨line_of (n := 0) hl (evEs_len e1) rs, by
    cases m with
    | false => exact ((k.of2 e).up l).lst (n := 0) R rs (Nat.le_refl _) keep_push (Heap.get?_push_size _ rfl)
    | true => exact ((k.of2 e).up l).list (n := 0) R rs (Nat.le_refl _) keep_push (Heap.get?_push_size _ rfl)⟩⟩)
theorem se_attr {d f : Nat} {f' : Str} (C : Cx L.X) (hx : (L.X.B.T.flds d)[f]? = some f') (hb : ∀ env whole, attributeBase x f' env whole = whole) (ho : SE L sc ns x a) : SE L sc ns (.Attribute x f' pos) (.attr d f a) := fun t e k => bnd e fun p e1 e => bnd e fun v e2 e =>
  Attribute_any_ (ho t e1 ⟨fun l R r => snd_attr C R r e2 hx ((k.of2 e).up l)⟩) (by rw [arm_eval_Attribute, hb])
theorem se_sub (hn : notSlice y = true) (ha : SE L sc ns x a) (hb : SE L sc ns y b) : SE L sc ns (.Subscript x y pos) (.sub a b) := fun t e k => bnd e fun p e1 e => bnd e fun q e2 e => bnd e fun u e3 e =>
  Subscript_ (ha t e1 ⟨fun l R r => hb (t.next l R) e2 ⟨fun l2 R2 r2 => snd_sub hn R2 (r.up l2) r2 e3 ((k.of2 e).up (l.trans l2))⟩⟩)

noncomputable def SP (L : Lg) (sc : Scope) (ns : List Str) (p : Option PySem.Expr) (ie : IE) : Prop := match p with
  | none => ie = .lit .unb
  | some e => SE L sc ns e ie
theorem se_part {p : Option PySem.Expr} {env : Env} {ls : List AV} {v : AV} {l : Option Nat} {A : Around} {E : Value → Shared → Prop} {s : Shared} {g : Gh} {V : Pm} {H H' : AH} {Q : Value → Shared → Prop} (hp : SP L sc ns p a) (t : At L sc ns A env g V ls H s)
    (e : evE L.cf L.n a ls H = some (v, H')) (hl : partN v = some l) (k : ∀ {l' g' s'}, PartIs l l' → g.Le g' → Rel L.X g' V H' s' → Q (partValue l') s') : wpAny L.X.M A (valueOrNone (evalOpt p env)) Q E s := by
  cases p with
  | none =>
    rw [show a = .lit .unb from hp] at e
    have e := Prod.mk.inj (Option.some.inj e)
    rw [← e.1] at hl
    exact wpAny_pure (k (l' := none) (by cases hl; rfl) .refl (e.2 ▸ t.rel))
  | some x =>
    refine hp t e ⟨fun l2 R r => ?_⟩
    cases v with
    | unb => exact r.elim
    | int i => exact iff' hl fun hi e => r.int1 fun u => k (l' := some (i, u)) (by rw [← Option.some.inj e]; exact congrArg some (Int.toNat_of_nonneg hi.1).symm) l2 R
    | _ => exact clash rfl hl
theorem se_slice {lw up : Option PySem.Expr} {p : Pos} (ha : SE L sc ns x a) (hl : SP L sc ns lw b) (hu : SP L sc ns up c) : SE L sc ns (.Subscript x (.Slice lw up none p) pos) (.slice a b c) := fun t e k =>
  bnd e fun p1 e1 e => bnd e fun p2 e2 e => bnd e fun p3 e3 e => bnd e fun v e4 e => bnd e4 fun l el e4 => bnd e4 fun u eu e4 =>
  Subscript_ (ha t e1 ⟨fun l1 R1 r1 => by
    rw [arm_eval_Slice]
    exact wpAny_bind (se_part hl (t.next l1 R1) e2 el fun q1 l2 R2 => wpAny_bind (wpAny_holding (se_part hu (t.next (l1.trans l2) R2) e3 eu fun q2 l3 R3 => wpAny_bind (wpAny_holding (wpAny_pure (wpAny_newObj_type
      (snd_slice R3 (r1.up (l2.trans l3)) q1 q2 e4 ((k.of2 e).up ((l1.trans l2).trans l3))) (by size_fits)))))))⟩)
end Mini
end

section
open PySem PySem.W PyProof.Rows PySem.Calls
namespace Mini

noncomputable def notSuper (e : PySem.Expr) : Bool := if h : e.ctorIdx = 16 then PySem.Expr.Call.elim (motive_1 := fun _ => Bool) e h fun f _ _ _ => f.ctorIdx == 20 else true
theorem base_plain {o : PySem.Expr} (h : notSuper o = true) (attr : Str) (env : Env) (whole : Sem Value) : attributeBase o attr env whole = whole := by
  cases o with
  | Call f xs ks p => cases f <;> first | rfl | exact nomatch h
  | _ => rfl
noncomputable def calleeOk (K : Frag) : Value → Bool
  | .builtin _ => true
  | .type _ => true
  | .ref a => keepIn K (.ref a)
  | _ => false

variable {L : Lg} {sc : Scope} {ns : List Str} {x y z : PySem.Expr} {pos gp apos gp2 : Pos} {a : IE} {xs : List PySem.Expr} {es : IEs} {A : Around} {E : Value → Shared → Prop} {s : Shared}

theorem evalArgs_all {X : Wo} {f : Value} {args : List (Bool × Sem Value)} {Q : Args → Shared → Prop} (hp : args.any (·.1) = false) (h : wpAny X.M A (spliced args) (fun vs s' => Q ⟨vs, []⟩ s') E s) : wpAny X.M A (evalArgs f true args []) Q E s := by
  cases args with
  | nil =>
    unfold evalArgs
    show wpAny _ A (spliced [] >>= _) Q E s
    refine wpAny_bind (wpAny_mono h (fun vs s' h' => wpAny_bind (wpAny_pure (wpAny_holding ?_))) fun _ _ x => x)
    exact wpAny_bind (wpAny_pure (wpAny_bind (wpAny_pure (wpAny_pure h'))))
  | cons a r =>
    obtain ⟨b, x⟩ := a
    obtain rfl : b = false := by rw [List.any_cons, Bool.or_eq_false_iff] at hp; exact hp.1
    exact evalArgs_plain h
theorem snd_callWith {X : Wo} {f : Value} {first : List Value} {p2 : Pos} {env : Env} {Q : Value → Shared → Prop} (hk : calleeOk X.B.K f = true) (hst : xs.all notStar = true)
    (h : wpAny X.M A (spliced (backTo p2 (starEach xs env))) (fun cvs s₁ => X.B.K.In s₁.heap ∧ wpAny X.M A (call f (first ++ cvs)) Q E s₁) E s) :
    wpAny X.M A (callWith pos f first (backTo p2 (starEach xs env)) []) Q E s := by
  refine callWith_of (P := fun h => X.B.K.In h) (by rw [star_none hst]; rfl) (fun hp X' => ?_) (evalArgs_all (star_none hst _ _) h)
  cases f with
  | builtin _ => exact ⟨.machine, .inr (.inl rfl), .now⟩
  | type _ => exact ⟨.machine, .inr (.inl rfl), .now⟩
  | ref a => exact keeps_K (f := .ref a) hk hp X'
  | _ => exact nomatch hk

noncomputable def CallOk (L : Lg) : Prop := ∀ {A : Around} {E : Value → Shared → Prop} {s : Shared} {g : Gh} {V : Pm} {H : AH} {f : Nat} {fa : Addr} {vs : List AV} {cvs : List Value} {v : AV} {H' : AH} {Q : Value → Shared → Prop}, AOk L.n A → L.X.B.fad f = some fa →
  Rel L.X g V H s → VRs L.X.B.T g vs cvs → L.cf f vs H = some (v, H') → Kt L.X g V H' v Q → wpAny L.X.M A (call (.ref fa) cvs) Q E s

structure Glb (X : Wo) (sc : Scope) (g : Str) (v : Value) : Prop where
  k : sc.names.lookup g = some .globalImplicit
  d : (g == ("__debug__" : Str)) = false
  v : X.B.gl g = some v
theorem se_call {f : Nat} {g : Str} {fa : Addr} (C : Cx L.X) (CO : CallOk L) (G : Glb L.X sc g (.ref fa)) (hf : L.X.B.fad f = some fa) (hc : calleeOk L.X.B.K (.ref fa) = true) (hst : xs.all notStar = true) (he : SEs L sc ns xs es) :
    SE L sc ns (.Call (.Name g gp) xs [] pos) (.call f es) := fun t e k => bnd e fun p e1 e => Call_Name rfl (ld_global C t G.k G.d G.v (snd_callWith hc hst (he pos t e1 ⟨fun l R rs => ⟨R.inK C, CO t.ok hf R rs e (k.up l)⟩⟩)))
theorem se_bi {b : BI} {g : Str} (C : Cx L.X) (G : Glb L.X sc g (biFn b)) (hst : xs.all notStar = true) (he : SEs L sc ns xs es) : SE L sc ns (.Call (.Name g gp) xs [] pos) (.bi b es) := fun t e k => bnd e fun p e1 e =>
  Call_Name rfl (ld_global C t G.k G.d G.v (snd_callWith (by cases b <;> rfl) hst (he pos t e1 ⟨fun l R rs => ⟨R.inK C, snd_bi t.ok.1 R rs e (k.up l)⟩⟩)))
theorem se_isi {c : Nat} {Ca : Addr} {g g2 : Str} (C : Cx L.X) (G : Glb L.X sc g (.builtin "isinstance")) (G2 : Glb L.X sc g2 (.ref Ca)) (hc : L.X.B.T.cls c = some Ca) (hst : notStar x = true) (he : SE L sc ns x a) :
    SE L sc ns (.Call (.Name g gp) [x, .Name g2 gp2] [] pos) (.isi c a) := fun t e k => bnd e fun p e1 e => bnd e fun b e2 e =>
  Call_Name rfl (ld_global C t G.k G.d G.v (snd_callWith rfl (by rw [List.all_cons, hst]; rfl) (wpAny_items_cons (he t e1 ⟨fun l R r => wpAny_items_cons (ld_global C (t.next l R) G2.k G2.d G2.v (wpAny_items_nil ⟨R.inK C, snd_isi C R r e2 hc ((k.of2 e).up l)⟩))⟩) (star_cons hst _ _))))

theorem form_ok {env : Env} (hst : xs.all notStar = true) (hl : xs.length < 30) : methodCallForm (xs.length + ([] : List Keyword).length) (backTo pos (starEach xs env)) (backToKw pos (keywordEach [] env)) = true := by
  have h1 : (backTo pos (starEach xs env)).all (!·.1) = true := by
    have h0 := star_none hst env pos
    rw [List.any_eq_false] at h0
    rw [List.all_eq_true]
    intro x hx
    rw [Bool.not_eq_true']
    exact Bool.eq_false_iff.mpr (h0 x hx)
  unfold methodCallForm
  rw [h1, show backToKw pos (keywordEach [] env) = [] from rfl]
  simp
  omega
theorem pos_ok {env : Env} (hline : (apos.endLine == pos.line) = true) : methodCallPos true x env apos pos = pure pos := by unfold methodCallPos; simp [hline]
theorem se_meth {m : MN} {name : Str} (C : Cx L.X) (hm : name = methN m) (hb : notSuper x = true) (hst : xs.all notStar = true) (hl : xs.length < 30) (hline : (apos.endLine == pos.line) = true) (ho : SE L sc ns x a) (he : SEs L sc ns xs es) :
    SE L sc ns (.Call (.Attribute x name apos) xs [] pos) (.meth m a es) := fun t e k => bnd e fun p e1 e => iff' e fun e2 e => bnd e fun q e3 e => by
  rw [arm_eval_Call, base_plain hb, hm]
  refine wpAny_bind (ho t e1 ⟨fun l R r => wpAny_bind (wpAny_standAt ?_)⟩)
  have D := snd_recv R r e2
  unfold methodCall
  rw [form_ok hst hl]
  exact wpAny_bind (wpAny_holding (getMethod_builtin D.is D.pa D.sl D.ty D.dn (wpAny_bind (wpAny_of_eq (pos_ok hline) (snd_callWith rfl hst (he pos (t.next l R) e3 ⟨fun l2 R2 rs => ⟨R2.inK C, snd_meth R2 (r.up l2) rs e (k.up (l.trans l2))⟩⟩))))))

@[elab_as_elim] theorem Rel.isi1 {X : Wo} {g : Gh} {V : Pm} {H : AH} {c : Nat} {ov : AV} {cov : Value} {C : Value → Prop} (R : Rel X g V H s) (r : VR X.B.T g ov cov) (e : isiV H c ov = some true)
    (k : ∀ w m D es n cvs, X.B.T.cls c = some D → s.heap.get? w = some (instObj D m) → s.heap.get? m = some (dictOf es n) → Ent (X.B.T.flds c) cvs es → C (.ref w)) : C cov := by
  cases ov with
  | ref i =>
    refine bnd e fun o eo e1 => ?_
    cases o with
    | inst d fs =>
      have eo : instAt H c i = some fs := by unfold instAt; rw [eo]; exact if_pos (of_decide_eq_true (Option.some.inj e1))
      exact R.inst1 r eo fun w m D es n cvs hd hx hm en rs _ => k w m D es n cvs hd (R.zed hx) hm en
    | _ => exact clash rfl e1
  | rcd d fs =>
    have q : d = c := of_decide_eq_true (Option.some.inj e)
    exact (q ▸ r : VR X.B.T g (.rcd c fs) cov).rcd1 fun w m D es n cvs hd hx hm en rs => k w m D es n cvs hd (R.zed hx) (R.zed hm) en
  | int _ => exact nomatch Option.some.inj e
  | spc _ => exact nomatch Option.some.inj e
  | _ => exact clash rfl e
theorem se_mown {c f : Nat} {fa Ca : Addr} {name : Str} (C : Cx L.X) (CO : CallOk L) (hb : notSuper x = true) (hst : xs.all notStar = true) (hl : xs.length < 30) (hline : (apos.endLine == pos.line) = true)
    (hcl : L.X.B.T.cls c = some Ca) (hfi : findIn L.X.B.K (.ref Ca) name = some (some (.ref fa))) (hfn : isFn L.X.B.K (.ref fa) = true) (hkp : calleeOk L.X.B.K (.ref fa) = true) (hf : L.X.B.fad f = some fa) (hnm : name ∉ L.X.B.T.flds c)
    (ho : SE L sc ns x a) (he : SEs L sc ns xs es) : SE L sc ns (.Call (.Attribute x name apos) xs [] pos) (.mown c f a es) := fun t e k => bnd e fun p e1 e => bnd e fun b e2 e => iff' e fun hb' e => bnd e fun q e3 e => by
  rw [arm_eval_Call, base_plain hb]
  refine wpAny_bind (ho t e1 ⟨fun l R r => wpAny_bind (wpAny_standAt ?_)⟩)
  have r0 := r
  revert r0
  refine R.isi1 r (hb' ▸ e2) fun w m D des n cvs hc' gx gm en r0 => ?_
  cases hcl.symm.trans hc'
  have K := C.cls hcl
  unfold methodCall
  rw [form_ok hst hl]
  refine wpAny_bind (wpAny_holding (method_fn (R.inK C) (inst_of gx gm) (plainGet_of K.pg).1 (plainGet_of K.pg).2 hfi (beq_iff_eq.mp hfn) ?_ (wpAny_bind (wpAny_of_eq (pos_ok hline) (snd_callWith hkp hst (he pos (t.next l R) e3 ⟨fun l2 R2 rs => ⟨R2.inK C, ?_⟩⟩))))))
  · show (lookIn name (dictOf des n)).map _ = _
    rw [lookIn_dict, en.none_at hnm]; rfl
  · exact CO (vs := p.1 :: q.1) t.ok hf R2 ⟨_, _, rfl, r0.up l2, rs⟩ e (k.up (l.trans l2))
end Mini
end

section
open PySem PySem.W PyProof.Rows PySem.Calls
namespace Mini

noncomputable def FlR (X : Wo) (g : Gh) : AF → Flow → Prop
  | .nxt, f => f = .next
  | .cnt, f => f = .cont
  | .ret v, f => ∃ c, f = .ret c ∧ VR X.B.T g v c
noncomputable abbrev Keep (env : Env) (V V' : Pm) : Prop := ∀ b, ¬ Own env b → V' b = V b
structure Kx (X : Wo) (ns : List Str) (env : Env) (g : Gh) (V : Pm) (fl : AF) (ls : List AV) (H : AH) (Q : Flow → Shared → Prop) : Prop where
  go : ∀ {f : Flow} {g' : Gh} {V' : Pm} {s' : Shared}, g.Le g' → Keep env V V' → FR X g' V' ns env ls → Rel X g' V' H s' → FlR X g' fl f → Q f s'
noncomputable def SX (L : Lg) (sc : Scope) (ns : List Str) (ss : List Stmt) (is : IS) : Prop := ∀ {A : Around} {E : Value → Shared → Prop} {s : Shared} {g : Gh} {V : Pm} {H : AH} {env : Env} {ls : List AV} {fl : AF} {ls' : List AV} {H' : AH} {Q : Flow → Shared → Prop},
  At L sc ns A env g V ls H s → evS L.cf L.n is ls H = some (fl, ls', H') → Kx L.X ns env g V fl ls' H' Q → wpAny L.X.M A (execs ss env) Q E s
section
variable {X : Wo} {ns : List Str} {env : Env} {g g' : Gh} {V V' : Pm} {fl fl' : AF} {ls ls' : List AV} {H H' : AH} {Q : Flow → Shared → Prop}
theorem Kx.up (l : g.Le g') (kp : Keep env V V') (k : Kx X ns env g V fl ls H Q) : Kx X ns env g' V' fl ls H Q := ⟨fun m kq => k.go (l.trans m) fun b hb => (kq b hb).trans (kp b hb)⟩
theorem Kx.of (k : Kx X ns env g V fl' ls' H' Q) (e : some (fl, ls, H) = some (fl', ls', H')) : Kx X ns env g V fl ls H Q := by
  have e := Option.some.inj e
  have e1 := (Prod.mk.inj e).1
  have e2 := Prod.mk.inj (Prod.mk.inj e).2
  exact e1 ▸ e2.1 ▸ e2.2 ▸ k
end
variable {L : Lg} {sc : Scope} {ns : List Str} {x y z : PySem.Expr} {pos tp : Pos} {a b c : IE} {t : IT} {rest b1 b2 : List Stmt} {i1 i2 ir : IS} {A : Around} {E : Value → Shared → Prop} {s : Shared}

theorem Kx.here {env : Env} {g : Gh} {V : Pm} {H : AH} {ls : List AV} {fl : AF} {f : Flow} {Q : Flow → Shared → Prop} (k : Kx L.X ns env g V fl ls H Q) (t : At L sc ns A env g V ls H s) (r : FlR L.X g fl f) : Q f s := k.go .refl (fun _ _ => rfl) t.fr t.rel r
theorem sx_nil : SX L sc ns [] .nil := fun t e k => wpAny_execs_nil ((k.of e).here t rfl)
theorem sx_bad {ss : List Stmt} : SX L sc ns ss .bad := fun _ e _ => clash rfl e
theorem sx_ret (ha : SE L sc ns x a) : SX L sc ns (.Return (some x) pos :: rest) (.ret a) := fun t e k => bnd e fun p e1 e =>
  wpAny_execs_cons (wpAny_Return_some (ha t e1 ⟨fun l R r => ((k.of e).up l fun _ _ => rfl).here (t.next l R) ⟨_, rfl, r⟩⟩))
theorem sx_ret0 : SX L sc ns (.Return none pos :: rest) (.ret (.lit .non)) := fun t e k => wpAny_execs_cons (wpAny_Return_none ((k.of e).here t ⟨_, rfl, rfl⟩))
theorem sx_cont : SX L sc ns (.Continue pos :: rest) .cont := fun t e k => wpAny_execs_cons (PySem.wpAny_Continue ((k.of e).here t rfl))

noncomputable def notComp (e : PySem.Expr) : Bool := match e.ctorIdx with
  | 8 => false | 9 => false | 10 => false
  | _ => true
theorem swaps_plain (h : notComp x = true) (t : Option PySem.Expr) (line : Nat) (env : Env) : swapsWith x t line env = pure false := by
  cases x <;> first | rfl | exact nomatch h
theorem swaps_sole (h : notComp x = true) (t : PySem.Expr) (line : Nat) (env : Env) : swapsWithSole [t] x line env = pure false := by
  show swapsWith x (some t) line env = pure false
  exact swaps_plain h _ _ _
theorem sx_expr (hk : sc.kind = .function) (hc : notComp x = true) (ha : SE L sc ns x a) (hr : SX L sc ns rest ir) : SX L sc ns (.Expr x pos :: rest) (.expr a ir) := fun {_ _ _ _ _ _ env _ _ _ _ _} t e k => bnd e fun p e1 e => wpAny_execs_cons (by
  rw [exec_Expr env x pos (by unfold interactive; rw [t.sc, hk]; rfl) (swaps_plain hc _ _ _)]
  exact wpAny_bind (wpAny_standAt (wpAny_bind (ha t e1 ⟨fun l R r => wpAny_dropValue (hr (t.next l R) e (k.up l fun _ _ => rfl))⟩))))
theorem sx_asgA {d f : Nat} {f' : Str} (C : Cx L.X) (hx : (L.X.B.T.flds d)[f]? = some f') (hc : notComp y = true) (ho : SE L sc ns x a) (hv : SE L sc ns y b) (hr : SX L sc ns rest ir) : SX L sc ns (.Assign [.Attribute x f' tp] y pos :: rest) (.asgA d f a b ir) := fun t e k =>
  bnd e fun p e1 e => bnd e fun q e2 e => bnd e fun H3 e3 e => wpAny_execs_cons (wpAny_Assign_stores (hv t e1 ⟨fun l R r => by
    show wpAny _ _ (do
          let ov ← holding [_] (eval x _)
          standAt tp.atName
          holding [_, ov] (setAttr ov f' _)
          release [_, ov] []) _ _ _
    exact wpAny_bind (wpAny_holding (ho (t.next l R) e2 ⟨fun l2 R2 r2 => wpAny_bind (wpAny_standAt (wpAny_bind (wpAny_holding (snd_setAttr C R2 r2 (r.up l2) e3 hx fun R3 => wpAny_release' (hr ⟨t.ok, t.sc, t.fr.up (l.trans l2) fun _ _ => rfl, R3⟩ e (k.up (l.trans l2) fun _ _ => rfl))))))⟩))⟩) (swaps_sole hc _ _ _) (by unfold swappedStores; rfl))
theorem sx_asgS (hi : notSlice z = true) (hc : notComp y = true) (ho : SE L sc ns x a) (hix : SE L sc ns z b) (hv : SE L sc ns y c) (hr : SX L sc ns rest ir) : SX L sc ns (.Assign [.Subscript x z tp] y pos :: rest) (.asgS a b c ir) := fun {_ _ _ _ _ _ env _ _ _ _ _} t e k =>
  bnd e fun p e1 e => bnd e fun q e2 e => bnd e fun u e3 e => bnd e fun H4 e4 e => wpAny_execs_cons (wpAny_Assign_stores (hv t e1 ⟨fun {_ _ cv} l R r => by
    show wpAny _ _ (assign (.Subscript x z tp) env cv) _ _ _
    rw [assign_Subscript]
    exact wpAny_bind (wpAny_holding (ho (t.next l R) e2 ⟨fun l2 R2 r2 => wpAny_bind (wpAny_holding (hix (t.next (l.trans l2) R2) e3 ⟨fun l3 R3 r3 => wpAny_bind (wpAny_standAt (wpAny_bind (wpAny_holding (snd_setItem R3 (r2.up l3) r3 (r.up (l2.trans l3)) e4 fun R4 => wpAny_release' (hr ⟨t.ok, t.sc, t.fr.up ((l.trans l2).trans l3) fun _ _ => rfl, R4⟩ e (k.up ((l.trans l2).trans l3) fun _ _ => rfl))))))⟩))⟩))⟩) (swaps_sole hc _ _ _) (by unfold swappedStores; rfl))

theorem Kx.seq {env : Env} {g : Gh} {V : Pm} {p : AF × List AV × AH} {fl : AF} {ls' : List AV} {H' : AH} {Q : Flow → Shared → Prop} (hr : SX L sc ns rest ir) (ok : AOk L.n A) (hs : env.scope = sc)
    (e : (match p.1 with | .nxt => evS L.cf L.n ir p.2.1 p.2.2 | _ => some p) = some (fl, ls', H')) (k : Kx L.X ns env g V fl ls' H' Q) :
    Kx L.X ns env g V p.1 p.2.1 p.2.2 (fun f s' => match f with | .next => wpAny L.X.M A (execs rest env) Q E s' | f => Q f s') := ⟨fun l kp Fr R r => by
  obtain ⟨fl1, ls1, H1⟩ := p
  cases fl1 with
  | nxt => rw [show _ = Flow.next from r]; exact hr ⟨ok, hs, Fr, R⟩ e (k.up l kp)
  | cnt => rw [show _ = Flow.cont from r]; exact (k.of e).go l kp Fr R rfl
  | ret v =>
    obtain ⟨c, rfl, r⟩ := r
    exact (k.of e).go l kp Fr R ⟨c, rfl, r⟩⟩
theorem sx_ite (ht : SB L sc ns t (fun env => isTrue x env (eval x env))) (h1 : SX L sc ns b1 i1) (h2 : SX L sc ns b2 i2) (hr : SX L sc ns rest ir) : SX L sc ns (.If x b1 b2 pos :: rest) (.ite t i1 i2 ir) := fun t e0 k => bnd e0 fun p e1 e' => bnd e' fun q e2 e3 =>
  wpAny_execs_cons (wpAny_If (ht t e1 ⟨fun l R => by
    obtain ⟨d, _⟩ := p
    cases d with
    | true => exact h1 (t.next l R) e2 (Kx.seq hr t.ok t.sc e3 (k.up l fun _ _ => rfl))
    | false => exact h2 (t.next l R) e2 (Kx.seq hr t.ok t.sc e3 (k.up l fun _ _ => rfl))⟩))
end Mini
end

section
open PySem PySem.W PyProof.Rows PySem.Calls
namespace Mini

noncomputable def dEnv (sc : Scope) : Env := { scope := sc, locals := 0, globals := 0, cells := [] }
theorem swapsW_env (v t : PySem.Expr) (line : Nat) (env : Env) : swapsWith v (some t) line env = swapsWith v (some t) line (dEnv env.scope) := by
  rfl
theorem stores_env (ts : List PySem.Expr) (v : PySem.Expr) (env : Env) : swappedStores ts v env = swappedStores ts v (dEnv env.scope) := by
  unfold swappedStores
  rfl
noncomputable def chkStrs (names : List Str) : List Nat → List Str → Bool
  | [], xs => xs.isEmpty
  | k :: ks, xs => match xs with
    | [] => false
    | x :: xs => names[k]? == some x && chkStrs names ks xs
theorem chkStrs_tg {names : List Str} {env : Env} : ∀ {ks : List Nat} {xs : List Str}, chkStrs names ks xs = true → Tg names env ks (xs.map fun n => bindName env n) ∧ xs.length = ks.length
  | [], [], _ => ⟨rfl, rfl⟩
  | [], _ :: _, h => nomatch h
  | _ :: _, [], h => nomatch h
  | k :: ks, x :: xs, h =>
    have h := Bool.and_eq_true_iff.mp h
    have ih := chkStrs_tg (env := env) h.2
    ⟨⟨x, _, _, rfl, beq_iff_eq.mp h.1, fun h => bindName_ h, ih.1⟩, congrArg (· + 1) ih.2⟩
noncomputable def backOk (ns : List Str) (xs : List Str) : Tgt → Bool
  | .many ks => chkStrs ns ks.reverse xs.reverse && decide ks.Nodup
  | .one _ => false
noncomputable def storesOk (sc : Scope) (ns : List Str) (target value : PySem.Expr) (t : Tgt) (line : Nat) : Bool :=
  pureOf (swapsWith value (some target) line (dEnv sc)) == some false && chkTgt ns target t && (match pureOf (swappedStores [target] value (dEnv sc)) with
    | some none => true
    | some (some xs) => backOk ns xs t
    | none => false)
theorem each_one {names : List Str} {target : PySem.Expr} {t : Tgt} {env : Env} (h : chkTgt names target t = true) : (assignEach [target] env).map (·.2) = [assign target env] := by
  cases t with
  | one k => obtain ⟨x, pos, rfl, _⟩ := isNm_of h; rfl
  | many ks => obtain ⟨es, n, pos, rfl, _⟩ := chkMany_of h; rfl

variable {L : Lg} {sc : Scope} {ns : List Str} {x y z : PySem.Expr} {pos tp : Pos} {a b c : IE} {t : IT} {rest body : List Stmt} {ib ir : IS} {A : Around} {E : Value → Shared → Prop} {s : Shared}

theorem sx_asg {tg : Tgt} (hk : storesOk sc ns x y tg pos.line = true) (ha : SE L sc ns y a) (hr : SX L sc ns rest ir) : SX L sc ns (.Assign [x] y pos :: rest) (.asg tg a ir) := fun {_ _ _ _ _ _ env _ _ _ _ _} t e0 k => bnd e0 fun p e1 e' => bnd e' fun ls1 e2 e3 => wpAny_execs_cons (by
  have hk := Bool.and_eq_true_iff.mp hk
  have h12 := Bool.and_eq_true_iff.mp hk.1
  have h3 := hk.2
  rw [PyProof.Rows.exec_Assign]
  refine wpAny_bind (wpAny_standAt ?_)
  rw [show swapsWithSole [x] y pos.line env = swapsWith y (some x) pos.line env from rfl, swapsW_env, t.sc, of_pureOf (beq_iff_eq.mp h12.1)]
  refine wpAny_bind (wpAny_pure ?_)
  rw [if_neg (by decide)]
  refine wpAny_bind (ha t e1 ⟨fun {g' s' cv} l R r => ?_⟩)
  rw [stores_env, t.sc]
  have fr := t.fr.up l fun _ _ => rfl
  have own : ∀ {ks}, InW ns env (Own env) ks := fun _ _ _ _ q => q.own
  cases q : pureOf (swappedStores [x] y (dEnv sc)) with
  | none => rw [q] at h3; exact nomatch h3
  | some o =>
    rw [of_pureOf q]
    rw [q] at h3
    refine wpAny_bind (wpAny_pure ?_)
    cases o with
    | none =>
      show wpAny _ _ (do assignAll cv ((assignEach [x] env).map (·.2)); pure Flow.next) _ _ _
      rw [each_one h12.2]
      exact wpAny_bind (snd_assign t.ok.1 h12.2 own R fr r e2 ⟨fun R' Fr' kp => wpAny_pure (hr ⟨t.ok, t.sc, Fr', R'⟩ e3 (k.up l kp))⟩)
    | some xs =>
      cases tg with
      | one _ => exact nomatch h3
      | many ks =>
        have h3 := Bool.and_eq_true_iff.mp h3
        have tt := chkStrs_tg (env := env) h3.1
        refine bnd e2 fun vs ev e4 => ?_
        show wpAny _ _ (do rule "assign.swapped-stores"; let items ← unpackItems cv xs.length none; assignInOrder (xs.reverse.map fun n => bindName env n) items.reverse; pure Flow.next) _ _ _
        refine wpAny_bind (wpAny_rule (wpAny_bind (snd_unpack (v := .tup vs) t.ok.1 R (vT ev r) ?_ fun R2 rs => ?_)))
        · have := tt.2
          rw [List.length_reverse, List.length_reverse] at this
          exact this.trans (bindMany_len e4)
        · exact wpAny_bind (snd_inOrder tt.1 own rs.rev (bindMany_rev (of_decide_eq_true h3.2) e4) fr R2 ⟨fun R' Fr' kp => wpAny_pure (hr ⟨t.ok, t.sc, Fr', R'⟩ e3 (k.up l kp))⟩))
end Mini
end

section
open PySem PySem.W PyProof.Rows PySem.Calls
namespace Mini
variable {L : Lg} {sc : Scope} {ns : List Str} {x y z : PySem.Expr} {pos tp : Pos} {a b c : IE} {t : IT} {rest body : List Stmt} {ib ir : IS} {A : Around} {E : Value → Shared → Prop} {s : Shared}

structure Mid (L : Lg) (sc : Scope) (ns : List Str) (A : Around) (env : Env) (g : Gh) (V : Pm) (ls : List AV) (H : AH) (g1 : Gh) (V1 : Pm) (s : Shared) : Prop extends At L sc ns A env g1 V1 ls H s where
  l : g.Le g1
  kp : Keep env V V1
theorem sx_whl (ht : SB L sc ns t (fun env => isTrue x env (eval x env))) (hb : SX L sc ns body ib) (hr : SX L sc ns rest ir) : SX L sc ns (.While x body [] pos :: rest) (.whl t ib ir) := fun {A _ _ g V _ env _ _ _ _ _} t0 e0 k => bnd e0 fun p e1 e2 =>
  have kk := Kx.seq hr t0.ok t0.sc e2 k
  wpAny_execs_cons (wpAny_While (codeAny_whileLoop (fun j s' => ∃ lsc Hc g1 V1, Mid L sc ns A env g V lsc Hc g1 V1 s' ∧ loopW (evT L.cf L.n t) (evS L.cf L.n ib) j lsc Hc = some p) (fun j s' q => by
    obtain ⟨lsc, Hc, g1, V1, m, el⟩ := q
    cases j with
    | zero => exact clash rfl el
    | succ j =>
      refine bnd el fun q q1 q2 => ht m.toAt q1 ⟨fun l2 R2 => ?_⟩
      obtain ⟨d, Hq⟩ := q
      have t2 := m.toAt.next l2 R2
      cases d with
      | false =>
        rw [if_neg Bool.false_ne_true]
        exact wpAny_execs_nil ((kk.of q2).go (m.l.trans l2) m.kp t2.fr R2 rfl)
      | true =>
        rw [if_pos rfl]
        refine bnd q2 fun w w1 w2 => hb t2 w1 ⟨fun {f g3 V3 s3} l3 kp3 Fr3 R3 r3 => ?_⟩
        have l4 := m.l.trans (l2.trans l3)
        have kp4 : Keep env V V3 := fun b hb => (kp3 b hb).trans (m.kp b hb)
        obtain ⟨fl, ls3, H3⟩ := w
        cases fl with
        | nxt => rw [show f = .next from r3]; exact ⟨j, Nat.lt_succ_self j, ls3, H3, g3, V3, ⟨⟨t0.ok, t0.sc, Fr3, R3⟩, l4, kp4⟩, w2⟩
        | cnt => rw [show f = .cont from r3]; exact ⟨j, Nat.lt_succ_self j, ls3, H3, g3, V3, ⟨⟨t0.ok, t0.sc, Fr3, R3⟩, l4, kp4⟩, w2⟩
        | ret v =>
          obtain ⟨cv, rfl, r⟩ := r3
          exact (kk.of w2).go l4 kp4 Fr3 R3 ⟨cv, rfl, r⟩)
    L.n ⟨_, _, _, _, ⟨t0, .refl, fun _ _ => rfl⟩, e1⟩))
end Mini
end

section
open PySem PySem.W PyProof.Rows PySem.Calls
namespace Mini
variable {L : Lg} {sc : Scope} {ns : List Str} {x y z : PySem.Expr} {pos tp : Pos} {a b c : IE} {t : Tgt} {rest body : List Stmt} {ib ir : IS} {A : Around} {E : Value → Shared → Prop} {s : Shared}

noncomputable def notSet (e : PySem.Expr) : Bool := e.ctorIdx != 7
theorem fold_plain (h : notSet x = true) (env : Env) (v : Value) : foldedSetIterable x env v = pure v := by
  cases x <;> first | rfl | exact nomatch h
theorem loopF_first {sr : Src} {body : List AV → AH → Option (AF × List AV × AH)} : ∀ {n i : Nat} {ls : List AV} {H : AH} {p}, loopF sr t body n i ls H = some p → (nextOf H i sr).isSome = true
  | 0, _, _, _, _, e => clash rfl e
  | _ + 1, _, _, _, _, e => bnd e fun x ex _ => ex ▸ rfl
noncomputable def Pm.off (V : Pm) (ws : List Addr) : Pm := fun b => if b ∈ ws then none else V b
theorem Pm.off_in {V : Pm} {ws : List Addr} {b : Addr} (h : b ∈ ws) : V.off ws b = none := if_pos h
theorem Pm.off_out {V : Pm} {ws : List Addr} {b : Addr} (h : b ∉ ws) : V.off ws b = V b := if_neg h
theorem Pm.off_some {V : Pm} {ws : List Addr} {b : Addr} {o : Obj} (h : V.off ws b = some o) : V b = some o := by
  by_cases q : b ∈ ws
  · exact clash (Pm.off_in q) h
  · exact (Pm.off_out q).symm.trans h

structure Mit (L : Lg) (sc : Scope) (ns : List Str) (A : Around) (env : Env) (g : Gh) (V : Pm) (ls : List AV) (H : AH) (it : Addr) (ws : List Addr) (sr : Src) (i : Nat) (g1 : Gh) (V1 : Pm) (s : Shared) : Prop extends At L sc ns A env g1 V1 ls H s where
  l : g.Le g1
  kp : ∀ b, ¬ Own env b → b ∉ ws → V1 b = V b
  it : ItR L.X g1 V1 it ws sr i
theorem Kx.off {X : Wo} {env : Env} {g g' : Gh} {V V' : Pm} {fl : AF} {ls : List AV} {H : AH} {Q : Flow → Shared → Prop} {f : Flow} {ws : List Addr} (k : Kx X ns env g V fl ls H Q) (l : g.Le g') (hn : ∀ b ∈ ws, V b = none) (kp : ∀ b, ¬ Own env b → b ∉ ws → V' b = V b) (hw : ∀ b, Own env b → b ∉ ws) (Fr : FR X g' V' ns env ls) (R : Rel X g' V' H s) (r : FlR X g' fl f) : Q f s :=
  k.go l (fun b hb => by
    by_cases q : b ∈ ws
    · exact (Pm.off_in q).trans (hn b q).symm
    · exact (Pm.off_out q).trans (kp b hb q)) (Fr.up .refl fun b hb => Pm.off_out (hw b hb)) (R.weak Pm.off_some) r
theorem sx_for (ht : chkTgt ns x t = true) (hset : notSet y = true) (ha : SE L sc ns y a) (hb : SX L sc ns body ib) (hr : SX L sc ns rest ir) : SX L sc ns (.For x y body [] pos :: rest) (.for_ t a ib ir) := fun {A _ _ g V _ env _ _ _ _ _} t0 e0 k =>
  bnd e0 fun q e1 e' => bnd e' fun sr es e'' => bnd e'' fun p el e3 =>
  have kk := Kx.seq hr t0.ok t0.sc e3 k
  wpAny_execs_cons (wpAny_For (ha t0 e1 ⟨fun {g0 s0 cv} l0 R0 r0 => snd_iter R0 r0 es (loopF_first el) ⟨fun {it ws V1 g1 s1} l1 R1 I hit hn kp1 hone => by
    have hw : ∀ b, Own env b → b ∉ ws := fun b hb hq => (t0.fr.own hb).elim fun _ z => clash (hn b hq) z
    refine codeAny_forLoop_any (fun j s' => ∃ i lsc Hc g2 V2, Mit L sc ns A env g V lsc Hc it ws sr i g2 V2 s' ∧ loopF sr t (evS L.cf L.n ib) j i lsc Hc = some p) (fun j s' q => ?_) L.n
      ⟨0, _, _, g1, V1, ⟨⟨t0.ok, t0.sc, t0.fr.up (l0.trans l1) fun b hb => kp1 b (hw b hb), R1⟩, l0.trans l1, fun b _ hb => kp1 b hb, I⟩, el⟩
    obtain ⟨i, lsc, Hc, g2, V2, m, ek⟩ := q
    cases j with
    | zero => exact clash rfl ek
    | succ j =>
      refine bnd ek fun nx nx1 nx2 => ?_
      cases nx with
      | none =>
        refine snd_end t0.ok.1 m.rel m.it nx1 fun {V3 s3} R3 kp3 => wpAny_execs_nil ((kk.of nx2).off m.l hn (fun b h1 h2 => (kp3 b h2).trans (m.kp b h1 h2)) hw (m.fr.up .refl fun b hb => kp3 b (hw b hb)) R3 rfl)
      | some v =>
        refine snd_next t0.ok.1 m.rel (.inl (hone.resolve_right fun z => nomatch z)) m.it nx1 fun {V3 g3 s3 cv} l3 R3 I3 kp3 rv => bnd nx2 fun ls4 b1 nx3 => bnd nx3 fun w w1 w2 => ?_
        refine snd_assign t0.ok.1 ht (fun _ _ _ _ q => q.own) R3 (m.fr.up l3 fun b hb => kp3 b (hw b hb)) rv b1 ⟨fun {V4 s4} R4 Fr4 kp4 => hb ⟨t0.ok, t0.sc, Fr4, R4⟩ w1 ⟨fun {f g5 V5 s5} l5 kp5 Fr5 R5 r5 => ?_⟩⟩
        have l6 := m.l.trans (l3.trans l5)
        have kp6 : ∀ b, ¬ Own env b → b ∉ ws → V5 b = V b := fun b h1 h2 => (kp5 b h1).trans ((kp4 b h1).trans ((kp3 b h2).trans (m.kp b h1 h2)))
        have I6 : ItR L.X g5 V5 it ws sr (i + 1) := I3.up l5 fun b hb => have no := fun z => hw b z hb; (kp5 b no).trans (kp4 b no)
        obtain ⟨fl, ls7, H7⟩ := w
        cases fl with
        | nxt => rw [show f = .next from r5]; exact ⟨j, Nat.lt_succ_self j, i + 1, ls7, H7, g5, V5, ⟨⟨t0.ok, t0.sc, Fr5, R5⟩, l6, kp6, I6⟩, w2⟩
        | cnt => rw [show f = .cont from r5]; exact ⟨j, Nat.lt_succ_self j, i + 1, ls7, H7, g5, V5, ⟨⟨t0.ok, t0.sc, Fr5, R5⟩, l6, kp6, I6⟩, w2⟩
        | ret v =>
          obtain ⟨cv, rfl, r⟩ := r5
          exact (kk.of w2).off l6 hn kp6 hw Fr5 R5 ⟨cv, rfl, r⟩⟩⟩) (fun v => fold_plain hset env v))
end Mini
end

section
open PySem PySem.W PyProof.Rows PySem.Calls
namespace Mini

theorem relabel_free {env : Env} : ∀ {names : List (Str × NameKind)} {x : Str}, names.lookup x = some .free →
    (names.map fun (n, k) => if (k == NameKind.free && env.scope.kind == .function && env.kindOf n == some .cell) then (n, NameKind.cell) else (n, k)).lookup x = some .cell ∨
    (names.map fun (n, k) => if (k == NameKind.free && env.scope.kind == .function && env.kindOf n == some .cell) then (n, NameKind.cell) else (n, k)).lookup x = some .free
  | [], x, h => clash rfl h
  | (n, k) :: r, x, h => by
    have ih := @relabel_free env r x
    rw [List.map_cons]
    dsimp only
    rw [List.lookup_cons] at h
    by_cases hc : (k == NameKind.free && env.scope.kind == .function && env.kindOf n == some .cell) = true
    · rw [if_pos hc, List.lookup_cons]
      cases hx : x == n with
      | true => exact .inl rfl
      | false => rw [hx] at h; exact ih h
    · rw [if_neg hc, List.lookup_cons]
      cases hx : x == n with
      | true => rw [hx] at h; exact .inr h
      | false => rw [hx] at h; exact ih h

noncomputable def clList (env : Env) : List (Str × NameKind) → List (Str × Addr) → List (Str × Addr)
  | [], acc => acc
  | (x, k) :: r, acc => clList env r (if k == .free then (x, (env.cells.lookup x).getD 0) :: acc else acc)
theorem clos_loop {env : Env} (f : Str × NameKind → List (Str × Addr) → Sem (ForInStep (List (Str × Addr)))) (hf : ∀ x k a acc, (k = NameKind.free → env.cells.lookup x = some a) → f (x, k) acc = pure (.yield (if k == .free then (x, a) :: acc else acc))) :
    ∀ (l : List (Str × NameKind)) (acc : List (Str × Addr)), (∀ p ∈ l, p.2 = .free → (env.cells.lookup p.1).isSome = true) → forIn l acc f = pure (clList env l acc)
  | [], _, _ => rfl
  | (x, k) :: r, acc, hl => by
    rw [List.forIn_cons, hf x k ((env.cells.lookup x).getD 0) acc (fun e => some_of (hl (x, k) (.head _) e) fun a ha => by rw [ha]; rfl), pure_bind]
    exact clos_loop f hf r _ fun p hp => hl p (.tail _ hp)
theorem closure_of {env : Env} {scope : Scope} (h : ∀ p ∈ scope.names, p.2 = .free → (env.cells.lookup p.1).isSome = true) : closureFor scope env = pure (clList env scope.names []) := by
  simp only [closureFor]
  rw [clos_loop (env := env) _ (fun x k a acc hk => by
    by_cases hc : k = NameKind.free
    · subst hc
      simp only [cellOf, hk rfl]
      rfl
    · have : (k == NameKind.free) = false := by simpa using hc
      simp only [this, Bool.false_eq_true, if_false]) scope.names [] h]
  rfl
theorem clList_mem {env : Env} : ∀ {l : List (Str × NameKind)} {acc : List (Str × Addr)} {p : Str × Addr}, p ∈ clList env l acc → p ∈ acc ∨ ((p.1, NameKind.free) ∈ l ∧ p.2 = (env.cells.lookup p.1).getD 0)
  | [], _, _, h => .inl h
  | (x, k) :: r, acc, p, h => by
    rcases clList_mem (l := r) h with h | h
    · by_cases hk : (k == NameKind.free) = true
      · rw [if_pos hk] at h
        rcases List.mem_cons.mp h with rfl | h
        · exact .inr ⟨beq_iff_eq.mp hk ▸ .head _, rfl⟩
        · exact .inl h
      · rw [if_neg hk] at h; exact .inl h
    · exact .inr ⟨.tail _ h.1, h.2⟩
theorem clList_has {env : Env} {x : Str} : ∀ {l : List (Str × NameKind)} {acc : List (Str × Addr)}, ((x, NameKind.free) ∈ l ∨ (acc.lookup x).isSome = true) → ((clList env l acc).lookup x).isSome = true
  | [], _, h => h.resolve_left fun z => nomatch z
  | (y, k) :: r, acc, h => by
    refine clList_has (l := r) ?_
    rcases h with h | h
    · rcases List.mem_cons.mp h with e | h
      · cases e
        right
        rw [if_pos (beq_self_eq_true _), List.lookup_cons, beq_self_eq_true]; rfl
      · exact .inl h
    · right
      split
      · rw [List.lookup_cons]; split
        · rfl
        · exact h
      · exact h

noncomputable def kindCell (k : Option NameKind) : Bool := k == some .cell || k == some .free
structure CompOk (sc : Scope) (ns : List Str) (scope : Scope) (names : List Str) (caps : List (Nat × Nat)) (t : Tgt) : Prop where
  kind : scope.kind = .function
  nocell : ∀ p ∈ scope.names, p.2 ≠ .cell
  loc : ∀ p ∈ scope.names, p.2 = .local → scope.names.lookup p.1 = some .local
  free : ∀ p ∈ scope.names, p.2 = .free → p.1 ∈ ns ∧ kindCell (sc.names.lookup p.1) = true
  nd : names.Nodup
  slot : ∀ (j : Nat) (x : Str), names[j]? = some x → (scope.names.lookup x = some .local ∧ ∀ p ∈ caps, p.1 ≠ j) ∨ (scope.names.lookup x = some .free)
  caps : ∀ p ∈ caps, ns[p.2]? = names[p.1]?
  tgt : ∀ k ∈ tgtKs t, ∀ x, names[k]? = some x → scope.names.lookup x = some .local
noncomputable def compOk (sc : Scope) (ns : List Str) (scope : Scope) (names : List Str) (caps : List (Nat × Nat)) (t : Tgt) : Bool :=
  (scope.kind == .function) && (scope.names.all (fun p => p.2 != .cell) && (scope.names.all (fun p => p.2 != .local || scope.names.lookup p.1 == some .local) &&
  (scope.names.all (fun p => p.2 != .free || (ns.contains p.1 && kindCell (sc.names.lookup p.1))) && (decide names.Nodup &&
  ((List.range names.length).all (fun j => (names[j]?).any fun x => (scope.names.lookup x == some .local && caps.all (fun p => p.1 != j)) || scope.names.lookup x == some .free) &&
  (caps.all (fun p => ns[p.2]? == names[p.1]?) && (tgtKs t).all (fun k => (names[k]?).all fun x => scope.names.lookup x == some .local)))))))
theorem and2 {a b : Bool} (h : (a && b) = true) : a = true ∧ b = true := Bool.and_eq_true_iff.mp h
theorem all2 {α : Type} {l : List α} {p : α → Bool} (h : l.all p = true) {x : α} (hx : x ∈ l) : p x = true := List.all_eq_true.mp h x hx
theorem ne_or {α : Type} [BEq α] [LawfulBEq α] {a b : α} {c : Bool} (h : (a != b || c) = true) (e : a = b) : c = true := by
  subst e; rw [bne_self_eq_false, Bool.false_or] at h; exact h
theorem compOk_of {sc : Scope} {ns : List Str} {scope : Scope} {names : List Str} {caps : List (Nat × Nat)} {t : Tgt} (h : compOk sc ns scope names caps t = true) : CompOk sc ns scope names caps t :=
  have h1 := and2 h; have h2 := and2 h1.2; have h3 := and2 h2.2; have h4 := and2 h3.2; have h5 := and2 h4.2; have h6 := and2 h5.2; have h7 := and2 h6.2
  ⟨beq_iff_eq.mp h1.1, fun p hp e => (by have := all2 h2.1 hp; rw [e] at this; exact nomatch this), fun p hp e => beq_iff_eq.mp (ne_or (all2 h3.1 hp) e),
    fun p hp e => have q := and2 (ne_or (all2 h4.1 hp) e); ⟨List.contains_iff_mem.mp q.1, q.2⟩, of_decide_eq_true h5.1, fun j x hx => by
      have q := all2 h6.1 (List.mem_range.mpr (List.getElem?_eq_some_iff.mp hx).1)
      rw [hx] at q
      rcases Bool.or_eq_true_iff.mp q with q | q
      · have q := and2 q
        exact .inl ⟨beq_iff_eq.mp q.1, fun p hp => bne_iff_ne.mp (all2 q.2 hp)⟩
      · exact .inr (beq_iff_eq.mp q),
    fun p hp => beq_iff_eq.mp (all2 h7.1 hp), fun k hk x hx => by
      have q := all2 h7.2 hk
      rw [hx] at q
      exact beq_iff_eq.mp q⟩

theorem capture_key {ls : List AV} : ∀ (cs : List (Nat × Nat)) (acc : List AV), (cs.foldl (fun acc p => acc.set p.1 (ls.getD p.2 .unb)) acc).length = acc.length ∧
    ∀ {j v}, (cs.foldl (fun acc p => acc.set p.1 (ls.getD p.2 .unb)) acc)[j]? = some v → acc[j]? = some v ∨ ∃ k, (j, k) ∈ cs ∧ v = ls.getD k .unb
  | [], acc => ⟨rfl, .inl⟩
  | p :: r, acc => by
    have ih := capture_key (ls := ls) r (acc.set p.1 (ls.getD p.2 .unb))
    refine ⟨ih.1.trans (List.length_set ..), fun {j v} h => ?_⟩
    rcases ih.2 h with h | ⟨k, h1, h2⟩
    · rcases Nat.decEq p.1 j with hne | rfl
      · rw [List.getElem?_set_ne hne] at h; exact .inl h
      · rw [List.getElem?_set_self'] at h
        exact map_of h fun z _ e => .inr ⟨p.2, .head _, e.symm⟩
    · exact .inr ⟨k, .tail _ h1, h2⟩
theorem capture_len {n : Nat} {caps : List (Nat × Nat)} {ls : List AV} : (capture n caps ls).length = n := ((capture_key caps _).1).trans List.length_replicate
theorem capture_get {n : Nat} {caps : List (Nat × Nat)} {ls : List AV} {j : Nat} {v : AV} (h : (capture n caps ls)[j]? = some v) : v = .unb ∨ ∃ k, (j, k) ∈ caps ∧ v = ls.getD k .unb :=
  ((capture_key caps _).2 h).imp (fun q => List.eq_of_mem_replicate (List.mem_of_getElem? q)) id
end Mini
end

section
open PySem PySem.W PyProof.Rows PySem.Calls
namespace Mini
variable {X : Wo} {g g' : Gh} {V V' : Pm} {H H' : AH} {s : Shared} {ns names : List Str} {env : Env} {ls : List AV} {sc scope : Scope} {caps : List (Nat × Nat)} {t : Tgt} {m : Str → Option Value} {x : Str}

theorem FR.cell (Fr : FR X g V ns env ls) (hs : env.scope = sc) (K : CompOk sc ns scope names caps t) (hx : (x, NameKind.free) ∈ scope.names) {k : Nat} (hk : ns[k]? = some x) :
    ∃ a o, env.cells.lookup x = some a ∧ Hd V a (fun ob => ob.data = .cell o) ∧ (ls.getD k .unb = .unb ∨ ∃ c, o = some c ∧ VR X.B.T g (ls.getD k .unb) c) := by
  obtain ⟨m0, _, f⟩ := Fr.ns
  have hkl : k < ls.length := by rw [Fr.len]; exact (List.getElem?_eq_some_iff.mp hk).1
  have hg : ls[k]? = some (ls.getD k .unb) := by rw [List.getD_eq_getElem?_getD, List.getElem?_eq_getElem hkl]; rfl
  obtain ⟨o, sl, ho⟩ := f hk hg
  rcases sl with ⟨hl, _⟩ | ⟨_, a, ha, d⟩
  · have h2 := (K.free _ hx rfl).2
    rw [show sc.names.lookup (x, NameKind.free).1 = some .local from hs ▸ hl] at h2
    exact nomatch h2
  · exact ⟨a, o, ha, d, ho⟩
theorem FR.cells (Fr : FR X g V ns env ls) (hs : env.scope = sc) (K : CompOk sc ns scope names caps t) : ∀ p ∈ scope.names, p.2 = .free → (env.cells.lookup p.1).isSome = true := fun (x, k) hp e => by
  obtain rfl : k = .free := e
  obtain ⟨k, hk⟩ := List.getElem?_of_mem (K.free _ hp rfl).1
  obtain ⟨a, _, ha, _⟩ := Fr.cell hs K hp hk
  exact Option.isSome_iff_exists.mpr ⟨a, ha⟩
theorem FR.comp {C : Addr} (Fr : FR X g V ns env ls) (hs : env.scope = sc) (K : CompOk sc ns scope names caps t) (hC : Hd V C (nsOb m)) (hno : ¬ Own env C) : FR X g V names (compEnvC scope (clList env scope.names []) C env) (capture names.length caps ls) := by
  have hlk : ∀ {x a}, (clList env scope.names []).lookup x = some a → (x, NameKind.free) ∈ scope.names ∧ env.cells.lookup x = some a := fun {x a} e => by
    rcases clList_mem (mem_of_lookup e) with q | ⟨q1, q2⟩
    · exact nomatch q
    · refine ⟨q1, some_of (Fr.cells hs K _ q1 rfl) fun b hb => ?_⟩
      rw [show env.cells.lookup (x, a).1 = some b from hb] at q2
      exact (show a = b from q2) ▸ hb
  have hkd : ∀ {x}, (compEnvC scope (clList env scope.names []) C env).kindOf x = (relabel scope env).names.lookup x := rfl
  refine ⟨K.kind, Fr.glob, Fr.blt, K.nd, capture_len, fun hx hy => Fr.inj (hlk hx).2 (hlk hy).2, fun {x c} hx (e : c = C) => hno (e ▸ .inr ⟨x, (hlk hx).2⟩), fun q => ?_, m, hC, fun {j x v} hx hv => ?_⟩
  · rcases q with rfl | ⟨y, hy⟩
    · exact hC.imp fun _ => And.left
    · exact Fr.own (.inr ⟨y, (hlk hy).2⟩)
  · have hcase := capture_get hv
    rcases K.slot j x hx with ⟨h1, h2⟩ | h1
    · exact ⟨m x, .inl ⟨hkd.trans (lookup_relabel_local h1), rfl⟩, hcase.imp id fun q => q.elim fun k q => absurd rfl (h2 _ q.1)⟩
    · have hmem := mem_of_lookup h1
      have kd : (compEnvC scope (clList env scope.names []) C env).kindOf x = some .cell ∨ (compEnvC scope (clList env scope.names []) C env).kindOf x = some .free := (relabel_free (env := env) h1).imp hkd.trans hkd.trans
      have at' : ∀ {a}, env.cells.lookup x = some a → (clList env scope.names []).lookup x = some a := fun ha => some_of (clList_has (env := env) (acc := []) (.inl hmem)) fun b hb => by
        rw [hb, ← ha, (hlk hb).2]
      rcases hcase with e | ⟨k, hk', e⟩
      · obtain ⟨k, hk⟩ := List.getElem?_of_mem (K.free _ hmem rfl).1
        obtain ⟨a, o, ha, d, _⟩ := Fr.cell hs K hmem hk
        exact ⟨o, .inr ⟨kd, a, at' ha, d⟩, .inl e⟩
      · obtain ⟨a, o, ha, d, r⟩ := Fr.cell hs K hmem ((K.caps _ hk').trans hx)
        exact ⟨o, .inr ⟨kd, a, at' ha, d⟩, e ▸ r⟩
theorem relabel_eq (hs : env.scope = sc) : relabel scope env = relabel scope (dEnv sc) := by subst hs; rfl
end Mini
end

section
open PySem PySem.W PyProof.Rows PySem.Calls
namespace Mini
variable {L : Lg} {sc : Scope} {ns : List Str} {A : Around} {E : Value → Shared → Prop} {s : Shared}

theorem comp_loop {X : Wo} {R : Result → Shared → Prop} {elt target iter : PySem.Expr} {ifs : List PySem.Expr} {scope : Scope} {pos : Pos} {it acc : Value} {env : Env} (I : Nat → Shared → Prop)
    (turn : ∀ n s, I n s → wpAny X.M A (pyNext it) (fun r s₁ => match r with
      | none => R (.ok .next) s₁
      | some v => wpAny X.M A (letOwnedTupleGo target it v) (fun _ s₁' => wpAny X.M A (assign target env v) (fun _ s₂ =>
          wpAny X.M A (ifsOf ifs true env) (fun ok s₃ =>
            if ok = true then wpAny X.M A (eval elt env) (fun x s₄ =>
              wpAny X.M A (call (.builtin "list.append") [acc, x]) (fun _ s₅ => ∃ m, m < n ∧ I m s₅) (notedBy X.M A env fun e s' => R (.error e) s') s₄) (notedBy X.M A env fun e s' => R (.error e) s') s₃
            else ∃ m, m < n ∧ I m s₃) (notedBy X.M A env fun e s' => R (.error e) s') s₂) (notedBy X.M A env fun e s' => R (.error e) s') s₁') (notedBy X.M A env fun e s' => R (.error e) s') s₁) (notedBy X.M A env fun e s' => R (.error e) s') s)
    (n : Nat) (h : I n s) : codeAny X.M A (.compLoop (.ListComp elt [⟨target, iter, ifs, 0⟩] scope pos) 0 it acc env) R s := by
  refine codeAny_loop rfl I (fun n s hI => ?_) n h
  show wpAny _ A ((compTurn (.ListComp elt [⟨target, iter, ifs, 0⟩] scope pos) 0 it acc env).onRaise (fun x => do noteFrame x env; theTreesLotGoes x)) _ _ s
  refine wpAny_noted ?_
  rw [compTurn_list]
  refine wpAny_bind (wpAny_standAt (wpAny_bind (wpAny_mono (turn n s hI) (fun r s₁ h₁ => ?_) fun _ _ h' => h')))
  cases r with
  | none => exact wpAny_pure h₁
  | some v =>
    refine wpAny_bind (wpAny_mono h₁ (fun _ s₁' h₁' => ?_) fun _ _ h' => h')
    refine wpAny_bind (wpAny_mono h₁' (fun _ s₂ h₂ => wpAny_bind (wpAny_mono h₂ (fun ok s₃ h₃ => ?_) fun _ _ h' => h')) fun _ _ h' => h')
    cases ok with
    | false => exact wpAny_pure ⟨rfl, h₃⟩
    | true =>
      exact wpAny_bind (wpAny_bind (wpAny_mono h₃ (fun x s₄ h₄ => wpAny_bind (wpAny_mono h₄ (fun _ s₅ h₅ => wpAny_pure (wpAny_pure ⟨rfl, h₅⟩)) fun _ _ h' => h')) fun _ _ h' => h'))

structure Mic (X : Wo) (g : Gh) (V : Pm) (D C : Addr) (it : Addr) (ws : List Addr) (sr : Src) (i : Nat) (acc : List AV) (H : AH) (g1 : Gh) (V1 : Pm) (cvs : List Value) (s : Shared) : Prop where
  l : g.Le g1
  rel : Rel X g1 V1 H s
  it : ItR X g1 V1 it ws sr i
  kp : ∀ b, b ≠ D → b ≠ C → b ∉ ws → V1 b = V b
  c : ∃ m, Hd V1 C (nsOb m)
  d : ∃ k, V1 D = some (listOb cvs k)
  rs : VRs X.B.T g1 acc cvs
theorem comp_run {elt target iter : PySem.Expr} {ifs : List PySem.Expr} {scope : Scope} {pos : Pos} {names : List Str} {caps : List (Nat × Nat)} {t : Tgt} {cond : IT} {ielt : IE} {env : Env} {ls : List AV} {p : List AV × AH} {H : AH} {it D C : Addr} {ws : List Addr} {sr : Src} {R : Result → Shared → Prop} {g : Gh} {V : Pm} {g0 : Gh} {V0 : Pm}
    (hn : L.n ≤ 1000) (hA : AOk L.n A) (hs : env.scope = sc) (K : CompOk sc ns scope names caps t) (ht : chkTgt names target t = true) (htup : ws.length = 1 ∨ isTup target = true)
    (hc : SB L (relabel scope (dEnv sc)) names cond (ifsOf ifs true)) (he : SE L (relabel scope (dEnv sc)) names elt ielt)
    (hDC : D ≠ C) (hDw : D ∉ ws) (hCw : C ∉ ws) (hown : ∀ {b}, Own env b → b ≠ D ∧ b ≠ C ∧ b ∉ ws)
    (Fr : FR L.X g V ns env ls) (m : Mic L.X g V D C it ws sr 0 [] H g0 V0 [] s)
    (e : loopC sr (turnC L.cf L.n names caps t cond ielt ls) L.n 0 [] H = some p)
    (fin : ∀ {g1 : Gh} {V1 : Pm} {cvs : List Value} {s' : Shared}, g.Le g1 → Rel L.X g1 V1 p.2 s' → (∀ b, b ≠ D → b ≠ C → b ∉ ws → V1 b = V b) → (∃ m, Hd V1 C (nsOb m)) → (∃ k, V1 D = some (listOb cvs k)) → VRs L.X.B.T g1 p.1 cvs → R (.ok .next) s') :
    codeAny L.X.M A (.compLoop (.ListComp elt [⟨target, iter, ifs, 0⟩] scope pos) 0 (.ref it) (.ref D) (compEnvC scope (clList env scope.names []) C env)) R s := by
  refine comp_loop (fun k s' => ∃ i acc Hc g1 V1 cvs, Mic L.X g V D C it ws sr i acc Hc g1 V1 cvs s' ∧ loopC sr (turnC L.cf L.n names caps t cond ielt ls) k i acc Hc = some p ∧ acc.length + k ≤ L.n) (fun k s' q => ?_) L.n ⟨0, [], H, g0, V0, [], m, e, by rw [List.length_nil, Nat.zero_add]; exact Nat.le_refl _⟩
  obtain ⟨i, acc, Hc, g1, V1, cvs, m, ek, hlen⟩ := q
  cases k with
  | zero => exact clash rfl ek
  | succ k =>
    refine bnd ek fun nx nx1 nx2 => ?_
    cases nx with
    | none =>
      refine snd_end hA.1 m.rel m.it nx1 fun {V3 s3} R3 kp3 => ?_
      have q := Option.some.inj nx2
      exact fin m.l (q ▸ R3) (fun b h1 h2 h3 => (kp3 b h3).trans (m.kp b h1 h2 h3)) (m.c.imp fun _ => Hd.mv (kp3 C hCw)) (m.d.imp fun _ => (kp3 D hDw).trans) (q ▸ m.rs)
    | some v =>
      refine snd_next hA.1 m.rel htup m.it nx1 fun {V3 g3 s3 cv} l3 R3 I3 kp3 rv => bnd nx2 fun w w1 w2 => bnd w1 fun lc b1 w3 => ?_
      obtain ⟨mC, hC⟩ := m.c
      have hC3 := Hd.mv (kp3 C hCw) hC
      have l13 := m.l.trans l3
      have kp13 : ∀ b, b ≠ D → b ≠ C → b ∉ ws → V3 b = V b := fun b h1 h2 h3 => (kp3 b h3).trans (m.kp b h1 h2 h3)
      have FrI := (Fr.up l13 fun b hb => kp13 b (hown hb).1 (hown hb).2.1 (hown hb).2.2).comp (scope := scope) (caps := caps) hs K hC3 fun z => (hown z).2.1 rfl
      have hW : InW names (compEnvC scope (clList env scope.names []) C env) (fun b => b = C) (tgtKs t) := fun hk _ hx b q => by
        have kl : (compEnvC scope (clList env scope.names []) C env).kindOf _ = some .local := lookup_relabel_local (K.tgt _ hk _ hx)
        exact q.elim And.right fun q => absurd kl q.1
      refine snd_assign hA.1 ht hW R3 FrI rv b1 ⟨fun {V4 s4} R4 Fr4 kp4 => ?_⟩
      have t4 : At L (relabel scope (dEnv sc)) names A (compEnvC scope (clList env scope.names []) C env) g3 V4 lc Hc s4 := ⟨hA, relabel_eq hs, Fr4, R4⟩
      have I4 : ItR L.X g3 V4 it ws sr (i + 1) := I3.up .refl fun b hb => kp4 b fun z => hCw (z ▸ hb)
      have kp14 : ∀ b, b ≠ D → b ≠ C → b ∉ ws → V4 b = V b := fun b h1 h2 h3 => (kp4 b h2).trans (kp13 b h1 h2 h3)
      obtain ⟨mC4, hC4, _⟩ := Fr4.ns
      obtain ⟨kd, hD⟩ := m.d
      have hD4 : V4 D = some (listOb cvs kd) := (kp4 D hDC).trans ((kp3 D hDw).trans hD)
      refine bnd w3 fun q q1 w4 => hc t4 q1 ⟨fun {g5 s5} l5 R5 => ?_⟩
      obtain ⟨d, Hq⟩ := q
      cases d with
      | false =>
        rw [if_neg Bool.false_ne_true]
        have q := Option.some.inj w4
        rw [← q] at w2
        exact ⟨k, Nat.lt_succ_self k, i + 1, acc, _, g5, V4, cvs, ⟨l13.trans l5, R5, I4.up l5 fun _ _ => rfl, kp14, ⟨mC4, hC4⟩, ⟨kd, hD4⟩, m.rs.up (l3.trans l5)⟩, w2, Nat.le_trans (Nat.le_succ _) hlen⟩
      | true =>
        rw [if_pos rfl]
        refine bnd w4 fun r r1 w5 => he (t4.next l5 R5) r1 ⟨fun {g6 s6 cy} l6 R6 ry => ?_⟩
        have q := Option.some.inj w5
        rw [← q] at w2
        have hg := R6.prv hD4
        have rs6 := m.rs.up (l3.trans (l5.trans l6))
        refine call_meets F.slot_list_append ⟨_, hg, rfl⟩ F.entry_list_append (F.args_list_append_2 _ _) (list_append _ cvs.toArray kd _ (by rw [List.size_toArray, rs6.length, sizeLine_eq]; omega)) ⟨hg, ?_⟩
        have g2 := IsL.update hg (fun x => x.push cy)
        rw [List.push_toArray] at g2
        have R7 := R6.setF (tk := s6.toks) hD4 (.update s6.heap D _) g2
        refine ⟨k, Nat.lt_succ_self k, i + 1, acc ++ [r.1], _, g6, _, cvs ++ [cy], ⟨l13.trans (l5.trans l6), R7, I4.up (l5.trans l6) fun b hb => Pm.put_ne fun z => hDw (z ▸ hb), fun b h1 h2 h3 => (Pm.put_ne h1).trans (kp14 b h1 h2 h3), ⟨mC4, hC4.mv (Pm.put_ne (Ne.symm hDC))⟩, ⟨_, Pm.put_self⟩, rs6.app ⟨_, _, rfl, ry, rfl⟩⟩, w2, ?_⟩
        rw [List.length_append, List.length_singleton]; omega
end Mini
end

section
open PySem PySem.W PyProof.Rows PySem.Calls
namespace Mini
variable {L : Lg} {sc : Scope} {ns : List Str}

noncomputable def SS (L : Lg) (sc : Scope) (ns : List Str) (en : Bool) (iter : PySem.Expr) (src : IE) : Prop :=
  ∀ {A : Around} {E : Value → Shared → Prop} {s : Shared} {g : Gh} {V : Pm} {H : AH} {env : Env} {ls : List AV} {sv : AV} {sr : Src} {H1 : AH} {Q : Value → Shared → Prop}, At L sc ns A env g V ls H s → evE L.cf L.n src ls H = some (sv, H1) → (if en then enumOf sv else srcOf sv) = some sr → (nextOf H1 0 sr).isSome = true →
    (∀ {g' : Gh}, g.Le g' → Ki L.X g' V H1 en sr Q) → wpAny L.X.M A (eval iter env) (fun x s₁ => wpAny L.X.M A (pyIter x) Q E s₁) E s
theorem ss_src {iter : PySem.Expr} {src : IE} (he : SE L sc ns iter src) : SS L sc ns false iter src := fun t e1 e2 e3 k => he t e1 ⟨fun l R r => snd_iter R r e2 e3 (k l)⟩
theorem ss_en {g : Str} {x : PySem.Expr} {gp pos : Pos} {src : IE} (C : Cx L.X) (G : Glb L.X sc g (.type "enumerate")) (hst : notStar x = true) (he : SE L sc ns x src) : SS L sc ns true (.Call (.Name g gp) [x] [] pos) src := fun t e1 e2 e3 k =>
  Call_Name rfl (ld_global C t G.k G.d G.v (snd_callWith rfl (by rw [List.all_cons, hst]; rfl) (wpAny_items_cons (he t e1 ⟨fun l R r => wpAny_items_nil ⟨R.inK C, snd_enum R r e2 (k l)⟩⟩) (star_cons hst _ _))))
theorem ItR.held {X : Wo} {g : Gh} {V : Pm} {it : Addr} {ws : List Addr} {sr : Src} {i : Nat} (r : ItR X g V it ws sr i) : ∀ b ∈ ws, ∃ o, V b = some o := by
  have one : ∀ {ρ : Obj → Prop}, Hd V it ρ → ∀ b ∈ [it], ∃ o, V b = some o := fun d b hb => List.mem_singleton.mp hb ▸ d.imp fun _ => And.left
  cases r with
  | lst _ _ d => exact one d
  | tup _ _ d => exact one d
  | str d => exact one d
  | rng _ d => exact fun b hb => List.mem_singleton.mp hb ▸ ⟨_, d⟩
  | enm _ _ d d2 => exact fun b hb => (List.mem_cons.mp hb).elim (fun e => e ▸ ⟨_, d⟩) fun hb => List.mem_singleton.mp hb ▸ d2.imp fun _ => And.left
  | heap _ d => exact one d
theorem loopC_first {sr : Src} {turn : AV → AH → Option (Option AV × AH)} : ∀ {n i : Nat} {acc : List AV} {H : AH} {p}, loopC sr turn n i acc H = some p → (nextOf H i sr).isSome = true
  | 0, _, _, _, _, e => clash rfl e
  | _ + 1, _, _, _, _, e => bnd e fun x ex _ => ex ▸ rfl

theorem comp_all {elt target iter : PySem.Expr} {ifs : List PySem.Expr} {scope : Scope} {pos p2 : Pos} {names : List Str} {caps : List (Nat × Nat)} {en m : Bool} {t : Tgt} {src : IE} {cond : IT} {ielt : IE} {use : Option (Value → Sem Unit)} {Q : Value → Shared → Prop} {env : Env} {ls : List AV} {v : AV} {A : Around} {E : Value → Shared → Prop} {s : Shared} {g : Gh} {V : Pm} {H H' : AH}
    (hn : L.n ≤ 1000) (K : CompOk sc ns scope names caps t) (ht : chkTgt names target t = true) (htup : en = false ∨ isTup target = true) (hset : notSet iter = true)
    (hsrc : SS L sc ns en iter src) (hc : SB L (relabel scope (dEnv sc)) names cond (ifsOf ifs true)) (he : SE L (relabel scope (dEnv sc)) names elt ielt)
    (t0 : At L sc ns A env g V ls H s) (e : evE L.cf L.n (.comp m names caps en t src cond ielt) ls H = some (v, H'))
    (fin : ∀ {C : Addr} {oC : Obj} {mC : Str → Option Value} {g' : Gh} {s' : Shared} {acc : Value}, g.Le g' → V C = none → nsOb mC oC → Rel L.X g' (V.put C oC) H' s' → VR L.X.B.T g' v acc → compPost L.X.M A E use Q acc C (.ok .next) s') :
    wpAny L.X.M A (comprehension (.ListComp elt [⟨target, iter, ifs, 0⟩] scope pos) scope env p2 (newList []) false (eval iter env) use) Q E s := by
  refine bnd e fun q e1 e => bnd e fun sr e2 e => bnd e fun p e3 e4 => ?_
  refine wpAny_comprehension_free (use := use) rfl (fun x => fold_plain hset env x) (closure_of (t0.fr.cells t0.sc K)) K.kind K.loc (hsrc t0 e1 e2 (loopC_first e3) fun {g1} l1 => ⟨fun {it ws V2 g2 s2} l2 R2 I2 hit hnone hkp hone => ?_⟩)
  have f := R2.free (Nat.le_refl _)
  have f1 := R2.free (Nat.le_succ s2.heap.objs.size)
  refine wpAny_newObj_type (wpAny_newFunctionEnv K.nocell (fun y hy => nomatch hy) (fun h3 hns hsb => ?_) K.kind)
  dsimp only at hns hsb ⊢
  have hz : (s2.heap.push { cls := .type "list", dict := none, data := .seq ([] : List Value).toArray }).objs.size = s2.heap.objs.size + 1 := Heap.size_push ..
  rw [hz] at hns hsb ⊢
  have ne : s2.heap.objs.size ≠ s2.heap.objs.size + 1 := Nat.ne_of_lt (Nat.lt_succ_self _)
  have hk : ∀ b o, s2.heap.get? b = some o → h3.get? b = some o := fun b o e => hsb.extBut b o (Nat.ne_of_lt (Nat.lt_succ_of_lt (Heap.lt_size e))) (keep_push _ _ (keep_push _ _ e))
  have gD : h3.get? s2.heap.objs.size = some (listOb [] 0) := hsb.extBut _ _ ne (keep_push _ _ (Heap.get?_push_size _ rfl))
  obtain ⟨oC, es, ep, gC, rC⟩ := hns
  have R3 := ((R2.ext (tk := s2.toks) hk).learn f gD).learn (a := s2.heap.objs.size + 1) ⟨f1.z, (Pm.put_ne ne.symm).trans f1.f, f1.m⟩ gC
  have hDw : s2.heap.objs.size ∉ ws := fun q => (I2.held _ q).elim fun _ z => clash f.f z
  have hCw : s2.heap.objs.size + 1 ∉ ws := fun q => (I2.held _ q).elim fun _ z => clash f1.f z
  have hVD : V s2.heap.objs.size = none := (hkp _ hDw).symm.trans f.f
  have hVC : V (s2.heap.objs.size + 1) = none := (hkp _ hCw).symm.trans f1.f
  have hown : ∀ {b}, Own env b → b ≠ s2.heap.objs.size ∧ b ≠ s2.heap.objs.size + 1 ∧ b ∉ ws := fun hb => (t0.fr.own hb).elim fun _ z => ⟨fun q => clash hVD (q ▸ z), fun q => clash hVC (q ▸ z), fun q => clash (hnone _ q) z⟩
  have l12 := l1.trans l2
  have I3 := I2.up (V' := (V2.put s2.heap.objs.size (listOb [] 0)).put (s2.heap.objs.size + 1) oC) .refl fun b hb => (Pm.put_ne fun (z : b = s2.heap.objs.size + 1) => hCw (z ▸ hb)).trans (Pm.put_ne fun (z : b = s2.heap.objs.size) => hDw (z ▸ hb))
  have loop : codeAny L.X.M A (.compLoop (.ListComp elt [⟨target, iter, ifs, 0⟩] scope pos) 0 (.ref it) (.ref s2.heap.objs.size) (compEnvC scope (clList env scope.names []) (s2.heap.objs.size + 1) env))
      (compPost L.X.M A E use Q (.ref s2.heap.objs.size) (s2.heap.objs.size + 1)) { s2 with heap := h3 } := by
    refine comp_run (ws := ws) (sr := sr) (g := g) (V := V) (g0 := g2) hn t0.ok t0.sc K ht (hone.elim .inl fun z => .inr (htup.resolve_left fun y => Bool.noConfusion (y.symm.trans z))) hc he ne hDw hCw hown t0.fr
      ⟨l12, R3, I3, fun b h1 h2 h3 => (Pm.put_ne h2).trans ((Pm.put_ne h1).trans (hkp b h3)), ⟨_, oC, Pm.put_self, es, ep, rC⟩, ⟨0, (Pm.put_ne ne).trans Pm.put_self⟩, rfl⟩ e3 ?_
    intro g4 V4 cvs s4 l4 R4 kp4 hC4 hD4 rs4
    obtain ⟨kD, hD4⟩ := hD4
    obtain ⟨mC, oC', hC4, rC4⟩ := hC4
    have sub : ∀ {b o}, V.put (s2.heap.objs.size + 1) oC' b = some o → (V4.del s2.heap.objs.size) b = some o := fun {b o} q => Pm.put_cases q (fun h1 h2 => h1 ▸ h2 ▸ (Pm.del_ne ne.symm).trans hC4) fun h1 h2 => by
      have n1 : b ≠ s2.heap.objs.size := fun z => clash hVD (z ▸ h2)
      exact (Pm.del_ne n1).trans ((kp4 b n1 h1 fun z => clash (hnone b z) h2).trans h2)
    cases m with
    | false =>
      have q := Prod.mk.inj (Option.some.inj e4)
      have lf := Gh.frz_le (o := listOb cvs kD) (R4.zf hD4)
      exact fin (l4.trans lf) hVC rC4 (q.2 ▸ (R4.freeze hD4).weak sub) (q.1 ▸ ⟨_, cvs, kD, rfl, Pm.put_self, rs4.up lf⟩)
    | true =>
      have q := Prod.mk.inj (Option.some.inj e4)
      refine fin (l4.trans Gh.add_le) hVC rC4 (q.2 ▸ (R4.give (x := s2.heap.objs.size) (ao := .list p.1) hD4 ⟨rfl, cvs, kD, R4.prv hD4, rs4.up Gh.add_le⟩).weak sub) (q.1 ▸ ⟨_, s2.heap.objs.size, rfl, by rw [← R4.len]; exact List.getElem?_concat_length⟩)
  exact codeAny_compStart_list loop (I3.self R3 loop)
end Mini
end

section
open PySem PySem.W PyProof.Rows PySem.Calls
namespace Mini
variable {L : Lg} {sc : Scope} {ns : List Str}
theorem Hd.ns' {X : Wo} {g : Gh} {V : Pm} {H : AH} {s : Shared} {a : Addr} {m : Str → Option Value} (R : Rel X g V H s) (d : Hd V a (nsOb m)) : s.heap.Ns a m := d.elim fun o q => q.2.elim fun es p => p.elim fun ep p => ⟨o, es, ep, R.prv q.1, p⟩
theorem se_comp {elt target iter : PySem.Expr} {ifs : List PySem.Expr} {scope : Scope} {pos : Pos} {names : List Str} {caps : List (Nat × Nat)} {en m : Bool} {t : Tgt} {src : IE} {cond : IT} {ielt : IE}
    (hn : L.n ≤ 1000) (K : CompOk sc ns scope names caps t) (ht : chkTgt names target t = true) (htup : en = false ∨ isTup target = true) (hset : notSet iter = true)
    (hsrc : SS L sc ns en iter src) (hc : SB L (relabel scope (dEnv sc)) names cond (ifsOf ifs true)) (he : SE L (relabel scope (dEnv sc)) names elt ielt) :
    SE L sc ns (.ListComp elt [⟨target, iter, ifs, 0⟩] scope pos) (.comp m names caps en t src cond ielt) := fun {_ _ _ _ V _ _ _ _ _ _} t0 e k => by
  rw [arm_eval_ListComp]
  refine comp_all (use := none) hn K ht htup hset hsrc hc he t0 e fun {C oC mC g' s' acc} l hC hm R r => ⟨mC, Hd.ns' R ⟨oC, Pm.put_self, hm⟩, fun h' hb => ?_⟩
  refine k.go l ((R.drop (tk := s'.toks) Pm.put_self hb.extBut).weak fun {b o} q => ?_) r
  have n : b ≠ C := fun z => clash hC (z ▸ q)
  exact (Pm.del_ne n).trans ((Pm.put_ne n).trans q)
end Mini
end

section
open PySem PySem.W PyProof.Rows PySem.Calls
namespace Mini
variable {L : Lg} {sc : Scope} {ns : List Str}
noncomputable def isNone (sc : Scope) (target value : PySem.Expr) (line : Nat) : Bool := pureOf (swapsWith value (some target) line (dEnv sc)) == some true
theorem sx_asgC {y : Str} {py : Pos} {elt target iter : PySem.Expr} {ifs : List PySem.Expr} {scope : Scope} {cpos pos : Pos} {rest : List Stmt} {j : Nat} {names : List Str} {caps : List (Nat × Nat)} {en m : Bool} {t : Tgt} {src : IE} {cond : IT} {ielt : IE} {ir : IS}
    (hn : L.n ≤ 1000) (K : CompOk sc ns scope names caps t) (ht : chkTgt names target t = true) (htup : en = false ∨ isTup target = true) (hset : notSet iter = true)
    (hsrc : SS L sc ns en iter src) (hc : SB L (relabel scope (dEnv sc)) names cond (ifsOf ifs true)) (he : SE L (relabel scope (dEnv sc)) names elt ielt)
    (hsw : isNone sc (.Name y py) (.ListComp elt [⟨target, iter, ifs, 0⟩] scope cpos) pos.line = true) (hy : ns[j]? = some y) (hr : SX L sc ns rest ir) :
    SX L sc ns (.Assign [.Name y py] (.ListComp elt [⟨target, iter, ifs, 0⟩] scope cpos) pos :: rest) (.asg (.one j) (.comp m names caps en t src cond ielt) ir) := fun {A E _ _ V _ env _ _ _ _ Q} t0 e0 k => bnd e0 fun p e1 e' => bnd e' fun ls1 e2 e3 => iff' e2 fun _ e2 => wpAny_execs_cons (by
  rw [PyProof.Rows.exec_Assign]
  refine wpAny_bind (wpAny_standAt ?_)
  rw [show swapsWithSole [PySem.Expr.Name y py] _ pos.line env = swapsWith _ (some (.Name y py)) pos.line env from rfl, swapsW_env, t0.sc, of_pureOf (beq_iff_eq.mp hsw)]
  refine wpAny_bind (wpAny_pure ?_)
  rw [if_pos rfl]
  refine wpAny_bind ?_
  show wpAny _ A (comprehension _ scope env _ (newList []) false (eval iter env) (some fun v => assignAll v ((assignEach [PySem.Expr.Name y py] env).map (·.2))) >>= fun _ => pure ()) _ _ _
  refine wpAny_bind (comp_all (Q := fun _ s' => _) hn K ht htup hset hsrc hc he t0 e1 fun {C oC mC g' s' acc} l hC hm R r => ?_)
  show wpAny _ A (assign (PySem.Expr.Name y py) env acc) _ _ _
  have no : ¬ Own env C := fun q => (t0.fr.own q).elim fun _ z => clash hC z
  refine PyProof.Rows.assign_Name ((t0.fr.up (V' := V.put C oC) l fun b hb => Pm.put_ne fun (z : b = C) => no (z ▸ hb)).store (W := Own env) R hy r (fun _ q => q.own) fun {V5 s5} R5 Fr5 kp5 => ⟨mC, Hd.ns' R5 ⟨oC, (kp5 C no).trans Pm.put_self, hm⟩, fun h' hb => wpAny_pure (wpAny_pure ?_)⟩)
  have q := Option.some.inj e2
  refine hr ⟨t0.ok, t0.sc, (q ▸ Fr5.up .refl fun b hb => Pm.del_ne fun (z : b = C) => no (z ▸ hb) : FR L.X g' (V5.del C) ns env ls1), R5.drop (tk := s5.toks) ((kp5 C no).trans Pm.put_self) hb.extBut⟩ e3 (k.up l fun b hb => ?_)
  by_cases z : b = C
  · subst z; exact Pm.del_self.trans hC.symm
  · exact (Pm.del_ne z).trans ((kp5 b hb).trans (Pm.put_ne z)))
end Mini
end

section
open PySem PySem.W PyProof.Rows PySem.Calls
namespace Mini
noncomputable def onBoolOp (e : PySem.Expr) (f : BoolOp → (List PySem.Expr) → Pos → Bool) : Bool := if h : e.ctorIdx = 0 then PySem.Expr.BoolOp.elim (motive_1 := fun _ => Bool) e h (fun o xs p => f o xs p) else false
@[elab_as_elim] theorem onBoolOp_of {e : PySem.Expr} {f : BoolOp → (List PySem.Expr) → Pos → Bool} {C : PySem.Expr → Prop} (h : onBoolOp e f = true) (k : ∀ o xs p, f o xs p = true → C (.BoolOp o xs p)) : C e :=
  (dif_of h).elim fun h q => PySem.Expr.BoolOp.elim (motive_1 := fun e => ∀ h, PySem.Expr.BoolOp.elim (motive_1 := fun _ => Bool) e h (fun o xs p => f o xs p) = true → C e) e h (fun o xs p _ => k o xs p) h q
noncomputable def onBinOp (e : PySem.Expr) (f : PySem.Expr → Operator → PySem.Expr → Bool) : Bool := if h : e.ctorIdx = 2 then PySem.Expr.BinOp.elim (motive_1 := fun _ => Bool) e h (fun x o y _ => f x o y) else false
@[elab_as_elim] theorem onBinOp_of {e : PySem.Expr} {f : PySem.Expr → Operator → PySem.Expr → Bool} {C : PySem.Expr → Prop} (h : onBinOp e f = true) (k : ∀ x o y q1, f x o y = true → C (.BinOp x o y q1)) : C e :=
  (dif_of h).elim fun h q => PySem.Expr.BinOp.elim (motive_1 := fun e => ∀ h, PySem.Expr.BinOp.elim (motive_1 := fun _ => Bool) e h (fun x o y _ => f x o y) = true → C e) e h (fun x o y q1 _ => k x o y q1) h q
noncomputable def onUnaryOp (e : PySem.Expr) (f : UnaryOp → PySem.Expr → Bool) : Bool := if h : e.ctorIdx = 3 then PySem.Expr.UnaryOp.elim (motive_1 := fun _ => Bool) e h (fun o x _ => f o x) else false
@[elab_as_elim] theorem onUnaryOp_of {e : PySem.Expr} {f : UnaryOp → PySem.Expr → Bool} {C : PySem.Expr → Prop} (h : onUnaryOp e f = true) (k : ∀ o x q1, f o x = true → C (.UnaryOp o x q1)) : C e :=
  (dif_of h).elim fun h q => PySem.Expr.UnaryOp.elim (motive_1 := fun e => ∀ h, PySem.Expr.UnaryOp.elim (motive_1 := fun _ => Bool) e h (fun o x _ => f o x) = true → C e) e h (fun o x q1 _ => k o x q1) h q
noncomputable def onIfExp (e : PySem.Expr) (f : PySem.Expr → PySem.Expr → PySem.Expr → Bool) : Bool := if h : e.ctorIdx = 5 then PySem.Expr.IfExp.elim (motive_1 := fun _ => Bool) e h (fun c x y _ => f c x y) else false
@[elab_as_elim] theorem onIfExp_of {e : PySem.Expr} {f : PySem.Expr → PySem.Expr → PySem.Expr → Bool} {C : PySem.Expr → Prop} (h : onIfExp e f = true) (k : ∀ c x y q1, f c x y = true → C (.IfExp c x y q1)) : C e :=
  (dif_of h).elim fun h q => PySem.Expr.IfExp.elim (motive_1 := fun e => ∀ h, PySem.Expr.IfExp.elim (motive_1 := fun _ => Bool) e h (fun c x y _ => f c x y) = true → C e) e h (fun c x y q1 _ => k c x y q1) h q
noncomputable def onDict (e : PySem.Expr) (f : (List (Option PySem.Expr)) → (List PySem.Expr) → Bool) : Bool := if h : e.ctorIdx = 6 then PySem.Expr.Dict.elim (motive_1 := fun _ => Bool) e h (fun ks vs _ => f ks vs) else false
@[elab_as_elim] theorem onDict_of {e : PySem.Expr} {f : (List (Option PySem.Expr)) → (List PySem.Expr) → Bool} {C : PySem.Expr → Prop} (h : onDict e f = true) (k : ∀ ks vs q1, f ks vs = true → C (.Dict ks vs q1)) : C e :=
  (dif_of h).elim fun h q => PySem.Expr.Dict.elim (motive_1 := fun e => ∀ h, PySem.Expr.Dict.elim (motive_1 := fun _ => Bool) e h (fun ks vs _ => f ks vs) = true → C e) e h (fun ks vs q1 _ => k ks vs q1) h q
noncomputable def onListComp (e : PySem.Expr) (f : PySem.Expr → (List Comprehension) → Scope → Bool) : Bool := if h : e.ctorIdx = 8 then PySem.Expr.ListComp.elim (motive_1 := fun _ => Bool) e h (fun x gs sc _ => f x gs sc) else false
@[elab_as_elim] theorem onListComp_of {e : PySem.Expr} {f : PySem.Expr → (List Comprehension) → Scope → Bool} {C : PySem.Expr → Prop} (h : onListComp e f = true) (k : ∀ x gs sc q1, f x gs sc = true → C (.ListComp x gs sc q1)) : C e :=
  (dif_of h).elim fun h q => PySem.Expr.ListComp.elim (motive_1 := fun e => ∀ h, PySem.Expr.ListComp.elim (motive_1 := fun _ => Bool) e h (fun x gs sc _ => f x gs sc) = true → C e) e h (fun x gs sc q1 _ => k x gs sc q1) h q
noncomputable def onCompare (e : PySem.Expr) (f : PySem.Expr → (List CmpOp) → (List PySem.Expr) → Bool) : Bool := if h : e.ctorIdx = 15 then PySem.Expr.Compare.elim (motive_1 := fun _ => Bool) e h (fun x os ys _ => f x os ys) else false
@[elab_as_elim] theorem onCompare_of {e : PySem.Expr} {f : PySem.Expr → (List CmpOp) → (List PySem.Expr) → Bool} {C : PySem.Expr → Prop} (h : onCompare e f = true) (k : ∀ x os ys q1, f x os ys = true → C (.Compare x os ys q1)) : C e :=
  (dif_of h).elim fun h q => PySem.Expr.Compare.elim (motive_1 := fun e => ∀ h, PySem.Expr.Compare.elim (motive_1 := fun _ => Bool) e h (fun x os ys _ => f x os ys) = true → C e) e h (fun x os ys q1 _ => k x os ys q1) h q
noncomputable def onCall (e : PySem.Expr) (f : PySem.Expr → (List PySem.Expr) → (List Keyword) → Pos → Bool) : Bool := if h : e.ctorIdx = 16 then PySem.Expr.Call.elim (motive_1 := fun _ => Bool) e h (fun x xs ks p => f x xs ks p) else false
@[elab_as_elim] theorem onCall_of {e : PySem.Expr} {f : PySem.Expr → (List PySem.Expr) → (List Keyword) → Pos → Bool} {C : PySem.Expr → Prop} (h : onCall e f = true) (k : ∀ x xs ks p, f x xs ks p = true → C (.Call x xs ks p)) : C e :=
  (dif_of h).elim fun h q => PySem.Expr.Call.elim (motive_1 := fun e => ∀ h, PySem.Expr.Call.elim (motive_1 := fun _ => Bool) e h (fun x xs ks p => f x xs ks p) = true → C e) e h (fun x xs ks p _ => k x xs ks p) h q
noncomputable def onConstant (e : PySem.Expr) (f : Const → Bool) : Bool := if h : e.ctorIdx = 19 then PySem.Expr.Constant.elim (motive_1 := fun _ => Bool) e h (fun c _ _ => f c) else false
@[elab_as_elim] theorem onConstant_of {e : PySem.Expr} {f : Const → Bool} {C : PySem.Expr → Prop} (h : onConstant e f = true) (k : ∀ c q1 q2, f c = true → C (.Constant c q1 q2)) : C e :=
  (dif_of h).elim fun h q => PySem.Expr.Constant.elim (motive_1 := fun e => ∀ h, PySem.Expr.Constant.elim (motive_1 := fun _ => Bool) e h (fun c _ _ => f c) = true → C e) e h (fun c q1 q2 _ => k c q1 q2) h q
noncomputable def onAttribute (e : PySem.Expr) (f : PySem.Expr → Str → Pos → Bool) : Bool := if h : e.ctorIdx = 20 then PySem.Expr.Attribute.elim (motive_1 := fun _ => Bool) e h (fun x n p => f x n p) else false
@[elab_as_elim] theorem onAttribute_of {e : PySem.Expr} {f : PySem.Expr → Str → Pos → Bool} {C : PySem.Expr → Prop} (h : onAttribute e f = true) (k : ∀ x n p, f x n p = true → C (.Attribute x n p)) : C e :=
  (dif_of h).elim fun h q => PySem.Expr.Attribute.elim (motive_1 := fun e => ∀ h, PySem.Expr.Attribute.elim (motive_1 := fun _ => Bool) e h (fun x n p => f x n p) = true → C e) e h (fun x n p _ => k x n p) h q
noncomputable def onSubscript (e : PySem.Expr) (f : PySem.Expr → PySem.Expr → Bool) : Bool := if h : e.ctorIdx = 21 then PySem.Expr.Subscript.elim (motive_1 := fun _ => Bool) e h (fun x y _ => f x y) else false
@[elab_as_elim] theorem onSubscript_of {e : PySem.Expr} {f : PySem.Expr → PySem.Expr → Bool} {C : PySem.Expr → Prop} (h : onSubscript e f = true) (k : ∀ x y q1, f x y = true → C (.Subscript x y q1)) : C e :=
  (dif_of h).elim fun h q => PySem.Expr.Subscript.elim (motive_1 := fun e => ∀ h, PySem.Expr.Subscript.elim (motive_1 := fun _ => Bool) e h (fun x y _ => f x y) = true → C e) e h (fun x y q1 _ => k x y q1) h q
noncomputable def onName (e : PySem.Expr) (f : Str → Bool) : Bool := if h : e.ctorIdx = 23 then PySem.Expr.Name.elim (motive_1 := fun _ => Bool) e h (fun n _ => f n) else false
@[elab_as_elim] theorem onName_of {e : PySem.Expr} {f : Str → Bool} {C : PySem.Expr → Prop} (h : onName e f = true) (k : ∀ n q1, f n = true → C (.Name n q1)) : C e :=
  (dif_of h).elim fun h q => PySem.Expr.Name.elim (motive_1 := fun e => ∀ h, PySem.Expr.Name.elim (motive_1 := fun _ => Bool) e h (fun n _ => f n) = true → C e) e h (fun n q1 _ => k n q1) h q
noncomputable def onList (e : PySem.Expr) (f : (List PySem.Expr) → Bool) : Bool := if h : e.ctorIdx = 24 then PySem.Expr.List.elim (motive_1 := fun _ => Bool) e h (fun xs _ => f xs) else false
@[elab_as_elim] theorem onList_of {e : PySem.Expr} {f : (List PySem.Expr) → Bool} {C : PySem.Expr → Prop} (h : onList e f = true) (k : ∀ xs q1, f xs = true → C (.List xs q1)) : C e :=
  (dif_of h).elim fun h q => PySem.Expr.List.elim (motive_1 := fun e => ∀ h, PySem.Expr.List.elim (motive_1 := fun _ => Bool) e h (fun xs _ => f xs) = true → C e) e h (fun xs q1 _ => k xs q1) h q
noncomputable def onTuple (e : PySem.Expr) (f : (List PySem.Expr) → Bool) : Bool := if h : e.ctorIdx = 25 then PySem.Expr.Tuple.elim (motive_1 := fun _ => Bool) e h (fun xs _ _ => f xs) else false
@[elab_as_elim] theorem onTuple_of {e : PySem.Expr} {f : (List PySem.Expr) → Bool} {C : PySem.Expr → Prop} (h : onTuple e f = true) (k : ∀ xs q1 q2, f xs = true → C (.Tuple xs q1 q2)) : C e :=
  (dif_of h).elim fun h q => PySem.Expr.Tuple.elim (motive_1 := fun e => ∀ h, PySem.Expr.Tuple.elim (motive_1 := fun _ => Bool) e h (fun xs _ _ => f xs) = true → C e) e h (fun xs q1 q2 _ => k xs q1 q2) h q
noncomputable def onSlice (e : PySem.Expr) (f : (Option PySem.Expr) → (Option PySem.Expr) → (Option PySem.Expr) → Bool) : Bool := if h : e.ctorIdx = 26 then PySem.Expr.Slice.elim (motive_1 := fun _ => Bool) e h (fun l u st _ => f l u st) else false
@[elab_as_elim] theorem onSlice_of {e : PySem.Expr} {f : (Option PySem.Expr) → (Option PySem.Expr) → (Option PySem.Expr) → Bool} {C : PySem.Expr → Prop} (h : onSlice e f = true) (k : ∀ l u st q1, f l u st = true → C (.Slice l u st q1)) : C e :=
  (dif_of h).elim fun h q => PySem.Expr.Slice.elim (motive_1 := fun e => ∀ h, PySem.Expr.Slice.elim (motive_1 := fun _ => Bool) e h (fun l u st _ => f l u st) = true → C e) e h (fun l u st q1 _ => k l u st q1) h q
end Mini
end

section
open PySem PySem.W PyProof.Rows PySem.Calls
namespace Mini

noncomputable def glbIs (B : Tbl) (sc : Scope) (g : Str) (v : Value) : Bool := sc.names.lookup g == some .globalImplicit && ((g == ("__debug__" : Str)) == false && B.gl g == some v)
theorem glbIs_of {X : Wo} {sc : Scope} {g : Str} {v : Value} (h : glbIs X.B sc g v = true) : Glb X sc g v := have a := and2 h; have b := and2 a.2; ⟨beq_iff_eq.mp a.1, beq_iff_eq.mp b.1, beq_iff_eq.mp b.2⟩
noncomputable def nameOk (x : Str) : Bool := (x == ("__debug__" : Str)) == false && (x == ("__classdict__" : Str)) == false
noncomputable def argsOk' (xs : List PySem.Expr) : Bool := xs.all notStar && decide (xs.length < 30)
noncomputable def isClass (B : Tbl) (sc : Scope) (c : Nat) (g : Str) : Bool := (B.T.cls c).any fun Ca => glbIs B sc g (.ref Ca)
noncomputable def isFun (B : Tbl) (sc : Scope) (f : Nat) (g : Str) : Bool := (B.fad f).any fun fa => glbIs B sc g (.ref fa) && calleeOk B.K (.ref fa)
noncomputable def isMeth (B : Tbl) (c f : Nat) (name : Str) : Bool := (B.T.cls c).any fun Ca => (B.fad f).any fun fa => findIn B.K (.ref Ca) name == some (some (.ref fa)) && (isFn B.K (.ref fa) && (calleeOk B.K (.ref fa) && !(B.T.flds c).contains name))
noncomputable def on1 {α : Type} (l : List α) (f : α → Bool) : Bool := match l with
  | [x] => f x
  | _ => false
noncomputable def onC {α : Type} (l : List α) (f : α → List α → Bool) : Bool := match l with
  | [] => false
  | x :: r => f x r
noncomputable def on2 {α : Type} (l : List α) (f : α → α → Bool) : Bool := onC l fun x r => on1 r fun y => f x y
@[elab_as_elim] theorem on1_of {α : Type} {f : α → Bool} {C : List α → Prop} : ∀ {l : List α} (h : on1 l f = true) (k : ∀ x, f x = true → C [x]), C l
  | [], h, _ => nomatch h
  | [_], h, k => k _ h
  | _ :: _ :: _, h, _ => nomatch h
@[elab_as_elim] theorem onC_of {α : Type} {f : α → List α → Bool} {C : List α → Prop} : ∀ {l : List α} (h : onC l f = true) (k : ∀ x r, f x r = true → C (x :: r)), C l
  | [], h, _ => nomatch h
  | _ :: _, h, k => k _ _ h
@[elab_as_elim] theorem on2_of {α : Type} {f : α → α → Bool} {C : List α → Prop} {l : List α} (h : on2 l f = true) (k : ∀ x y, f x y = true → C [x, y]) : C l := onC_of h fun x _ h => on1_of h fun y h => k x y h
@[elab_as_elim] theorem eqb {α : Type} [BEq α] [LawfulBEq α] {a b : α} {c : Bool} {C : α → Prop} (h : (a == b && c) = true) (k : c = true → C b) : C a := (beq_iff_eq.mp (and2 h).1).symm ▸ k (and2 h).2
@[elab_as_elim] theorem nilb {α : Type} {c : Bool} {C : List α → Prop} : ∀ {l : List α} (h : (l.isEmpty && c) = true) (k : c = true → C []), C l
  | [], h, k => k h
  | _ :: _, h, _ => nomatch h
theorem dcd {p : Prop} [Decidable p] {c : Bool} (h : (decide p && c) = true) : p ∧ c = true := (and2 h).imp of_decide_eq_true id
@[elab_as_elim] theorem nil1 {α : Type} {C : List α → Prop} : ∀ {l : List α} (h : l.isEmpty = true) (k : C []), C l
  | [], _, k => k
  | _ :: _, h, _ => nomatch h
noncomputable def isUSub : UnaryOp → Bool
  | .USub => true
  | _ => false
noncomputable def isNot : UnaryOp → Bool
  | .Not => true
  | _ => false
noncomputable def isAnd : BoolOp → Bool
  | .And => true
  | _ => false
noncomputable def isOr : BoolOp → Bool
  | .Or => true
  | _ => false
noncomputable def isIntC (i : Int) : Const → Bool
  | .int j => j == i
  | _ => false
noncomputable def glbVr (B : Tbl) (sc : Scope) (g : Str) (v : AV) : Bool := (B.gl g).any fun c => glbIs B sc g c && B.vr v c
noncomputable def isUnb : IE → Bool
  | .lit v => isU v
  | _ => false
mutual
noncomputable def chkE (B : Tbl) : IE → Scope → List Str → PySem.Expr → Bool
  | .lit v, _, _, e => onConstant e fun c => constIs c v
  | .nint i, _, _, e => onUnaryOp e fun o x => isUSub o && onConstant x (isIntC i)
  | .glb x v, sc, _, e => onName e fun y => x == y && glbVr B sc y v
  | .loc k, _, ns, e => onName e fun y => ns[k]? == some y && nameOk y
  | .and2 a b, sc, ns, e => onBoolOp e fun o xs _ => isAnd o && on2 xs fun x y => chkE B a sc ns x && chkE B b sc ns y
  | .or2 a b, sc, ns, e => onBoolOp e fun o xs p => isOr o && onC xs fun x r => onC r fun y s => chkE B a sc ns x && chkE B b sc ns (if s.isEmpty then y else .BoolOp .Or (y :: s) p)
  | .ifx c a b, sc, ns, e => onIfExp e fun t x y => chkT B c sc ns t && (chkE B a sc ns x && chkE B b sc ns y)
  | .bin o a b, sc, ns, e => onBinOp e fun x op y => op == bopOp o && (chkE B a sc ns x && chkE B b sc ns y)
  | .cmp o a b, sc, ns, e => onCompare e fun x os ys => on1 os fun op => on1 ys fun y => op == copOp o && ((behindInMarks (copOp o) y) == false && (chkE B a sc ns x && chkE B b sc ns y))
  | .list _ es, sc, ns, e => onList e fun xs => decide (es.len ≤ 1000) && chkEs B es sc ns xs
  | .tup es, sc, ns, e => onTuple e fun xs => decide (es.len ≤ 1000) && chkEs B es sc ns xs
  | .comp _ names caps en t src cond elt, sc, ns, e => onListComp e fun el gs scope => on1 gs fun g => g.is_async == 0 && (compOk sc ns scope names caps t && (chkTgt names g.target t && ((!en || isTup g.target) && (notSet g.iter &&
      ((if en then onCall g.iter fun f xs ks _ => onName f fun h => glbIs B sc h (.type "enumerate") && (ks.isEmpty && on1 xs fun x => notStar x && chkE B src sc ns x) else chkE B src sc ns g.iter) &&
      (chkI B cond (relabel scope (dEnv sc)) names g.ifs && chkE B elt (relabel scope (dEnv sc)) names el))))))
  | .call f es, sc, ns, e => onCall e fun c xs ks _ => onName c fun g => ks.isEmpty && (isFun B sc f g && (xs.all notStar && chkEs B es sc ns xs))
  | .bi b es, sc, ns, e => onCall e fun c xs ks _ => onName c fun g => ks.isEmpty && (glbIs B sc g (biFn b) && (xs.all notStar && chkEs B es sc ns xs))
  | .meth m o es, sc, ns, e => onCall e fun c xs ks p => onAttribute c fun x n q => ks.isEmpty && (n == methN m && (notSuper x && (argsOk' xs && ((q.endLine == p.line) && (chkE B o sc ns x && chkEs B es sc ns xs)))))
  | .mown c f o es, sc, ns, e => onCall e fun d xs ks p => onAttribute d fun x n q => ks.isEmpty && (isMeth B c f n && (notSuper x && (argsOk' xs && ((q.endLine == p.line) && (chkE B o sc ns x && chkEs B es sc ns xs)))))
  | .isi c a, sc, ns, e => onCall e fun d xs ks _ => onName d fun g => ks.isEmpty && (glbIs B sc g (.builtin "isinstance") && on2 xs fun x y => onName y fun g2 => isClass B sc c g2 && (notStar x && chkE B a sc ns x))
  | .attr c f o, sc, ns, e => onAttribute e fun x n _ => (B.T.flds c)[f]? == some n && (notSuper x && chkE B o sc ns x)
  | .sub a b, sc, ns, e => onSubscript e fun x y => notSlice y && (chkE B a sc ns x && chkE B b sc ns y)
  | .slice a lo hi, sc, ns, e => onSubscript e fun x y => onSlice y fun l u st => st.isNone && (chkE B a sc ns x && ((match l with | none => isUnb lo | some z => chkE B lo sc ns z) && (match u with | none => isUnb hi | some z => chkE B hi sc ns z)))
  | .dict0, _, _, e => onDict e fun ks vs => ks.isEmpty && vs.isEmpty
  | .bad, _, _, _ => true
noncomputable def chkEs (B : Tbl) : IEs → Scope → List Str → List PySem.Expr → Bool
  | .nil, _, _, xs => xs.isEmpty
  | .cons a r, sc, ns, xs => onC xs fun x ys => notStar x && (chkE B a sc ns x && chkEs B r sc ns ys)
noncomputable def chkT (B : Tbl) : IT → Scope → List Str → PySem.Expr → Bool
  | .val a, sc, ns, e => plainT e && chkE B a sc ns e
  | .not t, sc, ns, e => onUnaryOp e fun o x => isNot o && chkT B t sc ns x
  | .and t r, sc, ns, e => onBoolOp e fun o xs _ => isAnd o && onC xs fun x ys => chkT B t sc ns x && chkA B r sc ns ys
  | .or t r, sc, ns, e => onBoolOp e fun o xs _ => isOr o && onC xs fun x ys => chkT B t sc ns x && chkO B r sc ns ys
  | .kt, _, _, _ => false
  | .kf, _, _, _ => false
  | .cmp o a b, sc, ns, e => onCompare e fun x os ys => on1 os fun op => on1 ys fun y => op == copOp o && ((behindInMarks (copOp o) y) == false && (chkE B a sc ns x && chkE B b sc ns y))
  | .cmp2 o p a b c, sc, ns, e => onCompare e fun x os ys => on2 os fun op oq => on2 ys fun y z => op == copOp o && (oq == copOp p && ((lastMarks [copOp o, copOp p] [y, z]) == false && (chkE B a sc ns x && (chkE B b sc ns y && chkE B c sc ns z))))
noncomputable def chkA (B : Tbl) : IT → Scope → List Str → List PySem.Expr → Bool
  | .kt, _, _, xs => xs.isEmpty
  | .and t r, sc, ns, xs => onC xs fun x ys => chkT B t sc ns x && chkA B r sc ns ys
  | _, _, _, _ => false
noncomputable def chkO (B : Tbl) : IT → Scope → List Str → List PySem.Expr → Bool
  | .kf, _, _, xs => xs.isEmpty
  | .or t r, sc, ns, xs => onC xs fun x ys => chkT B t sc ns x && chkO B r sc ns ys
  | _, _, _, _ => false
noncomputable def chkI (B : Tbl) : IT → Scope → List Str → List PySem.Expr → Bool
  | .kt, _, _, xs => xs.isEmpty
  | .and t r, sc, ns, xs => onC xs fun x ys => chkT B t sc ns x && chkI B r sc ns ys
  | _, _, _, _ => false
end
end Mini
end

section
open PySem PySem.W PyProof.Rows PySem.Calls
namespace Mini

noncomputable def PE (L : Lg) (ie : IE) : Prop := ∀ {sc : Scope} {ns : List Str} {e : PySem.Expr}, chkE L.X.B ie sc ns e = true → SE L sc ns e ie
noncomputable def PEs (L : Lg) (es : IEs) : Prop := ∀ {sc : Scope} {ns : List Str} {xs : List PySem.Expr}, chkEs L.X.B es sc ns xs = true → SEs L sc ns xs es
structure PT (L : Lg) (it : IT) : Prop where
  t : ∀ {sc : Scope} {ns : List Str} {e : PySem.Expr}, chkT L.X.B it sc ns e = true → SB L sc ns it (fun env => isTrue e env (eval e env))
  a : ∀ {sc : Scope} {ns : List Str} {xs : List PySem.Expr}, chkA L.X.B it sc ns xs = true → SB L sc ns it (fun env => allTrue .And xs env)
  o : ∀ {sc : Scope} {ns : List Str} {xs : List PySem.Expr}, chkO L.X.B it sc ns xs = true → SB L sc ns it (fun env => allTrue .Or xs env)
  i : ∀ {sc : Scope} {ns : List Str} {xs : List PySem.Expr}, chkI L.X.B it sc ns xs = true → SB L sc ns it (ifsOf xs true)

@[elab_as_elim] theorem isUSub1 {C : UnaryOp → Prop} : ∀ {o : UnaryOp} {c : Bool} (h : (isUSub o && c) = true) (k : c = true → C .USub), C o
  | .USub, _, h, k => k h
  | .Not, _, h, _ => nomatch h
  | .Invert, _, h, _ => nomatch h
  | .UAdd, _, h, _ => nomatch h
@[elab_as_elim] theorem isNot1 {C : UnaryOp → Prop} : ∀ {o : UnaryOp} {c : Bool} (h : (isNot o && c) = true) (k : c = true → C .Not), C o
  | .Not, _, h, k => k h
  | .USub, _, h, _ => nomatch h
  | .Invert, _, h, _ => nomatch h
  | .UAdd, _, h, _ => nomatch h
@[elab_as_elim] theorem isAnd1 {C : BoolOp → Prop} : ∀ {o : BoolOp} {c : Bool} (h : (isAnd o && c) = true) (k : c = true → C .And), C o
  | .And, _, h, k => k h
  | .Or, _, h, _ => nomatch h
@[elab_as_elim] theorem isOr1 {C : BoolOp → Prop} : ∀ {o : BoolOp} {c : Bool} (h : (isOr o && c) = true) (k : c = true → C .Or), C o
  | .Or, _, h, k => k h
  | .And, _, h, _ => nomatch h
theorem isUnb_of {ie : IE} (h : isUnb ie = true) : ie = .lit .unb := by
  cases ie with
  | lit v => cases v <;> first | rfl | exact nomatch h
  | _ => exact nomatch h
theorem isIntC_of {i : Int} {c : Const} (h : isIntC i c = true) : c = .int i := by
  cases c with
  | int j => exact congrArg _ (beq_iff_eq.mp h)
  | _ => exact nomatch h

variable {L : Lg} {a b c : IE} {t r : IT} {es : IEs}
theorem sp_of {p : Option PySem.Expr} {sc : Scope} {ns : List Str} (ha : PE L a) (h : (match p with | none => isUnb a | some z => chkE L.X.B a sc ns z) = true) : SP L sc ns p a := by
  cases p with
  | none => exact isUnb_of h
  | some z => exact ha h
theorem args_of {xs : List PySem.Expr} {d : Bool} (h : (argsOk' xs && d) = true) : xs.all notStar = true ∧ xs.length < 30 ∧ d = true := have q := and2 h; have p := and2 q.1; ⟨p.1, of_decide_eq_true p.2, q.2⟩

section
variable (ha : PE L a) (hb : PE L b) (hc : PE L c) (ht : PT L t) (hr : PT L r) (he : PEs L es)
theorem ck_lit {v : AV} : PE L (.lit v) := fun h => onConstant_of h fun _ _ _ h => se_lit h
theorem ck_nint {i : Int} : PE L (.nint i) := fun h => onUnaryOp_of h fun _ _ _ h => isUSub1 h fun h => onConstant_of h fun _ _ _ h => isIntC_of h ▸ se_nint
theorem ck_loc {k : Nat} : PE L (.loc k) := fun h => onName_of h fun _ _ h => have h := and2 h; have q := and2 h.2; se_loc (beq_iff_eq.mp h.1) (beq_iff_eq.mp q.1) (beq_iff_eq.mp q.2)
include ha hb
theorem ck_and2 : PE L (.and2 a b) := fun h => onBoolOp_of h fun _ _ _ h => isAnd1 h fun h => on2_of h fun _ _ h => have h := and2 h; se_and2 (ha h.1) (hb h.2)
theorem ck_or2 : PE L (.or2 a b) := fun h => onBoolOp_of h fun _ _ _ h => isOr1 h fun h => onC_of h fun _ _ h => onC_of h fun _ s h => by
  have h := and2 h
  cases s with
  | nil => exact se_orG boolOp_or (ha h.1) (hb h.2)
  | cons z s => exact se_orG boolOp_or3 (ha h.1) (hb h.2)
theorem ck_bin {o : Bop} : PE L (.bin o a b) := fun h => onBinOp_of h fun _ _ _ _ h => eqb h fun h => have h := and2 h; se_bin (ha h.1) (hb h.2)
theorem ck_sub : PE L (.sub a b) := fun h => onSubscript_of h fun _ _ _ h => have h := and2 h; have q := and2 h.2; se_sub h.1 (ha q.1) (hb q.2)
include ht
theorem ck_ifx : PE L (.ifx t a b) := fun h => onIfExp_of h fun _ _ _ _ h => have h := and2 h; have q := and2 h.2; se_ifx (ht.t h.1) (ha q.1) (hb q.2)
omit ht
include hc
theorem ck_slice : PE L (.slice a b c) := fun h => onSubscript_of h fun _ _ _ h => onSlice_of h fun _ _ st _ h => by
  have h := and2 h; have q := and2 h.2; have p := and2 q.2
  cases st with
  | none => exact se_slice (ha q.1) (sp_of hb p.1) (sp_of hc p.2)
  | some _ => exact nomatch h.1
omit hc
section
variable (C : Cx L.X)
include C
theorem ck_cmp {o : Cop} : PE L (.cmp o a b) := fun h => onCompare_of h fun _ _ _ _ h => on1_of h fun _ h => on1_of h fun _ h => eqb h fun h => have h := and2 h; have q := and2 h.2; se_cmp C (beq_iff_eq.mp h.1) (ha q.1) (hb q.2)
omit ha hb
theorem ck_glb {x : Str} {v : AV} : PE L (.glb x v) := fun h => onName_of h fun y _ h => eqb h fun h => any_some h |>.elim fun _ q => have p := and2 q.2; have G := glbIs_of p.1; se_glb C G.k G.d G.v p.2
theorem se_dict0 {sc : Scope} {ns : List Str} {pos : Pos} : SE L sc ns (.Dict [] [] pos) .dict0 := fun {_ _ s _ _ _ _ _ _ _ _} t e k =>
  wpAny_Dict_empty ((k.of2 e).new (tk := s.toks) t.rel (Nat.le_refl _) keep_push (Heap.get?_push_size _ rfl) ⟨⟨rfl, Nat.ne_of_gt (t.rel.big C)⟩, [], Heap.DictOf.new s.heap, rfl, rfl⟩)
theorem ck_dict : PE L .dict0 := fun h => onDict_of h fun _ _ _ h => nilb h fun h => nil1 h (se_dict0 C)
include ha
theorem ck_isi {d : Nat} : PE L (.isi d a) := fun h => onCall_of h fun _ _ _ _ h => onName_of h fun _ _ h => nilb h fun h => have h := and2 h; on2_of h.2 fun _ _ h2 => onName_of h2 fun _ _ h2 => have q := and2 h2; have p := and2 q.2; any_some q.1 |>.elim fun _ z => se_isi C (glbIs_of h.1) (glbIs_of z.2) z.1 p.1 (ha p.2)
theorem ck_attr {d f : Nat} : PE L (.attr d f a) := fun h => onAttribute_of h fun _ _ _ h => have h := and2 h; have q := and2 h.2; se_attr C (beq_iff_eq.mp h.1) (fun _ _ => base_plain q.1 _ _ _) (ha q.2)
omit ha
include he
theorem ck_bi {d : BI} : PE L (.bi d es) := fun h => onCall_of h fun _ _ _ _ h => onName_of h fun _ _ h => nilb h fun h => have h := and2 h; have q := and2 h.2; se_bi C (glbIs_of h.1) q.1 (he q.2)
variable (CO : CallOk L)
include ha
theorem ck_meth {m : MN} : PE L (.meth m a es) := fun h => onCall_of h fun _ _ _ _ h => onAttribute_of h fun _ _ _ h => nilb h fun h => have h := and2 h; have q := and2 h.2; have p := args_of q.2; have w := and2 p.2.2; have z := and2 w.2; se_meth C (beq_iff_eq.mp h.1) q.1 p.1 p.2.1 w.1 (ha z.1) (he z.2)
include CO
theorem ck_mown {d f : Nat} : PE L (.mown d f a es) := fun h => onCall_of h fun _ _ _ _ h => onAttribute_of h fun _ n _ h => nilb h fun h => have h := and2 h; have q := and2 h.2; have p := args_of q.2; have w := and2 p.2.2; have z := and2 w.2
  any_some h.1 |>.elim fun _ u => any_some u.2 |>.elim fun _ v => have k := and2 v.2; have k2 := and2 k.2; have k3 := and2 k2.2
  se_mown C CO q.1 p.1 p.2.1 w.1 u.1 (beq_iff_eq.mp k.1) k2.1 k3.1 v.1 (fun y => by rw [List.contains_iff_mem.mpr y] at k3; exact nomatch k3.2) (ha z.1) (he z.2)
omit ha
theorem ck_call {f : Nat} : PE L (.call f es) := fun h => onCall_of h fun _ _ _ _ h => onName_of h fun _ _ h => nilb h fun h => have h := and2 h; have q := and2 h.2; any_some h.1 |>.elim fun _ u => have k := and2 u.2; se_call C CO (glbIs_of k.1) u.1 k.2 q.1 (he q.2)
end
omit ha hb
include he
theorem ck_list {m : Bool} : PE L (.list m es) := fun h => onList_of h fun _ _ h => have h := dcd h; se_list h.1 (he h.2)
theorem ck_tup : PE L (.tup es) := fun h => onTuple_of h fun _ _ _ h => have h := dcd h; se_tup h.1 (he h.2)
omit he
theorem ck_nil : PEs L .nil := fun h => nil1 h se_nil
include ha he
theorem ck_cons : PEs L (.cons a es) := fun h => onC_of h fun _ _ h => have h := and2 h; have q := and2 h.2; se_cons h.1 (ha q.1) (he q.2)
omit he
theorem ck_val : PT L (.val a) := ⟨fun h => have h := and2 h; sb_val h.1 (ha h.2), fun h => (nomatch h), fun h => (nomatch h), fun h => (nomatch h)⟩
omit ha
include ht
theorem ck_not : PT L (.not t) := ⟨fun h => onUnaryOp_of h fun _ _ _ h => isNot1 h fun h => sb_not (ht.t h), fun h => (nomatch h), fun h => (nomatch h), fun h => (nomatch h)⟩
include hr
theorem ck_and : PT L (.and t r) := ⟨fun h => onBoolOp_of h fun _ _ _ h => isAnd1 h fun h => onC_of h fun _ _ h => (have h := and2 h; sb_and (ht.t h.1) (hr.a h.2)), fun h => onC_of h fun _ _ h => have h := and2 h; sb_and (ht.t h.1) (hr.a h.2), fun h => (nomatch h), fun h => onC_of h fun _ _ h => have h := and2 h; sb_ifs (ht.t h.1) (hr.i h.2)⟩
theorem ck_or : PT L (.or t r) := ⟨fun h => onBoolOp_of h fun _ _ _ h => isOr1 h fun h => onC_of h fun _ _ h => (have h := and2 h; sb_or (ht.t h.1) (hr.o h.2)), fun h => (nomatch h), fun h => onC_of h fun _ _ h => have h := and2 h; sb_or (ht.t h.1) (hr.o h.2), fun h => (nomatch h)⟩
omit ht hr
theorem ck_kt : PT L .kt := ⟨fun h => (nomatch h), fun h => nil1 h sb_and0, fun h => (nomatch h), fun h => nil1 h sb_ifs0⟩
theorem ck_kf : PT L .kf := ⟨fun h => (nomatch h), fun h => (nomatch h), fun h => nil1 h sb_or0, fun h => (nomatch h)⟩
variable (C : Cx L.X)
include C ha hb
theorem ck_tc {o : Cop} : PT L (.cmp o a b) := ⟨fun h => onCompare_of h fun _ _ _ _ h => on1_of h fun _ h => on1_of h fun _ h => eqb h fun h => have h := and2 h; have q := and2 h.2; sb_cmp C (beq_iff_eq.mp h.1) (ha q.1) (hb q.2), fun h => (nomatch h), fun h => (nomatch h), fun h => (nomatch h)⟩
include hc
theorem ck_td {o p : Cop} : PT L (.cmp2 o p a b c) := ⟨fun h => onCompare_of h fun _ _ _ _ h => on2_of h fun _ _ h => on2_of h fun _ _ h => eqb h fun h => eqb h fun h => have h := and2 h; have q := and2 h.2; have p := and2 q.2; sb_cmp2 C (beq_iff_eq.mp h.1) (ha q.1) (hb p.1) (hc p.2), fun h => (nomatch h), fun h => (nomatch h), fun h => (nomatch h)⟩
end
end Mini
end

section
open PySem PySem.W PyProof.Rows PySem.Calls
namespace Mini
variable {L : Lg} {sc : Scope} {ns : List Str}

structure CpIs (L : Lg) (sc : Scope) (ns : List Str) (elt target iter : PySem.Expr) (ifs : List PySem.Expr) (scope : Scope) (names : List Str) (caps : List (Nat × Nat)) (en : Bool) (t : Tgt) (src : IE) (cond : IT) (ielt : IE) : Prop where
  K : CompOk sc ns scope names caps t
  ht : chkTgt names target t = true
  tup : en = false ∨ isTup target = true
  set : notSet iter = true
  src : SS L sc ns en iter src
  c : SB L (relabel scope (dEnv sc)) names cond (ifsOf ifs true)
  e : SE L (relabel scope (dEnv sc)) names elt ielt
@[elab_as_elim] theorem cp_of {m : Bool} {names : List Str} {caps : List (Nat × Nat)} {en : Bool} {t : Tgt} {src : IE} {cond : IT} {ielt : IE} {C : PySem.Expr → Prop} {e : PySem.Expr} (h : chkE L.X.B (.comp m names caps en t src cond ielt) sc ns e = true)
    (X : Cx L.X) (hs : PE L src) (hc : PT L cond) (he : PE L ielt) (k : ∀ elt target iter ifs scope pos, CpIs L sc ns elt target iter ifs scope names caps en t src cond ielt → C (.ListComp elt [⟨target, iter, ifs, 0⟩] scope pos)) : C e :=
  onListComp_of h fun elt gs scope pos h => on1_of h fun g h => by
    obtain ⟨target, iter, ifs, a⟩ := g
    have h := and2 h
    have e := beq_iff_eq.mp h.1
    have h1 := and2 h.2; have h2 := and2 h1.2; have h3 := and2 h2.2; have h4 := and2 h3.2; have h5 := and2 h4.2; have h6 := and2 h5.2
    refine (show a = 0 from e) ▸ k elt target iter ifs scope pos ⟨compOk_of h1.1, h2.1, ?_, h4.1, ?_, hc.i h6.1, he h6.2⟩
    · have q := h3.1
      cases en with
      | false => exact .inl rfl
      | true => exact .inr q
    · have q := h5.1
      cases en with
      | false => exact @ss_src L sc ns iter src (hs q)
      | true => exact onCall_of (show onCall iter _ = true from q) fun _ _ _ _ q => onName_of q fun _ _ q => have p := and2 q; nilb p.2 fun q => on1_of q fun _ q => have q := and2 q; @ss_en L sc ns _ _ _ _ src X (glbIs_of p.1) q.1 (hs q.2)
variable (hn : L.n ≤ 1000) (C : Cx L.X) (CO : CallOk L)
include hn C
theorem ck_comp {m : Bool} {names : List Str} {caps : List (Nat × Nat)} {en : Bool} {t : Tgt} {src : IE} {cond : IT} {ielt : IE} (hs : PE L src) (hc : PT L cond) (he : PE L ielt) : PE L (.comp m names caps en t src cond ielt) := fun h =>
  cp_of h C hs hc he fun _ _ _ _ _ _ K => se_comp hn K.K K.ht K.tup K.set K.src K.c K.e
omit hn C CO in
theorem ck_bad : PE L .bad := fun _ => fun _ e _ => clash rfl e
include CO
theorem ck_e : ∀ ie, PE L ie := @IE.rec (PE L) (PEs L) (PT L) (fun _ => ck_lit) (fun _ => ck_nint) (fun _ _ => ck_glb C) (fun _ => ck_loc) (fun _ _ => ck_and2) (fun _ _ => ck_or2) (fun _ _ _ t a b => ck_ifx a b t) (fun _ _ _ a b => ck_bin a b) (fun _ _ _ a b => ck_cmp a b C) (fun _ _ e => ck_list e) (fun _ => ck_tup) (fun _ _ _ _ _ _ _ _ a c e => ck_comp hn C a c e) (fun _ _ e => ck_call e C CO) (fun _ _ e => ck_bi e C) (fun _ _ _ a e => ck_meth a e C) (fun _ _ _ _ a e => ck_mown a e C CO) (fun _ _ a => ck_isi a C) (fun _ _ _ a => ck_attr a C) (fun _ _ => ck_sub) (fun _ _ _ => ck_slice) (ck_dict C) ck_bad ck_nil (fun _ _ => ck_cons) (fun _ => ck_val) (fun _ => ck_not) (fun _ _ => ck_and) (fun _ _ => ck_or) ck_kt ck_kf (fun _ _ _ a b => ck_tc a b C) (fun _ _ _ _ _ a b c => ck_td a b c C)
theorem ck_t : ∀ it, PT L it := @IT.rec (PE L) (PEs L) (PT L) (fun _ => ck_lit) (fun _ => ck_nint) (fun _ _ => ck_glb C) (fun _ => ck_loc) (fun _ _ => ck_and2) (fun _ _ => ck_or2) (fun _ _ _ t a b => ck_ifx a b t) (fun _ _ _ a b => ck_bin a b) (fun _ _ _ a b => ck_cmp a b C) (fun _ _ e => ck_list e) (fun _ => ck_tup) (fun _ _ _ _ _ _ _ _ a c e => ck_comp hn C a c e) (fun _ _ e => ck_call e C CO) (fun _ _ e => ck_bi e C) (fun _ _ _ a e => ck_meth a e C) (fun _ _ _ _ a e => ck_mown a e C CO) (fun _ _ a => ck_isi a C) (fun _ _ _ a => ck_attr a C) (fun _ _ => ck_sub) (fun _ _ _ => ck_slice) (ck_dict C) ck_bad ck_nil (fun _ _ => ck_cons) (fun _ => ck_val) (fun _ => ck_not) (fun _ _ => ck_and) (fun _ _ => ck_or) ck_kt ck_kf (fun _ _ _ a b => ck_tc a b C) (fun _ _ _ _ _ a b c => ck_td a b c C)
end Mini
end

section
open PySem PySem.W PyProof.Rows PySem.Calls
namespace Mini
noncomputable def onSReturn (e : PySem.Stmt) (f : (Option PySem.Expr) → Bool) : Bool := if h : e.ctorIdx = 3 then PySem.Stmt.Return.elim (motive_2 := fun _ => Bool) e h (fun v _ => f v) else false
@[elab_as_elim] theorem onSReturn_of {e : PySem.Stmt} {f : (Option PySem.Expr) → Bool} {C : PySem.Stmt → Prop} (h : onSReturn e f = true) (k : ∀ v q1, f v = true → C (.Return v q1)) : C e :=
  (dif_of h).elim fun h q => PySem.Stmt.Return.elim (motive_2 := fun e => ∀ h, PySem.Stmt.Return.elim (motive_2 := fun _ => Bool) e h (fun v _ => f v) = true → C e) e h (fun v q1 _ => k v q1) h q
noncomputable def onSAssign (e : PySem.Stmt) (f : (List PySem.Expr) → PySem.Expr → Pos → Bool) : Bool := if h : e.ctorIdx = 5 then PySem.Stmt.Assign.elim (motive_2 := fun _ => Bool) e h (fun ts v p => f ts v p) else false
@[elab_as_elim] theorem onSAssign_of {e : PySem.Stmt} {f : (List PySem.Expr) → PySem.Expr → Pos → Bool} {C : PySem.Stmt → Prop} (h : onSAssign e f = true) (k : ∀ ts v p, f ts v p = true → C (.Assign ts v p)) : C e :=
  (dif_of h).elim fun h q => PySem.Stmt.Assign.elim (motive_2 := fun e => ∀ h, PySem.Stmt.Assign.elim (motive_2 := fun _ => Bool) e h (fun ts v p => f ts v p) = true → C e) e h (fun ts v p _ => k ts v p) h q
noncomputable def onSFor (e : PySem.Stmt) (f : PySem.Expr → PySem.Expr → (List Stmt) → (List Stmt) → Bool) : Bool := if h : e.ctorIdx = 9 then PySem.Stmt.For.elim (motive_2 := fun _ => Bool) e h (fun t i b o _ => f t i b o) else false
@[elab_as_elim] theorem onSFor_of {e : PySem.Stmt} {f : PySem.Expr → PySem.Expr → (List Stmt) → (List Stmt) → Bool} {C : PySem.Stmt → Prop} (h : onSFor e f = true) (k : ∀ t i b o q1, f t i b o = true → C (.For t i b o q1)) : C e :=
  (dif_of h).elim fun h q => PySem.Stmt.For.elim (motive_2 := fun e => ∀ h, PySem.Stmt.For.elim (motive_2 := fun _ => Bool) e h (fun t i b o _ => f t i b o) = true → C e) e h (fun t i b o q1 _ => k t i b o q1) h q
noncomputable def onSWhile (e : PySem.Stmt) (f : PySem.Expr → (List Stmt) → (List Stmt) → Bool) : Bool := if h : e.ctorIdx = 11 then PySem.Stmt.While.elim (motive_2 := fun _ => Bool) e h (fun t b o _ => f t b o) else false
@[elab_as_elim] theorem onSWhile_of {e : PySem.Stmt} {f : PySem.Expr → (List Stmt) → (List Stmt) → Bool} {C : PySem.Stmt → Prop} (h : onSWhile e f = true) (k : ∀ t b o q1, f t b o = true → C (.While t b o q1)) : C e :=
  (dif_of h).elim fun h q => PySem.Stmt.While.elim (motive_2 := fun e => ∀ h, PySem.Stmt.While.elim (motive_2 := fun _ => Bool) e h (fun t b o _ => f t b o) = true → C e) e h (fun t b o q1 _ => k t b o q1) h q
noncomputable def onSIf (e : PySem.Stmt) (f : PySem.Expr → (List Stmt) → (List Stmt) → Bool) : Bool := if h : e.ctorIdx = 12 then PySem.Stmt.If.elim (motive_2 := fun _ => Bool) e h (fun t b o _ => f t b o) else false
@[elab_as_elim] theorem onSIf_of {e : PySem.Stmt} {f : PySem.Expr → (List Stmt) → (List Stmt) → Bool} {C : PySem.Stmt → Prop} (h : onSIf e f = true) (k : ∀ t b o q1, f t b o = true → C (.If t b o q1)) : C e :=
  (dif_of h).elim fun h q => PySem.Stmt.If.elim (motive_2 := fun e => ∀ h, PySem.Stmt.If.elim (motive_2 := fun _ => Bool) e h (fun t b o _ => f t b o) = true → C e) e h (fun t b o q1 _ => k t b o q1) h q
noncomputable def onSExpr (e : PySem.Stmt) (f : PySem.Expr → Bool) : Bool := if h : e.ctorIdx = 24 then PySem.Stmt.Expr.elim (motive_2 := fun _ => Bool) e h (fun v _ => f v) else false
@[elab_as_elim] theorem onSExpr_of {e : PySem.Stmt} {f : PySem.Expr → Bool} {C : PySem.Stmt → Prop} (h : onSExpr e f = true) (k : ∀ v q1, f v = true → C (.Expr v q1)) : C e :=
  (dif_of h).elim fun h q => PySem.Stmt.Expr.elim (motive_2 := fun e => ∀ h, PySem.Stmt.Expr.elim (motive_2 := fun _ => Bool) e h (fun v _ => f v) = true → C e) e h (fun v q1 _ => k v q1) h q
noncomputable def onSContinue (e : PySem.Stmt) (f : Bool) : Bool := if h : e.ctorIdx = 27 then PySem.Stmt.Continue.elim (motive_2 := fun _ => Bool) e h (fun _ => f) else false
@[elab_as_elim] theorem onSContinue_of {e : PySem.Stmt} {f : Bool} {C : PySem.Stmt → Prop} (h : onSContinue e f = true) (k : ∀ q1, f = true → C (.Continue q1)) : C e :=
  (dif_of h).elim fun h q => PySem.Stmt.Continue.elim (motive_2 := fun e => ∀ h, PySem.Stmt.Continue.elim (motive_2 := fun _ => Bool) e h (fun _ => f ) = true → C e) e h (fun q1 _ => k q1) h q

noncomputable def isComp : IE → Bool
  | .comp _ _ _ _ _ _ _ _ => true
  | _ => false
noncomputable def tgtNm (ns : List Str) (x : PySem.Expr) : Tgt → Bool
  | .one k => isNm ns k x
  | .many _ => false
noncomputable def isLitN : IE → Bool
  | .lit v => isN v
  | _ => false
noncomputable def chkS (B : Tbl) : IS → Scope → List Str → List Stmt → Bool
  | .nil, _, _, ss => ss.isEmpty
  | .expr a r, sc, ns, ss => onC ss fun s rest => onSExpr s fun v => notComp v && (chkE B a sc ns v && chkS B r sc ns rest)
  | .asg t a r, sc, ns, ss => onC ss fun s rest => onSAssign s fun ts v p => on1 ts fun x => chkE B a sc ns v && ((storesOk sc ns x v t p.line || (isComp a && (isNone sc x v p.line && tgtNm ns x t))) && chkS B r sc ns rest)
  | .asgA c f a b r, sc, ns, ss => onC ss fun s rest => onSAssign s fun ts v _ => on1 ts fun x => onAttribute x fun o n _ => (B.T.flds c)[f]? == some n && (notComp v && (chkE B a sc ns o && (chkE B b sc ns v && chkS B r sc ns rest)))
  | .asgS a b c r, sc, ns, ss => onC ss fun s rest => onSAssign s fun ts v _ => on1 ts fun x => onSubscript x fun o i => notSlice i && (notComp v && (chkE B a sc ns o && (chkE B b sc ns i && (chkE B c sc ns v && chkS B r sc ns rest))))
  | .ite c a b r, sc, ns, ss => onC ss fun s rest => onSIf s fun t b1 b2 => chkT B c sc ns t && (chkS B a sc ns b1 && (chkS B b sc ns b2 && chkS B r sc ns rest))
  | .whl c b r, sc, ns, ss => onC ss fun s rest => onSWhile s fun t b1 o => o.isEmpty && (chkT B c sc ns t && (chkS B b sc ns b1 && chkS B r sc ns rest))
  | .for_ t a b r, sc, ns, ss => onC ss fun s rest => onSFor s fun x i b1 o => o.isEmpty && (chkTgt ns x t && (notSet i && (chkE B a sc ns i && (chkS B b sc ns b1 && chkS B r sc ns rest))))
  | .ret a, sc, ns, ss => onC ss fun s _ => onSReturn s fun v => match v with
    | some v => chkE B a sc ns v
    | none => isLitN a
  | .cont, _, _, ss => onC ss fun s _ => onSContinue s true
  | .bad, _, _, _ => true

theorem isLitN_of {ie : IE} (h : isLitN ie = true) : ie = .lit .non := by
  cases ie with
  | lit v => exact congrArg _ (isN_of h)
  | _ => exact nomatch h
variable {L : Lg} {a b c : IE} {t : IT} {r i j : IS}
noncomputable def PS (L : Lg) (is : IS) : Prop := ∀ {sc : Scope} {ns : List Str} {ss : List Stmt}, sc.kind = .function → chkS L.X.B is sc ns ss = true → SX L sc ns ss is
section
variable (hn : L.n ≤ 1000) (C : Cx L.X) (CO : CallOk L)
include hn C CO
theorem cs_asgC {sc : Scope} {ns : List Str} {x v : PySem.Expr} {p : Pos} {rest : List Stmt} {tg : Tgt} (hc : isComp a = true) (h : chkE L.X.B a sc ns v = true) (h1 : isNone sc x v p.line = true) (h2 : tgtNm ns x tg = true) (hr : SX L sc ns rest r) : SX L sc ns (.Assign [x] v p :: rest) (.asg tg a r) := by
  cases tg with
  | many _ => exact nomatch h2
  | one k =>
    obtain ⟨y, q, rfl, hy⟩ := isNm_of h2
    cases a with
    | comp m names caps en tc src cond elt =>
      revert h1
      exact cp_of h C (ck_e hn C CO _) (ck_t hn C CO _) (ck_e hn C CO _) fun _ _ _ _ _ _ K h1 => sx_asgC hn K.K K.ht K.tup K.set K.src K.c K.e h1 hy hr
    | _ => exact nomatch hc
theorem cs_expr (hr : PS L r) : PS L (.expr a r) := fun hk h => onC_of h fun _ _ h => onSExpr_of h fun _ _ h => have h := and2 h; have q := and2 h.2; sx_expr hk h.1 (ck_e hn C CO _ q.1) (hr hk q.2)
theorem cs_asg {tg : Tgt} (hr : PS L r) : PS L (.asg tg a r) := fun hk h => onC_of h fun _ _ h => onSAssign_of h fun _ _ _ h => on1_of h fun _ h => have h := and2 h; have q := and2 h.2
  (Bool.or_eq_true_iff.mp q.1).elim (fun z => sx_asg z (ck_e hn C CO _ h.1) (hr hk q.2)) fun z => have z := and2 z; have w := and2 z.2; cs_asgC hn C CO z.1 h.1 w.1 w.2 (hr hk q.2)
theorem cs_asgA {d f : Nat} (hr : PS L r) : PS L (.asgA d f a b r) := fun hk h => onC_of h fun _ _ h => onSAssign_of h fun _ _ _ h => on1_of h fun _ h => onAttribute_of h fun _ _ _ h => have h := and2 h; have q := and2 h.2; have w := and2 q.2; have z := and2 w.2
  sx_asgA C (beq_iff_eq.mp h.1) q.1 (ck_e hn C CO _ w.1) (ck_e hn C CO _ z.1) (hr hk z.2)
theorem cs_asgS (hr : PS L r) : PS L (.asgS a b c r) := fun hk h => onC_of h fun _ _ h => onSAssign_of h fun _ _ _ h => on1_of h fun _ h => onSubscript_of h fun _ _ _ h => have h := and2 h; have q := and2 h.2; have w := and2 q.2; have z := and2 w.2; have y := and2 z.2
  sx_asgS h.1 q.1 (ck_e hn C CO _ w.1) (ck_e hn C CO _ z.1) (ck_e hn C CO _ y.1) (hr hk y.2)
theorem cs_ite (hi : PS L i) (hj : PS L j) (hr : PS L r) : PS L (.ite t i j r) := fun hk h => onC_of h fun _ _ h => onSIf_of h fun _ _ _ _ h => have h := and2 h; have q := and2 h.2; have w := and2 q.2; sx_ite ((ck_t hn C CO _).t h.1) (hi hk q.1) (hj hk w.1) (hr hk w.2)
theorem cs_whl (hi : PS L i) (hr : PS L r) : PS L (.whl t i r) := fun hk h => onC_of h fun _ _ h => onSWhile_of h fun _ _ _ _ h => nilb h fun h => have h := and2 h; have q := and2 h.2; sx_whl ((ck_t hn C CO _).t h.1) (hi hk q.1) (hr hk q.2)
theorem cs_for {tg : Tgt} (hi : PS L i) (hr : PS L r) : PS L (.for_ tg a i r) := fun hk h => onC_of h fun _ _ h => onSFor_of h fun _ _ _ _ _ h => nilb h fun h => have h := and2 h; have q := and2 h.2; have w := and2 q.2; have z := and2 w.2
  sx_for h.1 q.1 (ck_e hn C CO _ w.1) (hi hk z.1) (hr hk z.2)
theorem cs_ret : PS L (.ret a) := fun hk h => onC_of h fun _ _ h => onSReturn_of h fun v _ h => by
  cases v with
  | none => exact isLitN_of h ▸ sx_ret0
  | some v => exact sx_ret (ck_e hn C CO _ h)
theorem ck_s : ∀ is, PS L is := @IS.rec (PS L) (fun hk h => nil1 h sx_nil) (fun _ _ hr => cs_expr hn C CO hr) (fun _ _ _ hr => cs_asg hn C CO hr) (fun _ _ _ _ _ hr => cs_asgA hn C CO hr) (fun _ _ _ _ hr => cs_asgS hn C CO hr) (fun _ _ _ _ hi hj hr => cs_ite hn C CO hi hj hr)
  (fun _ _ _ hi hr => cs_whl hn C CO hi hr) (fun _ _ _ _ hi hr => cs_for hn C CO hi hr) (fun _ => cs_ret hn C CO) (fun _ h => onC_of h fun _ _ h => onSContinue_of h fun _ _ => sx_cont) fun _ _ => sx_bad
end
end Mini
end

section
open PySem PySem.W PyProof.Rows PySem.Calls
namespace Mini

theorem lookup_self {α : Type} {x : Str} {v : α} {r : List (Str × α)} : ((x, v) :: r).lookup x = some v := by rw [List.lookup_cons, beq_self_eq_true]
theorem lookup_ne {α : Type} {x y : Str} {v : α} {r : List (Str × α)} (h : x ≠ y) : ((y, v) :: r).lookup x = r.lookup x := by rw [List.lookup_cons, beq_eq_false_iff_ne.mpr h]
theorem lookup_zip {α : Type} : ∀ {ns : List Str} {vs : List α} {i : Nat} {x : Str}, ns.Nodup → ns[i]? = some x → (ns.zip vs).lookup x = vs[i]?
  | [], _, _, _, _, e => clash List.getElem?_nil e
  | _ :: _, [], _, _, _, _ => rfl
  | _ :: _, _ :: _, 0, _, _, e => Option.some.inj e ▸ lookup_self
  | n :: ns, _ :: _, i + 1, x, nd, e => (lookup_ne fun (q : x = n) => (List.nodup_cons.mp nd).1 (q ▸ List.mem_of_getElem? (l := ns) (i := i) e)).trans (lookup_zip (List.nodup_cons.mp nd).2 e)
theorem bind_loop (f : Str × Value → List (Str × Value) → Sem (ForInStep (List (Str × Value)))) (hf : ∀ x a, f x a = if (a.lookup x.1).isNone = true then pure (.yield (a ++ [(x.1, x.2)])) else pure (.yield a)) :
    ∀ (l acc : List (Str × Value)), ∃ S, forIn l acc f = pure S ∧ ∀ x, S.lookup x = (acc.lookup x).or (l.lookup x)
  | [], acc => ⟨acc, rfl, fun x => Option.or_none.symm⟩
  | (n, v) :: l, acc => by
    rw [List.forIn_cons, hf]
    by_cases h : (acc.lookup n).isNone = true
    · refine (bind_loop f hf l (acc ++ [(n, v)])).imp fun S q => ⟨by rw [if_pos h, pure_bind]; exact q.1, fun x => ?_⟩
      rw [q.2 x, List.lookup_append, Option.or_assoc]
      by_cases z : x = n
      · subst z; rw [lookup_self, lookup_self]; rfl
      · rw [lookup_ne z, lookup_ne z]; rfl
    · refine (bind_loop f hf l acc).imp fun S q => ⟨by rw [if_neg h, pure_bind]; exact q.1, fun x => ?_⟩
      rw [q.2 x]
      by_cases z : x = n
      · subst z
        cases e : acc.lookup x with
        | none => rw [e] at h; exact absurd rfl h
        | some w => rfl
      · rw [lookup_ne z]
noncomputable abbrev fmL (S : List (Str × Value)) (ns : List Str) : List (Str × Value) := ns.filterMap fun n => (S.lookup n).map (n, ·)
section
variable {S : List (Str × Value)}
theorem fm_some {n : Str} {ns : List Str} {v : Value} (e : S.lookup n = some v) : fmL S (n :: ns) = (n, v) :: fmL S ns := List.filterMap_cons_some (by rw [e]; rfl)
theorem fm_none {n : Str} {ns : List Str} (e : S.lookup n = none) : fmL S (n :: ns) = fmL S ns := List.filterMap_cons_none (by rw [e]; rfl)
theorem fm_get {x : Str} {v : Value} (e : S.lookup x = some v) : ∀ {ns : List Str}, x ∈ ns → (fmL S ns).lookup x = some v
  | n :: ns, h => by
    by_cases q : x = n
    · subst q; rw [fm_some e]; exact lookup_self
    · have ih := fm_get e ((List.mem_cons.mp h).resolve_left q)
      cases f : S.lookup n with
      | none => rw [fm_none f]; exact ih
      | some w => rw [fm_some f, lookup_ne q]; exact ih
theorem fm_sub : ∀ {ns : List Str}, ((fmL S ns).map (·.1)).Sublist ns
  | [] => .slnil
  | n :: ns => by
    cases f : S.lookup n with
    | none => rw [fm_none f]; exact .cons n fm_sub
    | some w => rw [fm_some f]; exact .cons_cons n fm_sub
end

structure Bnd (ns : List Str) (vals dv : List Value) (binds : List (Str × Value)) : Prop where
  nd : (binds.map (·.1)).Nodup
  key : ∀ p ∈ binds, p.1 ∈ ns
  get : ∀ {i : Nat} {x : Str} {c : Value}, ns[i]? = some x → (vals[i]?).or (if ns.length - dv.length ≤ i then dv[i - (ns.length - dv.length)]? else none) = some c → binds.lookup x = some c
theorem wpE {M : Model} {A : Around} {E : Value → Shared → Prop} {s : Shared} {α : Type} {m m' : Sem α} {Q : α → Shared → Prop} (e : m = m') (h : wpAny M A m' Q E s) : wpAny M A m Q E s := e ▸ h
theorem bind_core {M : Model} {A : Around} {E : Value → Shared → Prop} {s : Shared} {vals dd : List Value} {ns : List Str} {Q : List (Str × Value) → Shared → Prop} {T : Sem (List (Str × Value))} {k : List (Str × Value) → Sem (List (Str × Value))}
   (l2 : ns.length - dd.length ≤ vals.length) (nd : ns.Nodup) (h : ∀ {binds}, Bnd ns vals dd binds → Q binds s) (hk : ∀ {S}, Q (fmL S ns) s → wpAny M A (k S) Q E s) :
   wpAny M A (if (!(List.filter (fun n => (List.lookup n (ns.zip vals)).isNone) (List.take (ns.length - dd.length) ns)).isEmpty) = true then T else
     forIn ((List.drop (ns.length - dd.length) ns).zip dd) (ns.zip vals) (fun x S => if (List.lookup x.1 S).isNone = true then pure (ForInStep.yield (S ++ [(x.1, x.2)])) else pure (ForInStep.yield S)) >>= k) Q E s := by
  refine wpE (if_neg fun z => ?_) ?_
  · rw [Bool.not_eq_true', List.isEmpty_eq_false_iff] at z
    refine z (List.filter_eq_nil_iff.mpr fun x hx q => ?_)
    obtain ⟨i, hi⟩ := List.getElem?_of_mem hx
    have hj := (List.getElem?_eq_some_iff.mp hi).1
    rw [List.length_take] at hj
    have hj := Nat.lt_of_lt_of_le hj (Nat.min_le_left _ _)
    rw [List.getElem?_take_of_lt hj] at hi
    rw [lookup_zip nd hi, List.getElem?_eq_getElem (Nat.lt_of_lt_of_le hj l2)] at q
    exact nomatch q
  · obtain ⟨S, e, q⟩ := bind_loop (fun x r => if (List.lookup x.1 r).isNone = true then pure (ForInStep.yield (r ++ [(x.1, x.2)])) else pure (ForInStep.yield r)) (fun _ _ => rfl) ((List.drop (ns.length - dd.length) ns).zip dd) (ns.zip vals)
    refine wpAny_bind (wpAny_of_eq e (hk (h ⟨fm_sub.nodup nd, fun p hp => fm_sub.subset (List.mem_map.mpr ⟨p, hp, rfl⟩), fun {i x c} hx hc => fm_get ?_ (List.mem_of_getElem? hx)⟩)))
    rw [q x, lookup_zip nd hx]
    refine Eq.trans (congrArg (vals[i]?).or ?_) hc
    by_cases hi : ns.length - dd.length ≤ i
    · rw [if_pos hi]
      exact lookup_zip (nd.sublist (List.drop_sublist _ _)) (by rw [List.getElem?_drop, Nat.add_sub_cancel' hi]; exact hx)
    · rw [if_neg hi]
      cases f : ((List.drop (ns.length - dd.length) ns).zip dd).lookup x with
      | none => rfl
      | some w =>
        obtain ⟨j, hj⟩ := List.getElem?_of_mem (List.of_mem_zip (mem_of_lookup f)).1
        rw [List.getElem?_drop] at hj
        exact absurd ((List.getElem?_inj (List.getElem?_eq_some_iff.mp hx).1 nd).mp (hx.trans hj.symm) ▸ Nat.le_add_right _ _) hi
theorem bind_plain {M : Model} {A : Around} {E : Value → Shared → Prop} {s : Shared} {fd : FuncData} {vals dv : List Value} {as : List Arg} {ko : List (Option PySem.Expr)} {df : List PySem.Expr} {Q : List (Str × Value) → Shared → Prop} {D : Option (Array Value)}
   (hp : fd.params = ⟨[], as, none, [], ko, none, df⟩) (hd : ∀ (Q : Option (Array Value) → Shared → Prop), Q D s → wpAny M A (seqItems? fd.defaults) Q E s) (hD : (D.getD #[]).toList = dv)
   (l1 : vals.length ≤ (as.map (·.arg)).length) (l2 : (as.map (·.arg)).length - dv.length ≤ vals.length) (l3 : dv.length ≤ (as.map (·.arg)).length) (nd : (as.map (·.arg)).Nodup)
   (h : ∀ {binds}, Bnd (as.map (·.arg)) vals dv binds → Q binds s) : wpAny M A (bindArgs fd ⟨vals, []⟩) Q E s := by
  unfold bindArgs
  rw [hp]
  refine wpAny_bind (wpAny_pure (wpAny_bind (hd _ ?_)))
  dsimp only
  refine wpE (if_neg fun q => ?_) ?_
  · exact absurd (of_decide_eq_true (and2 q).1) (Nat.not_lt.mpr l1)
  have e : (D.getD #[]).toList.drop ((D.getD #[]).toList.length - (as.map (·.arg)).length) = dv := by rw [hD, Nat.sub_eq_zero_of_le l3]; rfl
  refine bind_core (dd := (D.getD #[]).toList.drop ((D.getD #[]).toList.length - (as.map (·.arg)).length)) (ns := as.map (·.arg)) (e.symm ▸ l2) nd (e.symm ▸ h) fun {S} q => ?_
  exact wpAny_bind (wpAny_pure (wpAny_pure (show Q (fmL S (as.map (·.arg) ++ [])) s from (List.append_nil _).symm ▸ q)))

theorem cells_some {x : Str} : ∀ {l : List (Str × NameKind)} {n : Nat} {acc : List (Str × Addr)}, ((x, NameKind.cell) ∈ l ∨ (acc.lookup x).isSome = true) → ((cellsFrom n l acc).lookup x).isSome = true
  | [], _, _, h => h.resolve_left fun z => nomatch z
  | (y, k) :: r, n, acc, h => by
    unfold cellsFrom
    by_cases hk : (k == NameKind.cell) = true
    · rw [if_pos hk]
      refine cells_some ?_
      by_cases z : x = y
      · subst z; exact .inr (by rw [lookup_self]; rfl)
      · rw [lookup_ne z]
        exact h.imp (fun h => (List.mem_cons.mp h).resolve_left fun e => z (congrArg Prod.fst e)) id
    · rw [if_neg hk]
      exact cells_some (h.imp (fun h => (List.mem_cons.mp h).resolve_left fun e => hk (beq_iff_eq.mpr (congrArg Prod.snd e).symm)) id)

section
variable {x : Str} {G : List (Str × Value) → (Str → Option Value) → Str → Option Value} (h0 : ∀ m, G [] m = m) (h1 : ∀ {v r m}, G ((x, v) :: r) m x = G r (fun y => if y = x then some v else m y) x) (h2 : ∀ {n v r m}, n ≠ x → ∃ m', G ((n, v) :: r) m = G r m' ∧ m' x = m x)
include h0 h2
theorem bindG_out : ∀ {binds : List (Str × Value)} {m : Str → Option Value}, x ∉ binds.map (·.1) → G binds m x = m x
  | [], m, _ => congrFun (h0 m) x
  | (n, v) :: r, m, h => (h2 fun z => h (z ▸ .head _)).elim fun _ q => (congrFun q.1 x).trans ((bindG_out fun z => h (.tail _ z)).trans q.2)
include h1
theorem bindG_get {c : Value} : ∀ {binds : List (Str × Value)} {m : Str → Option Value}, (binds.map (·.1)).Nodup → binds.lookup x = some c → G binds m x = some c
  | (n, v) :: r, m, nd, e => by
    have nd' := List.nodup_cons.mp nd
    by_cases z : x = n
    · subst z
      rw [lookup_self] at e
      exact (h1.trans (bindG_out h0 h2 nd'.1)).trans ((if_pos rfl).trans e)
    · exact (h2 fun y => z y.symm).elim fun _ q => (congrFun q.1 x).trans (bindG_get nd'.2 ((lookup_ne z).symm.trans e))
end
theorem bindL_get {kindOf : Str → Option NameKind} {x : Str} {c : Value} (hx : kindOf x = some .local) {binds : List (Str × Value)} {m : Str → Option Value} (nd : (binds.map (·.1)).Nodup) (e : binds.lookup x = some c) : bindL kindOf binds m x = some c :=
  bindG_get (G := bindL kindOf) (fun _ => rfl) (fun {v r m} => by show bindL kindOf r (if _ then _ else _) x = _; rw [if_pos hx]) (fun z => ⟨_, rfl, by
    split
    · exact if_neg z.symm
    · rfl⟩) nd e
theorem bindC_get {kindOf : Str → Option NameKind} {x : Str} {c : Value} (hx : kindOf x ≠ some .local) {binds : List (Str × Value)} {m : Str → Option Value} (nd : (binds.map (·.1)).Nodup) (e : binds.lookup x = some c) : bindC kindOf binds m x = some c :=
  bindG_get (G := bindC kindOf) (fun _ => rfl) (fun {v r m} => by show bindC kindOf r (if _ then _ else _) x = _; rw [if_neg hx]) (fun z => ⟨_, rfl, by
    split
    · rfl
    · exact if_neg z.symm⟩) nd e
end Mini
end

section
open PySem PySem.W PyProof.Rows PySem.Calls
namespace Mini

noncomputable def allV (p : AV → Value → Bool) : List AV → List Value → Bool
  | [], cs => cs.isEmpty
  | v :: vs, cs => onC cs fun c cs => p v c && allV p vs cs
theorem allV_all {T : Sta} {g : Gh} {p : AV → Value → Bool} (hp : ∀ {v c}, p v c = true → VR T g v c) : ∀ {ds : List AV} {cs : List Value}, allV p ds cs = true → VRs T g ds cs
  | [], _, e => nil1 e rfl
  | _ :: _, _, e => onC_of e fun _ _ e => ⟨_, _, rfl, hp (and2 e).1, allV_all hp (and2 e).2⟩

noncomputable def seqD (d : Data) (f : List Value → Bool) : Bool := match d with
  | .seq items _ => f items.toList
  | _ => false
theorem seqD_of {d : Data} {f : List Value → Bool} (h : seqD d f = true) : ∃ its n, d = .seq its n ∧ f its.toList = true := by
  cases d with
  | seq its n => exact ⟨its, n, rfl, h⟩
  | _ => exact nomatch h
noncomputable def strD (q : Str) : Value → Bool
  | .str x _ => x == q
  | _ => false
theorem strD_of {q : Str} {v : Value} (h : strD q v = true) : ∃ t, v = .str q t := by
  cases v with
  | str x t => exact ⟨t, beq_iff_eq.mp h ▸ rfl⟩
  | _ => exact nomatch h
noncomputable def codeD (q : Str) : Data → Bool
  | .fields vs => (vs[1]? : Option Value).any (strD q)
  | _ => false
theorem codeD_of {q : Str} {d : Data} (h : codeD q d = true) : ∃ vs t, d = .fields vs ∧ vs[1]? = some (Value.str q t) := by
  cases d with
  | fields vs => exact (any_some h).elim fun v p => (strD_of p.2).elim fun t e => ⟨vs, t, rfl, e ▸ p.1⟩
  | _ => exact nomatch h
noncomputable def funD (d : Data) (f : FuncData → List Stmt → Bool) : Bool := match d with
  | .func fd => (match fd.body with | .stmts b => f fd b | _ => false)
  | _ => false
theorem funD_of {d : Data} {f : FuncData → List Stmt → Bool} (h : funD d f = true) : ∃ fd b, d = .func fd ∧ fd.body = .stmts b ∧ f fd b = true := by
  cases d with
  | func fd =>
    have h : (match fd.body with | .stmts b => f fd b | _ => false) = true := h
    cases e : fd.body with
    | stmts b => rw [e] at h; exact ⟨fd, b, rfl, e, h⟩
    | _ => rw [e] at h; exact nomatch h
  | _ => exact nomatch h
noncomputable def refA (v : Value) : Option Addr := match v with
  | .ref a => some a
  | _ => none
theorem refA_of {v : Value} {a : Addr} (h : refA v = some a) : v = .ref a := by
  cases v with
  | ref b => exact congrArg _ (Option.some.inj h)
  | _ => exact clash rfl h
noncomputable def isNoneV : Value → Bool
  | .none => true
  | _ => false
theorem isNoneV_of {v : Value} (h : isNoneV v = true) : v = .none := by
  cases v <;> first | rfl | exact nomatch h

noncomputable def dfltsOk (B : Tbl) (v : Value) (ds : List AV) : Bool := (isNoneV v && ds.isEmpty) || (refA v).any fun t => (B.K.lookup t).any fun o => seqD o.data (allV B.vr ds)
noncomputable def codeOk (K : Frag) (cd : Value) (q : Str) : Bool := (refA cd).any fun c => (K.lookup c).any fun o => codeD q o.data
noncomputable def fdOk (B : Tbl) (fd : FuncData) (fn : Fn) : Bool :=
  fd.scope.kind == .function && (!fd.scope.isCoroutine && (!fd.scope.isGenerator && (fd.closure.isEmpty && (decide (fd.globals = mainGlobals) && (decide (fd.builtins = builtinsNs) &&
  (fd.params.posonlyargs.isEmpty && (fd.params.kwonlyargs.isEmpty && (fd.params.vararg.isNone && (fd.params.kwarg.isNone && ((fd.params.args.map (·.arg)) == fn.names.take fn.nargs &&
  (decide fn.names.Nodup && (decide (fn.nargs ≤ fn.names.length) && (decide (fn.dflts.length ≤ fn.nargs) && (fn.names.all (fun x => fd.scope.names.lookup x == some .local || fd.scope.names.lookup x == some .cell) &&
  (dfltsOk B fd.defaults fn.dflts && codeOk B.K fd.code fd.qualname)))))))))))))))
structure FdIs (B : Tbl) (fd : FuncData) (fn : Fn) : Prop where
  kind : fd.scope.kind = .function
  co : fd.scope.isCoroutine = false
  gen : fd.scope.isGenerator = false
  clo : fd.closure = []
  glob : fd.globals = mainGlobals
  blt : fd.builtins = builtinsNs
  par : ∃ ko df, fd.params = ⟨[], fd.params.args, none, [], ko, none, df⟩
  args : fd.params.args.map (·.arg) = fn.names.take fn.nargs
  nd : fn.names.Nodup
  le : fn.nargs ≤ fn.names.length
  dl : fn.dflts.length ≤ fn.nargs
  all : ∀ x ∈ fn.names, fd.scope.names.lookup x = some .local ∨ fd.scope.names.lookup x = some .cell
  df : dfltsOk B fd.defaults fn.dflts = true
  code : codeOk B.K fd.code fd.qualname = true
theorem params_of {p : Arguments} (h1 : p.posonlyargs.isEmpty = true) (h2 : p.kwonlyargs.isEmpty = true) (h3 : p.vararg.isNone = true) (h4 : p.kwarg.isNone = true) : ∃ ko df, p = ⟨[], p.args, none, [], ko, none, df⟩ := by
  obtain ⟨a, b, c, d, e, f, g⟩ := p
  cases a with
  | cons _ _ => exact nomatch h1
  | nil =>
    cases c with
    | some _ => exact nomatch h3
    | none =>
      cases d with
      | cons _ _ => exact nomatch h2
      | nil =>
        cases f with
        | some _ => exact nomatch h4
        | none => exact ⟨e, g, rfl⟩
theorem not_of {b : Bool} (h : (!b) = true) : b = false := (Bool.not_eq_true' b).mp h
theorem fdOk_of {B : Tbl} {fd : FuncData} {fn : Fn} (h : fdOk B fd fn = true) : FdIs B fd fn :=
  have h1 := and2 h; have h2 := and2 h1.2; have h3 := and2 h2.2; have h4 := and2 h3.2; have h5 := dcd h4.2; have h6 := dcd h5.2; have h7 := and2 h6.2; have h8 := and2 h7.2; have h9 := and2 h8.2; have h10 := and2 h9.2; have h11 := and2 h10.2; have h12 := dcd h11.2; have h13 := dcd h12.2; have h14 := dcd h13.2; have h15 := and2 h14.2; have h16 := and2 h15.2
  ⟨beq_iff_eq.mp h1.1, not_of h2.1, not_of h3.1, List.isEmpty_iff.mp h4.1, h5.1, h6.1, params_of h7.1 h8.1 h9.1 h10.1, beq_iff_eq.mp h11.1, h12.1, h13.1, h14.1, fun x hx => (Bool.or_eq_true_iff.mp (all2 h15.1 hx)).imp beq_iff_eq.mp beq_iff_eq.mp, h16.1, h16.2⟩

variable {X : Wo} {g g' : Gh} {V V' : Pm} {H H' : AH} {s : Shared} {h h' : Heap} {A : Around} {E : Value → Shared → Prop}
theorem codeRec_of {cd : Value} {q : Str} (I : X.B.K.In h) (e : codeOk X.B.K cd q = true) : h.CodeRec cd q :=
  (any_some e).elim fun c p => (any_some p.2).elim fun o w => (codeD_of w.2).elim fun vs z => z.elim fun t z => ⟨c, o, vs, t, refA_of p.1, I _ _ w.1, z.1, z.2⟩
theorem dflts_of {v : Value} {ds : List AV} (C : Cx X) (R : Rel X g V H s) (e : dfltsOk X.B v ds = true) :
    ∃ D dv, (∀ {A : Around} {E : Value → Shared → Prop} (Q : Option (Array Value) → Shared → Prop), Q D s → wpAny X.M A (seqItems? v) Q E s) ∧ (D.getD #[]).toList = dv ∧ VRs X.B.T g ds dv :=
  (Bool.or_eq_true_iff.mp e).elim (fun e => have e := and2 e; ⟨none, [], fun _ q => isNoneV_of e.1 ▸ wpAny_pure q, rfl, nil1 e.2 rfl⟩)
    fun e => (any_some e).elim fun t p => (any_some p.2).elim fun o w => by
      obtain ⟨oc, od, d, sl⟩ := o
      obtain ⟨its, n, rfl, q⟩ := seqD_of w.2
      have w1 := R.inK C _ _ w.1
      refine ⟨some its, _, fun Q hq => ?_, rfl, allV_all (fun e => C.vr e R.low) q⟩
      rw [refA_of p.1]; exact wpAny_seqItems w1 rfl hq

noncomputable def Pm.over (V : Pm) (W : Addr → Prop) (h : Heap) : Pm := fun b => open Classical in if W b then h.get? b else V b
theorem Pm.over_in {W : Addr → Prop} {b : Addr} (w : W b) : V.over W h b = h.get? b := if_pos w
theorem Pm.over_out {W : Addr → Prop} {b : Addr} (w : ¬ W b) : V.over W h b = V b := if_neg w
theorem Rel.over {W : Addr → Prop} (R : Rel X g V H s) (f : ∀ {b}, W b → Free g V b) : Rel X g (V.over W s.heap) H s :=
  have cas : ∀ {a : Addr} {o : Obj} {C : Prop}, V.over W s.heap a = some o → (W a → s.heap.get? a = some o → C) → (V a = some o → C) → C := fun {a _ _} q k1 k2 => (Classical.em (W a)).elim (fun w => k1 w ((Pm.over_in w).symm.trans q)) fun w => k2 ((Pm.over_out w).symm.trans q)
  ⟨R.same, R.low, R.zed, fun q => cas q (fun _ e => e) R.prv, fun q => cas q (fun w _ => (f w).z) R.zf, R.len, R.obj, R.mz, fun e => (Pm.over_out fun w => (f w).m e rfl).trans (R.mf e), R.inj⟩
end Mini
end

section
open PySem PySem.W PyProof.Rows PySem.Calls
namespace Mini
variable {X : Wo} {g g' : Gh} {V V' : Pm} {H H' : AH} {s : Shared} {h h' : Heap} {A : Around} {E : Value → Shared → Prop}

theorem app_at {α : Type} {l r : List α} {b : α} {i : Nat} {C : Prop} (e : (l ++ r)[i]? = some b) (h1 : l[i]? = some b → C) (h2 : l.length ≤ i → r[i - l.length]? = some b → C) : C :=
  (Nat.lt_or_ge i l.length).elim (fun q => h1 ((List.getElem?_append_left q).symm.trans e)) fun q => h2 q ((List.getElem?_append_right q).symm.trans e)
theorem start_slot {fn : Fn} {binds : List (Str × Value)} {vals dv : List Value} {vs : List AV} {k : Nat} {x : Str} {v : AV} {as : List Str} (ha : as = fn.names.take fn.nargs) (hn : fn.nargs ≤ fn.names.length) (hd : fn.dflts.length ≤ fn.nargs) (B : Bnd as vals dv binds) (rd : VRs X.B.T g fn.dflts dv)
    (hlen : vals.length = vs.length) (rs : ∀ {k : Nat} {v : AV} {c : Value}, vs[k]? = some v → vals[k]? = some c → v = .unb ∨ VR X.B.T g v c) (h1 : vs.length ≤ fn.nargs) (h2 : fn.nargs ≤ vs.length + fn.dflts.length) (hx : fn.names[k]? = some x)
    (hv : (vs ++ fn.dflts.drop (fn.dflts.length - (fn.nargs - vs.length)) ++ List.replicate (fn.names.length - fn.nargs) .unb)[k]? = some v) : v = .unb ∨ ∃ c, binds.lookup x = some c ∧ VR X.B.T g v c := by
  have hal : as.length = fn.nargs := by rw [ha, List.length_take, Nat.min_eq_left hn]
  have nm : k < fn.nargs → as[k]? = some x := fun q => ha ▸ (List.getElem?_take_of_lt q).trans hx
  refine app_at hv (fun hv => app_at hv (fun hv => ?_) fun q hv => ?_) fun _ hv => .inl (List.eq_of_mem_replicate (List.mem_of_getElem? hv))
  · have hk := (List.getElem?_eq_some_iff.mp hv).1
    have hc := List.getElem?_eq_getElem (hlen ▸ hk : k < vals.length)
    exact (rs hv hc).imp id fun r => ⟨_, B.get (nm (Nat.lt_of_lt_of_le hk h1)) (by rw [hc]; rfl), r⟩
  · obtain ⟨c, hc, r⟩ := (rd.drop _).get hv
    have hk := (List.getElem?_eq_some_iff.mp hv).1
    have hu := Nat.sub_le_iff_le_add'.mpr h2
    rw [List.length_drop, Nat.sub_sub_self hu] at hk
    rw [List.getElem?_drop] at hc
    have hl := rd.length
    refine .inr ⟨c, B.get (nm ((Nat.sub_lt_sub_iff_right q).mp hk)) ?_, r⟩
    rw [List.getElem?_eq_none (hlen ▸ q), Option.none_or, hal, hl, if_pos (Nat.le_trans (Nat.sub_le_iff_le_add.mpr h2) q), ← hc]
    refine congrArg (dv[·]?) ?_
    rw [Nat.sub_sub_right _ h1, Nat.sub_sub_right _ hd, ← Nat.sub_add_comm (Nat.add_comm .. ▸ h2), Nat.add_assoc, Nat.add_sub_cancel' q, Nat.add_comm]

structure In (X : Wo) (g : Gh) (V : Pm) (H : AH) (fd : FuncData) (fn : Fn) (vals : List Value) (ls : List AV) (env : Env) (V' : Pm) (s' : Shared) : Prop where
  sc : env.scope = fd.scope
  rel : Rel X g V' H s'
  fr : FR X g V' fn.names env ls
  new : ∀ {b}, Own env b → V b = none
  kp : ∀ b, ¬ Own env b → V' b = V b
  self : ∀ {k : Nat} {y : Str} {c : Value}, fn.names[k]? = some y → k < fn.nargs → env.kindOf y = some .local → vals[k]? = some c → ∃ m, Hd V' env.locals (nsOb m) ∧ m y = some c
theorem In.back {fd : FuncData} {fn : Fn} {vals : List Value} {ls : List AV} {env : Env} {V'' : Pm} {s' : Shared} {a : Addr} {o : Obj} (I : In X g V H fd fn vals ls env V' s') (k : Keep env V' V'') (e : V a = some o) : V'' a = some o :=
  have n : ¬ Own env a := fun q => clash (I.new q) e
  (k a n).trans ((I.kp a n).trans e)
theorem fn_enter {fd : FuncData} {fn : Fn} {body : List Stmt} {fa : Addr} {oc : Value} {od : Option Addr} {sl : Array (Option Value)} {vs ls : List AV} {vals : List Value} {R : Result → Shared → Prop} (C : Cx X) (hlim : X.s0.heap.NoLimit) (hfa : X.B.K.lookup fa = some ⟨oc, od, .func fd, sl⟩) (hbody : fd.body = .stmts body)
    (F : FdIs X.B fd fn) (hroom : A.depth < recursionLimit) (Rl : Rel X g V H s) (hlen : vals.length = vs.length) (rs : ∀ {k : Nat} {v : AV} {c : Value}, vs[k]? = some v → vals[k]? = some c → v = .unb ∨ VR X.B.T g v c) (hst : fn.start vs = some ls)
    (h : ∀ {E' : Value → Shared → Prop} {env : Env} {V' : Pm} {s' : Shared}, In X g V H fd fn vals ls env V' s' → wpAny X.M (A.deeper env) (execs body env) (fun f s' => R (.ok (.ret (match f with | .ret v => v | _ => .none))) s') E' s') :
    codeAny X.M A (.call (.ref fa) ⟨vals, []⟩) R s := by
  obtain ⟨ko, df, hp⟩ := F.par
  obtain ⟨D, dv, hd, hD, rd⟩ := dflts_of C Rl F.df
  have K := Rl.inK C
  have hal : (fd.params.args.map (·.arg)).length = fn.nargs := by rw [F.args, List.length_take, Nat.min_eq_left F.le]
  have hl := rd.length
  refine iff' hst fun hb e => codeAny_call_function hroom (K _ _ hfa) rfl F.co F.gen hbody (codeRec_of K F.code) (bind_plain hp hd hD (hal ▸ hlen ▸ hb.1) (hal ▸ hlen ▸ hl ▸ Nat.sub_le_iff_le_add.mpr hb.2) (hal ▸ hl ▸ F.dl) (F.args ▸ F.nd.sublist (List.take_sublist _ _)) fun {binds} B => ?_)
  rw [F.clo]
  have cel : ∀ {x}, fd.scope.names.lookup x = some .cell → ((cellsFrom (s.heap.objs.size + 1) fd.scope.names []).lookup x).isSome = true := fun q => cells_some (.inl (mem_of_lookup q))
  refine wpAny_newFunctionEnv_cells F.kind (fun p hp => (F.all _ (List.mem_of_mem_take (F.args ▸ B.key p hp))).imp id fun q => ⟨q, cel q⟩) fun env he s' I => ?_
  obtain ⟨h1, tk, rfl⟩ := I.toInCall.same
  have hl : env.locals = s.heap.objs.size := he ▸ rfl
  have hsc : env.scope = fd.scope := he ▸ rfl
  have hown : ∀ {b}, Own env b → s.heap.objs.size ≤ b ∧ ∃ o, h1.get? b = some o := fun q => q.elim (fun q => ⟨Nat.le_of_eq (q ▸ hl.symm), q ▸ I.toInCall.ns.imp fun _ z => z.elim fun _ z => z.elim fun _ z => z.1⟩)
    fun q => q.elim fun y q => ⟨Nat.le_of_lt (hl ▸ I.above y _ (mem_of_lookup q)), (I.cell y _ q).imp fun _ => And.left⟩
  have R1 := (Rl.ext (h' := h1) (tk := tk) I.toInCall.keep).over (W := Own env) fun w => Rl.free (hown w).1
  have slot : ∀ {k x v}, fn.names[k]? = some x → ls[k]? = some v → v = .unb ∨ ∃ c, binds.lookup x = some c ∧ VR X.B.T g v c := fun hx hv => start_slot F.args F.le F.dl B rd hlen rs hb.1 hb.2 hx (Option.some.inj e ▸ hv)
  have hm : Hd (V.over (Own env) h1) env.locals (nsOb (bindL env.kindOf binds fun _ => none)) := I.toInCall.ns.elim fun o q => q.elim fun es q => q.elim fun ep q => ⟨o, (Pm.over_in (.inl rfl)).trans q.1, es, ep, q.2⟩
  refine ⟨hlim.keeps fun b o e => I.toInCall.keep b o (Rl.zed (Rl.low e)), codeAny_func (h ⟨hsc, R1, ⟨hsc ▸ F.kind, by rw [he]; exact F.glob, by rw [he]; exact F.blt, F.nd, ?_, fun h1 h2 => name_of_addr I.apart (mem_of_lookup h1) (mem_of_lookup h2), fun hx => Nat.ne_of_gt (I.above _ _ (mem_of_lookup hx)),
    fun w => (hown w).2.imp fun _ q => (Pm.over_in w).trans q, _, hm, fun {k x v} hx hv => ?_⟩, fun w => (Rl.free (hown w).1).f, fun b w => Pm.over_out w, fun hy hk kd hc => ⟨_, hm, bindL_get kd B.nd (B.get (F.args ▸ (List.getElem?_take_of_lt hk).trans hy) (by rw [hc]; rfl))⟩⟩)⟩
  · rw [← Option.some.inj e, List.length_append, List.length_append, List.length_drop, List.length_replicate]
    rw [Nat.sub_sub_self (Nat.sub_le_iff_le_add'.mpr hb.2), Nat.add_sub_cancel' hb.1, Nat.add_sub_cancel' F.le]
  · have kd : env.kindOf x = fd.scope.names.lookup x := he ▸ rfl
    rcases F.all x (List.mem_of_getElem? hx) with q | q
    · exact ⟨_, .inl ⟨kd.trans q, rfl⟩, (slot hx hv).imp id fun z => z.imp fun c z => ⟨bindL_get (kd.trans q) B.nd z.1, z.2⟩⟩
    · refine some_of (cel q) fun a ha => ?_
      have ha : env.cells.lookup x = some a := by rw [he]; exact ha
      exact ⟨_, .inr ⟨.inl (kd.trans q), a, ha, (I.cell x a ha).imp fun o z => ⟨(Pm.over_in (.inr ⟨x, ha⟩)).trans z.1, z.2⟩⟩, (slot hx hv).imp id fun z => z.imp fun c z => ⟨bindC_get (fun y => by rw [kd.trans q] at y; exact nomatch y) B.nd z.1, z.2⟩⟩
end Mini
end

section
open PySem PySem.W PyProof.Rows PySem.Calls
namespace Mini

noncomputable def chkInit (B : Tbl) : IEs → Scope → List Str → List Str → List Stmt → Bool
  | .nil, _, _, fl, ss => fl.isEmpty && ss.isEmpty
  | .cons a r, sc, ns, fl, ss => onC ss fun s rest => onC fl fun f fl' => onSAssign s fun ts v _ => on1 ts fun t => onAttribute t fun o x _ => x == f &&
      (onName o (fun y => ns[0]? == some y && ((y == ("__debug__" : Str)) == false && sc.names.lookup y == some .local)) && (notComp v && (chkE B a sc ns v && chkInit B r sc ns fl' rest)))
structure Kn (X : Wo) (g : Gh) (V : Pm) (dx : Addr) (H : AH) (fl : List Str) (us : List AV) (Q : Flow → Shared → Prop) : Prop where
  go : ∀ {g' : Gh} {V' : Pm} {s' : Shared} {des : List DictEntry} {k : Nat} {cvs : List Value}, g.Le g' → Rel X g' V' H s' → V' dx = some (dictOf des k) → (∀ b, b ≠ dx → V' b = V b) → Ent fl cvs des → VRs X.B.T g' us cvs → Q .next s'
section
variable {L : Lg} {sc : Scope} {ns : List Str} {A : Around} {E : Value → Shared → Prop} (hn : L.n ≤ 1000) (C : Cx L.X) (CO : CallOk L) {c : Nat} {Ca x dx : Addr} {env : Env} {ls : List AV} {m0 : Str → Option Value} {H' : AH} {Q : Flow → Shared → Prop}
  (hcl : L.X.B.T.cls c = some Ca) (hdx : ¬ Own env dx) (hxd : x ≠ dx) (hs : ∀ {y}, ns[0]? = some y → m0 y = some (.ref x))
include hn C CO hcl hdx hxd hs
theorem init_run : ∀ {ss : List Stmt} {es : IEs} {fl : List Str} {vs us : List AV} {cvs : List Value} {des : List DictEntry} {k : Nat} {g : Gh} {V : Pm} {H : AH} {s : Shared}, chkInit L.X.B es sc ns fl ss = true → (L.X.B.T.flds c).drop vs.length = fl → evEs L.cf L.n es ls H = some (us, H') →
    At L sc ns A env g V ls H s → V x = some (instObj Ca dx) → V dx = some (dictOf des k) → Ent (L.X.B.T.flds c) cvs des → VRs L.X.B.T g vs cvs → Hd V env.locals (nsOb m0) → Kn L.X g V dx H' (L.X.B.T.flds c) (vs ++ us) Q → wpAny L.X.M A (execs ss env) Q E s
  | [], .nil, fl, vs, us, cvs, des, k, g, V, H, s, _, _, e, t, _, gd, en, rs, _, kk => by
    have e := Prod.mk.inj (Option.some.inj e)
    rw [← e.1, ← e.2, List.append_nil] at kk
    exact wpAny_execs_nil (kk.go .refl t.rel gd (fun _ _ => rfl) en rs)
  | [], .cons _ _, _, _, _, _, _, _, _, _, _, _, h, _, _, _, _, _, _, _, _, _ => nomatch h
  | _ :: _, .nil, _, _, _, _, _, _, _, _, _, _, h, _, _, _, _, _, _, _, _, _ => nomatch (and2 h).2
  | st :: rest, .cons a r, [], _, _, _, _, _, _, _, _, _, h, _, _, _, _, _, _, _, _, _ => nomatch h
  | st :: rest, .cons a r, f :: fl, vs, us, cvs, des, k, g, V, H, s, h, hfl, e, t, gx, gd, en, rs, hm, kk =>
    onSAssign_of (show onSAssign st _ = true from h) fun ts v p h => on1_of h fun tg h => onAttribute_of h fun o x' xp h => eqb h fun h => have h := and2 h; onName_of h.1 fun y yp q => have q := and2 q; have q2 := and2 q.2; have w := and2 h.2; have z := and2 w.2
    bnd e fun p e1 e => bnd e fun q' e2 e => wpAny_execs_cons (wpAny_Assign_stores (ck_e hn C CO a z.1 t e1 ⟨fun {g1 s1 cv} l R r => by
      show wpAny _ A (do
        let ov ← holding [cv] (eval (.Name y yp) env)
        standAt xp.atName
        holding [cv, ov] (setAttr ov f cv)
        release [cv, ov] []) _ _ _
      have hx : (L.X.B.T.flds c)[vs.length]? = some f := (List.getElem?_drop (i := vs.length) (j := 0)).symm.trans (congrArg (·[0]?) hfl)
      refine wpAny_bind (wpAny_holding (wpAny_Name (wpAny_loadName_local t.fr.kind (show env.scope.names.lookup y = _ from t.sc ▸ beq_iff_eq.mp q2.2) (hm.ns R) (hs (beq_iff_eq.mp q.1)) (wpAny_bind (wpAny_standAt (wpAny_bind (wpAny_holding ?_))))) (beq_iff_eq.mp q2.1)))
      refine set_field C R hcl (List.mem_of_getElem? hx) (R.prv gx) (R.prv gd) en fun h' n' tk hs' t' hb g2 => wpAny_release' (init_run (vs := vs ++ [p.1]) (us := q'.1) (k := n') z.2 ?_ (e2.trans (congrArg (fun z => some (q'.1, z)) (Prod.mk.inj (Option.some.inj e)).2)) ⟨t.ok, t.sc, t.fr.up l fun b hb => Pm.put_ne fun (z : b = dx) => hdx (z ▸ hb), R.setF (tk := tk) gd hb g2⟩ ((Pm.put_ne hxd).trans gx) Pm.put_self
        (en.snoc (C.cls hcl).nd (by rw [rs.length]; exact hx)) ((rs.up l).app ⟨cv, [], rfl, r, rfl⟩) (hm.mv (Pm.put_ne fun z => hdx (.inl z.symm))) ⟨fun l2 R3 d3 kp3 en3 rs3 => kk.go (l.trans l2) R3 d3 (fun b hb => (kp3 b hb).trans (Pm.put_ne hb)) en3 (by
          rw [← (Prod.mk.inj (Option.some.inj e)).1]; rw [List.append_assoc] at rs3; exact rs3)⟩)
      rw [List.length_append, ← List.drop_drop, hfl]; rfl⟩) (swaps_sole w.1 _ _ _) (by unfold swappedStores; rfl))
end

noncomputable def bodyOk (B : Tbl) (fn : Fn) (fa : Addr) : Body → Bool
  | .code b => (B.K.lookup fa).any fun o => funD o.data fun fd body => fdOk B fd fn && chkS B b fd.scope fn.names body
  | .make c _ es => B.T.cls c == some fa && (makesIn B.K fa && (findIn B.K (.ref fa) "__init__").any fun v => v.any fun v => (refA v).any fun fi => typeIn B.K (.ref fi) == some (.type "function") && (B.K.lookup fi).any fun o =>
      funD o.data fun fd body => fdOk B fd fn && (decide (0 < fn.nargs) && ((fn.names[0]?).any (fun y => fd.scope.names.lookup y == some .local) && chkInit B es fd.scope fn.names (B.T.flds c) body)))
noncomputable def fnOk (B : Tbl) (f : Nat) (fn : Fn) : Bool := (B.fad f).any fun fa => bodyOk B fn fa fn.body

theorem under_tc {Ca : Addr} {vals : List Value} {kw : List (Str × Value)} : (Code.builtin "type.__call__" ⟨.ref Ca :: vals, kw⟩).weight = 1 := rfl
theorem under_cu {Ca : Addr} {vals : List Value} {kw : List (Str × Value)} : (Code.builtin "type.__call__" ⟨.ref Ca :: vals, kw⟩).cUnits = 1 := rfl
theorem AOk.call {n : Nat} {A : Around} (h : AOk (n + 1) A) : A.depth < recursionLimit := Nat.lt_of_le_of_lt (Nat.le_trans (Nat.le_add_right _ (4 * (n + 1))) (Nat.le_add_right _ 4)) h.2.1
theorem AOk.deep {n : Nat} {A : Around} {env : Env} (h : AOk (n + 1) A) : AOk n (A.deeper env) := by
  obtain ⟨a, b, c⟩ := h
  refine ⟨a, ?_, ?_⟩
  · show A.depth + 1 + 4 * n + 4 < _; omega
  · show A.units + 3 + 12 * n + 100 < _; omega
theorem AOk.make {n : Nat} {A : Around} {Ca : Addr} {vals : List Value} {kw : List (Str × Value)} (h : AOk (n + 1) A) : (A.under (.builtin "type.__call__" ⟨.ref Ca :: vals, kw⟩)).depth < recursionLimit := by
  have := h.2.1
  show A.depth + (Code.builtin "type.__call__" ⟨.ref Ca :: vals, kw⟩).weight < _
  rw [under_tc]; omega
theorem AOk.makeDeep {n : Nat} {A : Around} {Ca : Addr} {vals : List Value} {kw : List (Str × Value)} {env : Env} (h : AOk (n + 1) A) : AOk n ((A.under (.builtin "type.__call__" ⟨.ref Ca :: vals, kw⟩)).deeper env) := by
  obtain ⟨a, b, c⟩ := h
  refine ⟨a, ?_, ?_⟩
  · show A.depth + (Code.builtin "type.__call__" ⟨.ref Ca :: vals, kw⟩).weight + 1 + 4 * n + 4 < _
    rw [under_tc]; omega
  · show A.units + (Code.builtin "type.__call__" ⟨.ref Ca :: vals, kw⟩).cUnits + 3 + 12 * n + 100 < _
    rw [under_cu]; omega
end Mini
end

section
open PySem PySem.W PyProof.Rows PySem.Calls
namespace Mini
variable {X : Wo} {P : Nat → Option Fn} {n : Nat}

noncomputable abbrev lgOf (X : Wo) (P : Nat → Option Fn) (n : Nat) : Lg := ⟨X, callF P n, n⟩
theorem code_call {fn : Fn} {b : IS} (C : Cx X) (hlim : X.s0.heap.NoLimit) (hn : n ≤ 1000) (CO : CallOk (lgOf X P n)) {A : Around} {E : Value → Shared → Prop} {s : Shared} {g : Gh} {V : Pm} {H : AH} {fa : Addr} {vs : List AV} {cvs : List Value} {v : AV} {H' : AH} {Q : Value → Shared → Prop}
    (hA : AOk (n + 1) A) (hok : bodyOk X.B fn fa (.code b) = true) (R : Rel X g V H s) (rs : VRs X.B.T g vs cvs) (e : ((fn.start vs).bind fun ls => (evS (callF P n) n b ls H).bind fun p => match p.1 with
          | .ret v => some (v, p.2.2)
          | .nxt => some (.non, p.2.2)
          | .cnt => none) = some (v, H')) (k : Kt X g V H' v Q) : wpAny X.M A (call (.ref fa) cvs) Q E s :=
  (any_some hok).elim fun o w => (funD_of w.2).elim fun fd w2 => w2.elim fun body w2 => bnd e fun ls hst e => bnd e fun p e1 e => by
    obtain ⟨oc, od, d, sl⟩ := o
    obtain rfl : d = .func fd := w2.1
    have q := and2 w2.2.2
    have F := fdOk_of q.1
    refine wpAny_call (fn_enter C hlim w.1 w2.2.1 F hA.call R rs.length (fun hv hc => .inr ((rs.get hv).elim fun c z => Option.some.inj (hc.symm.trans z.1) ▸ z.2)) hst fun I => ?_)
    refine ck_s (L := lgOf X P n) hn C CO b F.kind q.2 ⟨hA.deep, I.sc, I.fr, I.rel⟩ e1 ⟨fun l kp _ R' r => ?_⟩
    obtain ⟨fl, ls', H1⟩ := p
    cases fl with
    | ret u =>
      obtain ⟨c, rfl, r⟩ := r
      exact (k.of2 e).go l (R'.weak (I.back kp)) r
    | nxt =>
      rw [show _ = Flow.next from r]
      exact (k.of2 e).go l (R'.weak (I.back kp)) rfl
    | cnt => exact clash rfl e

theorem make_call {fn : Fn} {c : Nat} {fz : Bool} {es : IEs} (C : Cx X) (hlim : X.s0.heap.NoLimit) (hn : n ≤ 1000) (CO : CallOk (lgOf X P n)) {A : Around} {E : Value → Shared → Prop} {s : Shared} {g : Gh} {V : Pm} {H : AH} {fa : Addr} {vs : List AV} {cvs : List Value} {v : AV} {H' : AH} {Q : Value → Shared → Prop}
    (hA : AOk (n + 1) A) (hok : bodyOk X.B fn fa (.make c fz es) = true) (R : Rel X g V H s) (rs : VRs X.B.T g vs cvs) (e : ((fn.start (.unb :: vs)).bind fun ls => (evEs (callF P n) n es ls H).bind fun p =>
          if fz then some (.rcd c p.1, p.2) else some (.ref p.2.length, p.2 ++ [.inst c p.1])) = some (v, H')) (k : Kt X g V H' v Q) : wpAny X.M A (call (.ref fa) cvs) Q E s := by
  have o := and2 hok; have o2 := and2 o.2
  have hcl := beq_iff_eq.mp o.1
  obtain ⟨u, hfi, o3⟩ := any_some o2.2
  obtain ⟨w, hu, o3⟩ := any_some o3
  obtain ⟨fi, hw, o3⟩ := any_some o3
  obtain rfl := refA_of hw
  have o4 := and2 o3
  obtain ⟨ob, hlk, o5⟩ := any_some o4.2
  obtain ⟨fd, body, hd, hbody, o6⟩ := funD_of o5
  obtain ⟨oc, od, d, sl⟩ := ob
  obtain rfl : d = .func fd := hd
  have q := and2 o6; have q2 := dcd q.2; have q3 := and2 q2.2
  obtain ⟨y0, hy0, hk0⟩ := any_some q3.1
  have F := fdOk_of q.1
  refine bnd e fun ls hst e => bnd e fun p e1 e => ?_
  obtain ⟨hh, gg, dd, tt, os⟩ := s
  have f := R.free (Nat.le_refl hh.objs.size)
  have f1 := R.free (Nat.le_succ hh.objs.size)
  have hz : (hh.push emptyDict).objs.size = hh.objs.size + 1 := Heap.size_push ..
  have gd : ((hh.push emptyDict).push (instObj fa hh.objs.size)).get? hh.objs.size = some (dictOf [] 0) := keep_push _ _ (Heap.get?_push_size _ rfl)
  have gx : ((hh.push emptyDict).push (instObj fa hh.objs.size)).get? (hh.objs.size + 1) = some (instObj fa hh.objs.size) := hz ▸ Heap.get?_push_size _ rfl
  have ne : hh.objs.size + 1 ≠ hh.objs.size := Nat.succ_ne_self _
  have R1 := ((R.ext (h' := (hh.push emptyDict).push (instObj fa hh.objs.size)) (tk := tt) fun b o e => keep_push _ _ (keep_push _ _ e)).learn f gd).learn (a := hh.objs.size + 1) ⟨f1.z, (Pm.put_ne ne).trans f1.f, f1.m⟩ gx
  refine wpAny_call (make_core (makes_of (R.inK C) o2.1) (looks_findIn (R.inK C) (hfi.trans (congrArg some hu))) (fun self => bind_fn (R.inK C) self (beq_iff_eq.mp o4.1)) (.inl rfl) ?_)
  refine fn_enter (s := ⟨(hh.push emptyDict).push (instObj fa hh.objs.size), gg, dd, tt, os⟩) (vs := .unb :: vs) C hlim hlk hbody F hA.make R1 (congrArg (· + 1) rs.length) (fun {j _ _} hv hc => ?_) hst fun {_ env V' s'} I => ?_
  · cases j with
    | zero => exact .inl (Option.some.inj hv).symm
    | succ j => exact .inr ((rs.get (i := j) hv).elim fun c z => Option.some.inj (hc.symm.trans z.1) ▸ z.2)
  · have nd : ¬ Own env hh.objs.size := fun q => clash (I.new q) ((Pm.put_ne ne.symm).trans Pm.put_self)
    have nx : ¬ Own env (hh.objs.size + 1) := fun q => clash (I.new q) Pm.put_self
    obtain ⟨m0, hm, hm0⟩ := I.self hy0 q2.1 (show env.scope.names.lookup y0 = _ from I.sc ▸ beq_iff_eq.mp hk0) rfl
    refine init_run (L := lgOf X P n) hn C CO hcl nd ne (fun {y} hy => Option.some.inj (hy0.symm.trans hy) ▸ hm0) q3.2 rfl e1 ⟨hA.makeDeep, I.sc, I.fr, I.rel⟩ ((I.kp _ nx).trans Pm.put_self) ((I.kp _ nd).trans ((Pm.put_ne ne.symm).trans Pm.put_self)) (vs := []) (cvs := []) rfl rfl hm
      ⟨fun {g2 V2 s2 des j ws} l R2 hd2 kp2 en rw => ⟨rfl, ?_⟩⟩
    have hx2 := (kp2 _ ne).trans ((I.kp _ nx).trans Pm.put_self)
    have back : ∀ {a o}, V a = some o → ((V2.del hh.objs.size).del (hh.objs.size + 1)) a = some o := fun {a o} q => by
      have n1 : a ≠ hh.objs.size := fun z => clash f.f (z ▸ q)
      have n2 : a ≠ hh.objs.size + 1 := fun z => clash f1.f (z ▸ q)
      have q1 := (Pm.put_ne (o := instObj fa hh.objs.size) n2).trans ((Pm.put_ne (o := dictOf [] 0) n1).trans q)
      exact (Pm.del_ne n2).trans ((Pm.del_ne n1).trans ((kp2 a n1).trans ((I.kp a fun z => clash (I.new z) q1).trans q1)))
    cases fz with
    | true =>
      have R3 := R2.freeze hd2
      have hx3 := (Pm.del_ne ne).trans hx2
      have L3 := Gh.frz_le (o := dictOf des j) (R2.zf hd2)
      have L4 := Gh.frz_le (o := instObj fa hh.objs.size) (R3.zf hx3)
      exact (k.of2 e).go (l.trans (L3.trans L4)) ((R3.freeze hx3).weak back) ⟨_, _, fa, des, j, ws, rfl, hcl, Pm.put_self, L4.zd Pm.put_self, en, rw.up (L3.trans L4)⟩
    | false =>
      have R3 := R2.freeze hx2
      have L3 := Gh.frz_le (o := instObj fa hh.objs.size) (R2.zf hx2)
      have hd3 := (Pm.del_ne ne.symm).trans hd2
      refine (k.of2 e).go (l.trans (L3.trans Gh.add_le)) ((R3.give (x := hh.objs.size + 1) (ao := .inst c p.1) hd3 ⟨fa, des, j, ws, hcl, Pm.put_self, R3.prv hd3, en, rw.up (L3.trans Gh.add_le)⟩).weak fun {a o} q => ?_) ⟨_, hh.objs.size, rfl, by rw [← R3.len]; exact List.getElem?_concat_length⟩
      have q := back q
      have n1 := (Pm.del_some q).1
      have q := (Pm.del_some q).2
      exact (Pm.del_ne (Pm.del_some q).1).trans ((Pm.del_ne n1).trans (Pm.del_some q).2)
theorem callOk (C : Cx X) (hlim : X.s0.heap.NoLimit) (hP : ∀ {f : Nat} {fn : Fn}, P f = some fn → fnOk X.B f fn = true) : ∀ {n : Nat}, n ≤ 1000 → CallOk (lgOf X P n)
  | 0, _ => fun _ _ _ _ e _ => clash rfl e
  | n + 1, hn => fun hA hfa R rs e k => bnd e fun fn hfn e => by
    have CO : CallOk (lgOf X P n) := callOk C hlim hP (Nat.le_of_succ_le hn)
    obtain ⟨fa, hfa', hok⟩ := any_some (hP hfn)
    cases hfa.symm.trans hfa'
    obtain ⟨nm, na, df, b⟩ := fn
    cases b with
    | code b => exact code_call C hlim (Nat.le_of_succ_le hn) CO hA hok R rs e k
    | make c fz es => exact make_call C hlim (Nat.le_of_succ_le hn) CO hA hok R rs e k
end Mini
end

section
open PySem PySem.W PyProof.Rows PySem.Calls
namespace Mini

noncomputable def glK (K : Frag) (x : Str) : Option Value := (nsIn K mainGlobals x).bind fun o => o.or (if x == ("__name__" : Str) then none else bootBuiltins x)
noncomputable def namK (K : Frag) (x : Str) : Option Addr := (glK K x).bind refA
noncomputable def clsK (K : Frag) (c : Nat) : Option Addr := if c = 0 then none else (clsNames[c]?).bind (namK K)
noncomputable def spcK (K : Frag) (k : Nat) : Option Addr := (["EMPTY", "EOF"][k]?).bind fun x => namK K (Str.ofString x)
noncomputable def staK (K : Frag) : Sta where
  cls := clsK K
  flds := fun c => (clsFields[c]?).getD []
  spc := spcK K
noncomputable def boolD (a : Bool) : Value → Bool
  | .bool b => a == b
  | _ => false
noncomputable def intD (a : Int) : Value → Bool
  | .int b _ => a == b
  | _ => false
noncomputable def tupD (o : Obj) (f : List Value → Bool) : Bool := o.cls == .type "tuple" && (o.dict.isNone && (o.slots.isEmpty && seqD o.data f))
noncomputable def vrK (K : Frag) : Nat → AV → Value → Bool
  | 0, _, _ => false
  | n + 1, v, c => match v with
    | .non => isNoneV c
    | .bool a => boolD a c
    | .int i => intD i c
    | .str s => strD ⟨s.toArray⟩ c
    | .tup vs => (refA c).any fun a => (K.lookup a).any fun o => tupD o (allV (vrK K n) vs)
    | .spc k => (refA c).any fun a => spcK K k == some a
    | _ => false
noncomputable def fadK (K : Frag) (f : Nat) : Option Addr := (fnRoads[f]?).bind fun p => (namK K (Str.ofString p.1)).bind fun x => if p.2 = "" then some x else if p.2 = "__init__" then some x else (findIn K (.ref x) (Str.ofString p.2)).bind fun o => o.bind refA
noncomputable def tblK (K : Frag) : Tbl := ⟨K, staK K, glK K, vrK K 5, fadK K⟩

noncomputable def fineB (K : Frag) (C : Addr) : Bool := plainGet K C "" && (hasDictIn K C && (findIn K (.ref C) "__class__" == some (some (.builtin "object.__class__")) &&
  (specialIn K (.builtin "object.__class__") "__get__" == some (some (.builtin "getset_descriptor.__get__")) && (takesIn K (.builtin "object.__class__") == some true && mroIn K C (.type "object") == some true))))
noncomputable def okB (K : Frag) (C : Addr) (flds : List Str) : Bool := fineB K C && (plainOver K C && (findIn K (.ref C) "__setattr__" == some (some (.builtin "object.__setattr__")) &&
  (flds.all (fun f => (findIn K (.ref C) f).any (noGet K) && takerIn K C f == some none) && (decide (flds.length ≤ 100) && decide flds.Nodup))))
noncomputable def clsAll (K : Frag) : Bool := (List.range 11).all fun c => (clsK K c).all fun C => okB K C ((clsFields[c]?).getD []) && (isNotIn K "int" C && (List.range 11).all fun d => c == d || (clsK K d).all fun D => kin_not K D C)
noncomputable def plainD (o : Obj) (f : Addr → Addr → Bool) : Bool := (refA o.cls).any fun D => (o.dict).any fun m => (match o.data with | .plain => true | _ => false) && (o.slots.isEmpty && f D m)
noncomputable def dictD (o : Obj) : Bool := o.cls == .type "dict" && (o.dict.isNone && ((match o.data with | .dict _ _ => true | _ => false) && o.slots.isEmpty))
noncomputable def spcAll (K : Frag) : Bool := (List.range 2).all fun k => (spcK K k).all fun a => (K.lookup a).any fun o => plainD o fun D m => (K.lookup m).any dictD && (fineB K D && (List.range 11).all fun c => (clsK K c).all fun C => kin_not K D C && !(C == D))
noncomputable def spcNe (K : Frag) : Bool := !(spcK K 0 == spcK K 1)
noncomputable def fnsAll (K : Frag) (f : Nat) : Bool := (P f).all (fnOk (tblK K) f)

theorem fineB_of {K : Frag} {C : Addr} (h : fineB K C = true) : clsFine K C := have h1 := and2 h; have h2 := and2 h1.2; have h3 := and2 h2.2; have h4 := and2 h3.2; have h5 := and2 h4.2
  ⟨h1.1, h2.1, beq_iff_eq.mp h3.1, beq_iff_eq.mp h4.1, beq_iff_eq.mp h5.1, beq_iff_eq.mp h5.2⟩
theorem okB_of {K : Frag} {C : Addr} {flds : List Str} (h : okB K C flds = true) : clsOk K C flds := have h1 := and2 h; have h2 := and2 h1.2; have h3 := and2 h2.2; have h4 := and2 h3.2; have h5 := dcd h4.2
  ⟨fineB_of h1.1, h2.1, beq_iff_eq.mp h3.1, fun hf => any_some (and2 (all2 h4.1 hf)).1, fun hf => beq_iff_eq.mp (and2 (all2 h4.1 hf)).2, h5.1, of_decide_eq_true h5.2⟩
theorem allO {α : Type} {x : Option α} {p : α → Bool} {a : α} (h : x.all p = true) (e : x = some a) : p a = true := by rw [e] at h; exact h
theorem clsK_lt {K : Frag} {c : Nat} {C : Addr} (h : clsK K c = some C) : c ∈ List.range 11 := by
  unfold clsK at h
  by_cases q : c = 0
  · exact clash (if_pos q) h
  · rw [if_neg q] at h
    exact bnd h fun x e _ => List.mem_range.mpr (List.getElem?_eq_some_iff.mp e).1
theorem spcK_lt {K : Frag} {k : Nat} {a : Addr} (h : spcK K k = some a) : k ∈ List.range 2 := bnd h fun x e _ => List.mem_range.mpr (List.getElem?_eq_some_iff.mp e).1
structure ClsAt (K : Frag) (c : Nat) (C : Addr) : Prop where
  ok : clsOk K C ((staK K).flds c)
  isi : isNotIn K "int" C = true
  isn : ∀ {d D}, clsK K d = some D → c ≠ d → kin_not K D C = true
theorem clsAll_at {K : Frag} (h : clsAll K = true) {c : Nat} {C : Addr} (hc : clsK K c = some C) : ClsAt K c C :=
  have h0 := allO (all2 h (clsK_lt hc)) hc; have h1 := and2 h0; have h2 := and2 h1.2
  ⟨okB_of h1.1, h2.1, fun {d _} hd hne => have z := all2 h2.2 (clsK_lt hd); have y := (Bool.or_eq_true_iff.mp z).resolve_left fun q => hne (beq_iff_eq.mp q); allO (p := fun D => kin_not K D C) y hd⟩
theorem plainD_of {o : Obj} {f : Addr → Addr → Bool} (h : plainD o f = true) : ∃ D m, o = instObj D m ∧ f D m = true :=
  (any_some h).elim fun D q => (any_some q.2).elim fun m w => by
    obtain ⟨oc, od, d, sl⟩ := o
    have w1 := and2 w.2; have w2 := and2 w1.2
    obtain rfl : oc = .ref D := refA_of q.1
    obtain rfl : od = some m := w.1
    cases Array.isEmpty_iff.mp w2.1
    cases d with
    | plain => exact ⟨D, m, rfl, w2.2⟩
    | _ => exact nomatch w1.1
theorem dictD_of {o : Obj} (h : dictD o = true) : ∃ es n, o = dictOf es n := by
  obtain ⟨oc, od, d, sl⟩ := o
  have h1 := and2 h; have h2 := and2 h1.2; have h3 := and2 h2.2
  cases beq_iff_eq.mp h1.1
  cases Option.isNone_iff_eq_none.mp h2.1
  cases Array.isEmpty_iff.mp h3.2
  cases d with
  | dict es n => exact ⟨es.toList, n, rfl⟩
  | _ => exact nomatch h3.1
theorem tupD_of {o : Obj} {f : List Value → Bool} (h : tupD o f = true) : ∃ cvs n, o = tupOb cvs n ∧ f cvs = true := by
  obtain ⟨oc, od, d, sl⟩ := o
  have h1 := and2 h; have h2 := and2 h1.2; have h3 := and2 h2.2
  cases beq_iff_eq.mp h1.1
  cases Option.isNone_iff_eq_none.mp h2.1
  cases Array.isEmpty_iff.mp h3.1
  obtain ⟨its, n, e, q⟩ := seqD_of h3.2
  cases e
  exact ⟨its.toList, n, rfl, q⟩
theorem vrK_ok {K : Frag} {g : Gh} (hk : ∀ {b o}, K.lookup b = some o → g.Z b = some o) : ∀ {n : Nat} {v : AV} {c : Value}, vrK K n v c = true → VR (staK K) g v c
  | 0, _, _, e => nomatch e
  | n + 1, v, c, e => by
    cases v with
    | non => exact isNoneV_of e
    | bool a => cases c with
      | bool b => exact beq_iff_eq.mp e ▸ rfl
      | _ => exact nomatch e
    | int a => cases c with
      | int b t => exact ⟨t, beq_iff_eq.mp e ▸ rfl⟩
      | _ => exact nomatch e
    | str s => exact strD_of e
    | tup vs => exact (any_some e).elim fun a q => (any_some q.2).elim fun o w => (tupD_of w.2).elim fun cvs z => z.elim fun m z => ⟨a, cvs, m, refA_of q.1, hk (z.1 ▸ w.1), allV_all (vrK_ok hk) z.2⟩
    | spc k => exact (any_some e).elim fun a q => ⟨a, refA_of q.1, beq_iff_eq.mp q.2⟩
    | _ => exact nomatch e

theorem cx_of {prog : Program} {w : World} {K : Frag} {s : Shared} {mg mb : Str → Option Value} (X : K.In s.heap) (hg : s.heap.Ns mainGlobals mg) (hb : s.heap.Ns builtinsNs mb) (hbm : ∀ x : Str, x ≠ "__name__" → mb x = bootBuiltins x)
    (c1 : clsAll K = true) (c2 : spcAll K = true) (c3 : spcNe K = true) : Cx ⟨prog, w, tblK K, s⟩ := by
  have kin : ∀ {C : Addr}, kin_not K C C ≠ true := fun {C} h => by unfold kin_not at h; simp at h
  refine ⟨X, hg.elim fun o q => q.elim fun _ q => q.elim fun _ q => ⟨_, o, by decide, q.1⟩, fun hc => (clsAll_at c1 hc).ok, fun hc hd hne => (clsAll_at c1 hc).isn hd hne, fun hc => (clsAll_at c1 hc).isi, fun {k a} hk => ?_, fun {i j a} hi hj => ?_, fun {x v} hv => ⟨mg, mb, hg, hb, bnd hv fun o q e => ?_⟩, fun {_ _} h {_} low => vrK_ok (fun q => low (X _ _ q)) h⟩
  · have q0 := allO (all2 c2 (spcK_lt hk)) hk
    obtain ⟨o, ho, q⟩ := any_some q0
    obtain ⟨D, m, rfl, q⟩ := plainD_of q
    have q1 := and2 q; have q2 := and2 q1.2
    obtain ⟨om, hm, z⟩ := any_some q1.1
    obtain ⟨es, n, rfl⟩ := dictD_of z
    exact ⟨D, m, es, n, X _ _ ho, X _ _ hm, fineB_of q2.1, fun hc => have y := allO (all2 q2.2 (clsK_lt hc)) hc; have z := and2 y; ⟨z.1, fun e => by rw [e, beq_self_eq_true] at z; exact nomatch z.2⟩⟩
  · have ne : ∀ {a}, spcK K 0 = some a → spcK K 1 = some a → False := fun h1 h2 => by
      unfold spcNe at c3
      rw [h1, h2, beq_self_eq_true] at c3; exact nomatch c3
    have li := List.mem_range.mp (spcK_lt hi)
    have lj := List.mem_range.mp (spcK_lt hj)
    match i, j, li, lj, hi, hj with
    | 0, 0, _, _, _, _ => rfl
    | 0, 1, _, _, hi, hj => exact (ne hi hj).elim
    | 1, 0, _, _, hi, hj => exact (ne hj hi).elim
    | 1, 1, _, _, _, _ => rfl
  · cases o with
    | some u => exact .inl (Option.some.inj e ▸ mg_of X hg q)
    | none =>
      rw [Option.none_or] at e
      by_cases z : (x == ("__name__" : Str)) = true
      · exact clash (if_pos z) e
      · rw [if_neg z] at e
        exact .inr ⟨mg_none_of X hg q, (hbm x fun y => z (beq_iff_eq.mpr y)).trans e⟩

theorem ints_lst {T : Sta} {g : Gh} : ∀ {cs : List Value} {ns : List Int}, IntsAre cs ns → VRs T g (ns.map AV.int) cs
  | _, _, .nil => rfl
  | _, _, .cons n t r => ⟨_, _, rfl, ⟨t, rfl⟩, ints_lst r⟩
theorem run_law {prog : Program} {w : World} {K : Frag} {s : Shared} {mg mb : Str → Option Value} {E : Value → Shared → Prop} {Q : Value → Shared → Prop} {a fa : Addr} {its : List Value} {ns : List Int} {k : Nat} {H' : AH} (X : K.In s.heap) (hg : s.heap.Ns mainGlobals mg) (hb : s.heap.Ns builtinsNs mb) (hlim : s.heap.NoLimit)
    (hbm : ∀ x : Str, x ≠ "__name__" → mb x = bootBuiltins x) (c1 : clsAll K = true) (c2 : spcAll K = true) (c3 : spcNe K = true) (c4 : ∀ {f fn}, P f = some fn → fnOk (tblK K) f fn = true) (hfa : fadK K 0 = some fa)
    (hL : s.heap.get? a = some (listOb its k)) (hI : IntsAre its ns) (e : callF P 100 0 [.lst (ns.map .int)] [] = some (.bool true, H'))
    (h : ∀ h' tk, (∀ b o, s.heap.get? b = some o → h'.get? b = some o) → Q (.bool true) { s with heap := h', toks := tk }) :
    wpAny (model prog w) callerA (call (.ref fa) [.ref a]) Q E s := by
  have CO : CallOk (lgOf ⟨prog, w, tblK K, s⟩ P 100) := callOk (cx_of X hg hb hbm c1 c2 c3) hlim c4 (by decide)
  have hA : AOk 100 callerA := ⟨rfl, by decide +kernel, by decide +kernel⟩
  have R : Rel ⟨prog, w, tblK K, s⟩ ⟨[], fun b => s.heap.get? b⟩ (fun _ => none) [] s :=
    ⟨⟨s.heap, s.toks, rfl⟩, id, id, fun q => (nomatch q), fun q => (nomatch q), rfl, fun q => clash List.getElem?_nil q, fun q => clash List.getElem?_nil q, fun q => clash List.getElem?_nil q, fun q => clash List.getElem?_nil q⟩
  refine CO (vs := [.lst (ns.map .int)]) hA (show (tblK K).fad 0 = some fa from hfa) R ⟨_, _, rfl, ⟨a, its, k, rfl, hL, ints_lst hI⟩, rfl⟩ e ⟨fun {g' s' cv} _ R r => ?_⟩
  obtain ⟨h', tk, rfl⟩ := R.same
  rw [show cv = .bool true from r]
  exact h h' tk fun b o q => R.zed (R.low q)
end Mini
end

section
open PySem PySem.W PyProof.Rows PySem.Calls
namespace Mini

theorem bs {α β : Type} {x : Option α} {a : α} {f : α → Option β} {r : Option β} (h : x = some a) (k : f a = r) : x.bind f = r := h ▸ k
section
variable {cf : CF} {n : Nat} {ls ls1 ls2 : List AV} {H H1 H2 H3 H4 : AH} {v x y z : AV} {vs : List AV} {a b c e o i : IE} {es : IEs} {t r : IT} {s s1 s2 : IS}
variable {R : Option (AF × List AV × AH)}
theorem x_asg {t : Tgt} (h : evE cf n e ls H = some (v, H1)) (h1 : bindT t v ls = some ls1) (h2 : evS cf n s ls1 H1 = R) : evS cf n (.asg t e s) ls H = R := bs h (bs h1 h2)
theorem x_whl (h : loopW (evT cf n t) (evS cf n s1) n ls H = some (.nxt, ls2, H2)) (h2 : evS cf n s ls2 H2 = R) : evS cf n (.whl t s1 s) ls H = R := bs h h2
theorem x_for {tg : Tgt} {sr : Src} (h0 : evE cf n e ls H = some (v, H1)) (h1 : srcOf v = some sr) (h : loopF sr tg (evS cf n s1) n 0 ls H1 = some (.nxt, ls2, H2)) (h2 : evS cf n s ls2 H2 = R) : evS cf n (.for_ tg e s1 s) ls H = R := bs h0 (bs h1 (bs h h2))
theorem x_ret (h : evE cf n e ls H = some (v, H1)) : evS cf n (.ret e) ls H = some (.ret v, ls, H1) := bs h rfl

theorem w_end {k : Nat} {test : List AV → AH → Option (Bool × AH)} {body : List AV → AH → Option (AF × List AV × AH)} (h : test ls H = some (false, H1)) : loopW test body (k + 1) ls H = some (.nxt, ls, H1) := bs h rfl
theorem w_turn {k : Nat} {test : List AV → AH → Option (Bool × AH)} {body : List AV → AH → Option (AF × List AV × AH)} (h : test ls H = some (true, H1)) (h1 : body ls H1 = some (.nxt, ls1, H2)) (h2 : loopW test body k ls1 H2 = R) : loopW test body (k + 1) ls H = R := bs h (bs h1 h2)
theorem w_turnC {k : Nat} {test : List AV → AH → Option (Bool × AH)} {body : List AV → AH → Option (AF × List AV × AH)} (h : test ls H = some (true, H1)) (h1 : body ls H1 = some (.cnt, ls1, H2)) (h2 : loopW test body k ls1 H2 = R) : loopW test body (k + 1) ls H = R := bs h (bs h1 h2)
theorem w_ret {k : Nat} {test : List AV → AH → Option (Bool × AH)} {body : List AV → AH → Option (AF × List AV × AH)} (h : test ls H = some (true, H1)) (h1 : body ls H1 = some (.ret v, ls1, H2)) : loopW test body (k + 1) ls H = some (.ret v, ls1, H2) := bs h (bs h1 rfl)
theorem f_end {k j : Nat} {sr : Src} {tg : Tgt} {body : List AV → AH → Option (AF × List AV × AH)} (h : nextOf H j sr = some none) : loopF sr tg body (k + 1) j ls H = some (.nxt, ls, H) := bs h rfl
theorem f_turn {k j : Nat} {sr : Src} {tg : Tgt} {body : List AV → AH → Option (AF × List AV × AH)} (h : nextOf H j sr = some (some v)) (h0 : bindT tg v ls = some ls1) (h1 : body ls1 H = some (.nxt, ls2, H2)) (h2 : loopF sr tg body k (j + 1) ls2 H2 = R) : loopF sr tg body (k + 1) j ls H = R := bs h (bs h0 (bs h1 h2))
theorem f_ret {k j : Nat} {sr : Src} {tg : Tgt} {body : List AV → AH → Option (AF × List AV × AH)} (h : nextOf H j sr = some (some x)) (h0 : bindT tg x ls = some ls1) (h1 : body ls1 H = some (.ret v, ls2, H2)) : loopF sr tg body (k + 1) j ls H = some (.ret v, ls2, H2) := bs h (bs h0 (bs h1 rfl))

theorem l_end {k j : Nat} {sr : Src} {turn : AV → AH → Option (Option AV × AH)} {acc : List AV} (h : nextOf H j sr = some none) : loopC sr turn (k + 1) j acc H = some (acc, H) := bs h rfl
theorem l_turn {k j : Nat} {sr : Src} {turn : AV → AH → Option (Option AV × AH)} {acc : List AV} {R : Option (List AV × AH)} (h : nextOf H j sr = some (some v)) (h1 : turn v H = some (some y, H1)) (h2 : loopC sr turn k (j + 1) (acc ++ [y]) H1 = R) : loopC sr turn (k + 1) j acc H = R := bs h (bs h1 h2)
theorem l_none {k j : Nat} {sr : Src} {turn : AV → AH → Option (Option AV × AH)} {acc : List AV} {R : Option (List AV × AH)} (h : nextOf H j sr = some (some v)) (h1 : turn v H = some (none, H1)) (h2 : loopC sr turn k (j + 1) acc H1 = R) : loopC sr turn (k + 1) j acc H = R := bs h (bs h1 h2)
theorem n_heap {k a : Nat} (h : H[a]? = some (.list vs)) : nextOf H k (.heap a) = some vs[k]? := bs (bs h rfl) rfl

end
end Mini
end

section
open PySem PySem.W PyProof.Rows PySem.Calls
namespace Mini

section
variable {b : Bool} {i : Int} {s : List Nat} {vs : List AV} {k a : Nat}
theorem isU_ref : isU (.ref a) = false := rfl
end
noncomputable def outF : Option (AF × List AV × AH) → Option (AV × AH) := fun x => x.bind fun p => match p.1 with
  | .ret v => some (v, p.2.2)
  | .nxt => some (.non, p.2.2)
  | .cnt => none
noncomputable def outR (c : Nat) : Option (List AV × AH) → Option (AV × AH) := fun x => x.bind fun p => some (.rcd c p.1, p.2)
noncomputable def outN (c : Nat) : Option (List AV × AH) → Option (AV × AH) := fun x => x.bind fun p => some (.ref p.2.length, p.2 ++ [.inst c p.1])
@[irreducible] noncomputable def cP (n : Nat) : CF := callF P n
theorem cP_eq {n : Nat} : cP n = callF P n := by unfold cP; rfl
theorem callF_code {n f : Nat} {args ls : List AV} {H : AH} {fn : Fn} {b : IS} (h : P f = some fn) (hb : fn.body = .code b) (hs : fn.start args = some ls) : cP (n + 1) f args H = outF (evS (cP n) n b ls H) := by
  obtain ⟨nm, na, df, bd⟩ := fn
  cases hb
  rw [cP_eq, cP_eq]
  exact bs h (bs hs rfl)
theorem callF_run {n f : Nat} {args ls ls' : List AV} {H H' : AH} {fn : Fn} {b : IS} {v : AV} (h : P f = some fn) (hb : fn.body = .code b) (hs : fn.start args = some ls) (he : evS (cP n) n b ls H = some (.ret v, ls', H')) : cP (n + 1) f args H = some (v, H') := (callF_code h hb hs).trans (bs he rfl)
theorem callF_recE {n f c : Nat} {args ls : List AV} {H : AH} {fn : Fn} {fs : IEs} (h : P f = some fn) (hb : fn.body = .make c true fs) (hs : fn.start (.unb :: args) = some ls) : cP (n + 1) f args H = outR c (evEs (cP n) n fs ls H) := by
  obtain ⟨nm, na, df, bd⟩ := fn
  cases hb
  rw [cP_eq, cP_eq]
  exact bs h (bs hs rfl)
theorem callF_newE {n f c : Nat} {args ls : List AV} {H : AH} {fn : Fn} {fs : IEs} (h : P f = some fn) (hb : fn.body = .make c false fs) (hs : fn.start (.unb :: args) = some ls) : cP (n + 1) f args H = outN c (evEs (cP n) n fs ls H) := by
  obtain ⟨nm, na, df, bd⟩ := fn
  cases hb
  rw [cP_eq, cP_eq]
  exact bs h (bs hs rfl)
end Mini
end

section
namespace Mini
noncomputable abbrev c0_1s : IE := (.slice (.loc 0) (.lit .unb) (.lit (.int 63)))
noncomputable abbrev c0_1t : IT := .kt
noncomputable abbrev c0_1e : IE := (.bi .abs (.cons (.loc 0) .nil))
noncomputable abbrev c0_2s : IE := (.bi .range (.cons (.lit (.int 2)) .nil))
noncomputable abbrev c0_2t : IT := .kt
noncomputable abbrev c0_2e : IE := (.comp false ["lap", "deck"] [(1, 1)] false (.one 0) (.bi .range (.cons (.bin .add (.lit (.int 1)) (.call 1 (.cons (.loc 1) (.cons (.lit (.int 3)) .nil)))) .nil)) .kt (.call 2 (.cons (.loc 1) (.cons (.lit (.int 2)) .nil))))
noncomputable abbrev c0_3t : IT := .kt
noncomputable abbrev c0_3e : IE := (.call 2 (.cons (.loc 1) (.cons (.lit (.int 2)) .nil)))
noncomputable abbrev c0_4s : IE := (.loc 2)
noncomputable abbrev c0_4t : IT := .kt
noncomputable abbrev c0_4e : IE := (.meth .join (.lit (.str [])) (.cons (.comp false ["own", "gaps", "deck"] [(1, 1), (2, 2)] false (.one 0) (.loc 0) .kt (.bin .add (.sub (.loc 0) (.lit (.int 0))) (.sub (.loc 1) (.call 1 (.cons (.loc 2) (.cons (.lit (.int 4)) .nil)))))) .nil))
noncomputable abbrev c0_5t : IT := .kt
noncomputable abbrev c0_5e : IE := (.bin .add (.sub (.loc 0) (.lit (.int 0))) (.sub (.loc 1) (.call 1 (.cons (.loc 2) (.cons (.lit (.int 4)) .nil)))))
noncomputable abbrev c0_6s : IE := (.loc 2)
noncomputable abbrev c0_6t : IT := .kt
noncomputable abbrev c0_6e : IE := (.comp false ["own"] [] false (.one 0) (.loc 0) .kt (.sub (.loc 0) (.lit (.int 1))))
noncomputable abbrev c0_7t : IT := .kt
noncomputable abbrev c0_7e : IE := (.sub (.loc 0) (.lit (.int 1)))
noncomputable abbrev c0_8s : IE := (.loc 2)
noncomputable abbrev c0_8t : IT := .kt
noncomputable abbrev c0_8e : IE := (.bi .len (.cons (.loc 0) .nil))
noncomputable abbrev w0_1t : IT := (.cmp .ne (.loc 8) (.list false (.cons (.lit (.int 0)) (.cons (.lit (.int 0)) .nil))))
noncomputable abbrev w0_1b : IS := (.asg (.one 9) (.ifx (.cmp .nin (.lit (.int 0)) (.loc 8)) (.call 1 (.cons (.loc 1) (.cons (.lit (.int 2)) .nil))) (.meth .index (.loc 8) (.cons (.bi .max (.cons (.loc 8) .nil)) .nil))) (.asgS (.loc 8) (.loc 9) (.bin .sub (.sub (.loc 8) (.loc 9)) (.lit (.int 1))) (.expr (.meth .append (.loc 7) (.cons (.loc 9) .nil)) .nil)))
noncomputable abbrev f0_1s : IE := (.tup (.cons (.bin .add (.bin .mul (.list false (.cons (.lit (.int 0)) .nil)) (.sub (.loc 6) (.lit (.int 0)))) (.bin .mul (.list false (.cons (.lit (.int 1)) .nil)) (.sub (.loc 6) (.lit (.int 1))))) (.cons (.bin .add (.bin .mul (.list false (.cons (.lit (.int 1)) .nil)) (.sub (.loc 6) (.lit (.int 1)))) (.bin .mul (.list false (.cons (.lit (.int 0)) .nil)) (.sub (.loc 6) (.lit (.int 0))))) (.cons (.loc 7) .nil))))
noncomputable abbrev f0_1b : IS := (.asg (.many [11, 12, 13]) (.tup (.cons (.call 46 .nil) (.cons (.list true (.cons (.lit (.int 0)) (.cons (.lit (.int 0)) .nil))) (.cons (.list false .nil) .nil)))) (.ite (.cmp .ne (.call 5 (.cons (.loc 11) (.cons (.loc 4) (.cons (.loc 10) .nil)))) (.loc 5)) (.ret (.lit (.bool false))) .nil (.for_ (.one 9) (.loc 10) (.asg (.one 13) (.bin .add (.loc 13) (.sub (.sub (.sub (.loc 2) (.loc 9)) (.sub (.loc 12) (.loc 9))) (.lit (.int 2)))) (.asgS (.loc 12) (.loc 9) (.bin .add (.sub (.loc 12) (.loc 9)) (.lit (.int 1))) .nil)) (.asg (.one 13) (.call 4 (.cons (.loc 13) .nil)) (.ite (.or (.cmp .ne (.mown 1 31 (.loc 11) .nil) (.bi .len (.cons (.loc 13) .nil))) (.or (.cmp .ne (.comp false ["place", "table"] [(1, 11)] false (.one 0) (.bi .range (.cons (.bi .len (.cons (.loc 13) .nil)) .nil)) .kt (.attr 2 1 (.mown 1 29 (.loc 1) (.cons (.loc 0) .nil)))) (.loc 13)) .kf)) (.ret (.lit (.bool false))) .nil .nil)))))
noncomputable abbrev f0_2b : IS := (.asg (.one 13) (.bin .add (.loc 13) (.sub (.sub (.sub (.loc 2) (.loc 9)) (.sub (.loc 12) (.loc 9))) (.lit (.int 2)))) (.asgS (.loc 12) (.loc 9) (.bin .add (.sub (.loc 12) (.loc 9)) (.lit (.int 1))) .nil))
noncomputable abbrev c0_9t : IT := .kt
noncomputable abbrev c0_9e : IE := (.attr 2 1 (.mown 1 29 (.loc 1) (.cons (.loc 0) .nil)))
noncomputable abbrev c3_1t : IT := .kt
noncomputable abbrev c3_1e : IE := (.call 3 (.cons (.loc 0) (.cons (.loc 1) .nil)))
noncomputable abbrev w3_1t : IT := (.val (.isi 3 (.loc 0)))
noncomputable abbrev w3_1b : IS := (.expr (.meth .append (.loc 2) (.cons (.call 3 (.cons (.attr 3 0 (.loc 0)) (.cons (.loc 1) .nil))) .nil)) (.asg (.one 0) (.attr 3 1 (.loc 0)) .nil))
noncomputable abbrev f4_1b : IS := (.ite (.cmp .nin (.loc 2) (.loc 1)) (.expr (.meth .append (.loc 1) (.cons (.loc 2) .nil)) .nil) .nil .nil)
noncomputable abbrev c5_1t : IT := .kt
noncomputable abbrev c5_1e : IE := (.call 55 (.cons (.loc 0) (.cons (.loc 1) .nil)))
noncomputable abbrev c5_2t : IT := .kt
noncomputable abbrev c5_2e : IE := (.list true .nil)
noncomputable abbrev c5_3t : IT := .kt
noncomputable abbrev c5_3e : IE := (.lit (.int 0))
noncomputable abbrev f5_1b : IS := (.asg (.one 7) (.mown 10 7 (.sub (.loc 3) (.loc 6)) .nil) (.asg (.one 8) (.mown 10 6 (.sub (.loc 3) (.loc 6)) .nil) (.ite (.or (.cmp .is (.loc 7) (.glb "EOF" (.spc 1))) (.or (.not (.cmp2 .lt .le (.sub (.loc 5) (.loc 6)) (.loc 8) (.bi .len (.cons (.sub (.loc 1) (.loc 6)) .nil)))) .kf)) (.ret (.lit .non)) .nil (.asgS (.loc 5) (.loc 6) (.loc 8) (.expr (.meth .append (.sub (.loc 4) (.loc 6)) (.cons (.call 3 (.cons (.loc 7) (.cons (.loc 0) .nil))) .nil)) .nil)))))
noncomputable abbrev c5_4t : IT := (.and (.cmp .isnt (.mown 10 7 (.loc 0) .nil) (.glb "EOF" (.spc 1))) .kt)
noncomputable abbrev c5_4e : IE := (.lit (.int 1))
noncomputable abbrev w7_1t : IT := (.val (.lit (.bool true)))
noncomputable abbrev w7_1b : IS := (.asg (.one 1) (.mown 8 16 (.attr 10 0 (.loc 0)) .nil) (.ite (.cmp .eq (.attr 6 0 (.loc 1)) (.lit (.str [101, 110, 100]))) (.ite (.cmp .eq (.attr 10 2 (.loc 0)) (.list false .nil)) (.ret (.glb "EOF" (.spc 1))) .nil .bad) .nil (.ite (.val (.mown 10 10 (.loc 0) (.cons (.loc 1) .nil))) .cont .nil (.ite (.cmp .eq (.attr 6 0 (.loc 1)) (.lit (.str [46]))) (.expr (.mown 10 11 (.loc 0) (.cons (.loc 1) .nil)) .cont) .nil (.asg (.one 2) (.ifx (.cmp .eq (.attr 6 0 (.loc 1)) (.lit (.str [41]))) (.mown 10 12 (.loc 0) (.cons (.loc 1) .nil)) (.mown 10 13 (.loc 0) (.cons (.loc 1) .nil))) (.ite (.val (.mown 10 14 (.loc 0) (.cons (.loc 2) (.cons (.attr 6 2 (.loc 1)) .nil)))) (.ret (.mown 10 8 (.loc 0) (.cons (.loc 2) .nil))) .nil .nil))))))
noncomputable abbrev w8_1t : IT := (.cmp .ne (.attr 10 2 (.loc 0)) (.list false .nil))
noncomputable abbrev w8_1b : IS := (.asg (.one 2) (.mown 10 9 (.loc 0) (.cons (.loc 2) .nil)) .nil)
noncomputable abbrev f10_1b : IS := (.ite (.cmp .eq (.loc 2) (.attr 6 0 (.loc 1))) (.expr (.meth .append (.attr 10 2 (.loc 0)) (.cons (.call 54 (.cons (.lit (.str [113, 117, 111, 116, 97, 116, 105, 111, 110])) (.cons (.attr 6 2 (.loc 1)) (.cons (.list false (.cons (.mown 1 28 (.attr 10 1 (.loc 0)) (.cons (.loc 3) .nil)) .nil)) .nil)))) .nil)) (.ret (.lit (.bool true)))) .nil .nil)
noncomputable abbrev w14_1t : IT := (.and (.cmp .gt (.loc 4) (.lit (.int 0))) (.and (.cmp .eq (.attr 9 0 (.sub (.attr 10 2 (.loc 0)) (.bin .sub (.loc 4) (.lit (.int 1))))) (.lit (.str [113, 117, 111, 116, 97, 116, 105, 111, 110]))) .kt))
noncomputable abbrev w14_1b : IS := (.asg (.one 4) (.bin .sub (.loc 4) (.lit (.int 1))) .nil)
noncomputable abbrev w14_2t : IT := (.cmp .gt (.bi .len (.cons (.attr 10 2 (.loc 0)) .nil)) (.loc 4))
noncomputable abbrev w14_2b : IS := (.asg (.one 3) (.mown 10 9 (.loc 0) (.cons (.loc 3) .nil)) .nil)
noncomputable abbrev w15_1t : IT := (.cmp .lt (.attr 8 2 (.loc 0)) (.bi .len (.cons (.attr 8 0 (.loc 0)) .nil)))
noncomputable abbrev w15_1b : IS := (.asg (.one 1) (.sub (.attr 8 0 (.loc 0)) (.attr 8 2 (.loc 0))) (.ite (.cmp .eq (.loc 1) (.lit (.str [59]))) (.asg (.one 2) (.meth .find (.attr 8 0 (.loc 0)) (.cons (.lit (.str [10])) (.cons (.attr 8 2 (.loc 0)) .nil))) (.asgA 8 2 (.loc 0) (.ifx (.cmp .lt (.loc 2) (.lit (.int 0))) (.bi .len (.cons (.attr 8 0 (.loc 0)) .nil)) (.loc 2)) .nil)) (.ite (.cmp .isin (.loc 1) (.glb "BLANKS" (.str [32, 10, 9, 13, 12]))) (.asgA 8 2 (.loc 0) (.bin .add (.attr 8 2 (.loc 0)) (.lit (.int 1))) .nil) (.ret (.lit .non)) .nil) .nil))
noncomputable abbrev w18_1t : IT := (.and (.cmp .lt (.loc 2) (.bi .len (.cons (.attr 8 0 (.loc 0)) .nil))) (.and (.cmp .nin (.sub (.attr 8 0 (.loc 0)) (.loc 2)) (.glb "DELIMITERS" (.str [32, 10, 9, 13, 12, 40, 41, 34, 59]))) .kt))
noncomputable abbrev w18_1b : IS := (.ite (.cmp .isin (.sub (.attr 8 0 (.loc 0)) (.loc 2)) (.glb "RESERVED" (.str [91, 93, 123, 125, 124]))) .bad .nil (.asg (.one 2) (.bin .add (.loc 2) (.lit (.int 1))) .nil))
noncomputable abbrev w22_1t : IT := (.val (.lit (.bool true)))
noncomputable abbrev w22_1b : IS := (.ite (.cmp .ge (.loc 3) (.bi .len (.cons (.attr 8 0 (.loc 0)) .nil))) .bad .nil (.asg (.one 4) (.sub (.attr 8 0 (.loc 0)) (.loc 3)) (.ite (.cmp .eq (.loc 4) (.lit (.str [34]))) (.ret (.mown 8 17 (.loc 0) (.cons (.lit (.str [115, 116, 114, 105, 110, 103])) (.cons (.call 32 (.cons (.meth .join (.lit (.str [])) (.cons (.loc 2) .nil)) .nil)) (.cons (.bin .add (.loc 3) (.lit (.int 1))) .nil))))) .nil (.ite (.cmp .eq (.loc 4) (.lit (.str [92]))) .bad .nil (.expr (.meth .append (.loc 2) (.cons (.loc 4) .nil)) (.asg (.one 3) (.bin .add (.loc 3) (.lit (.int 1))) .nil))))))
noncomputable abbrev f23_1b : IS := (.asg (.one 3) (.meth .find (.glb "CAPITALS" (.str [65, 66, 67, 68, 69, 70, 71, 72, 73, 74, 75, 76, 77, 78, 79, 80, 81, 82, 83, 84, 85, 86, 87, 88, 89, 90])) (.cons (.loc 2) .nil)) (.expr (.meth .append (.loc 1) (.cons (.ifx (.cmp .lt (.loc 3) (.lit (.int 0))) (.loc 2) (.sub (.glb "SMALL" (.str [97, 98, 99, 100, 101, 102, 103, 104, 105, 106, 107, 108, 109, 110, 111, 112, 113, 114, 115, 116, 117, 118, 119, 120, 121, 122])) (.loc 3))) .nil)) .nil))
noncomputable abbrev f33_1b : IS := (.asg (.one 2) (.call 48 (.cons (.sub (.loc 0) (.loc 3)) (.cons (.loc 2) .nil))) .nil)
end Mini
end

section
open PySem PySem.W PyProof.Rows PySem.Calls
namespace Mini
noncomputable abbrev OV := Option (AV × AH)
noncomputable def kLoc : Option AV → AH → OV := fun o_ H => o_.bind fun v => if isU v = true then none else some (v, H)
noncomputable def kList (m : Bool) : Option (List AV × AH) → OV := fun x => x.bind fun p => if m then some (.ref p.2.length, p.2 ++ [.list p.1]) else some (.lst p.1, p.2)
section
variable (cf : CF) (n : Nat)
noncomputable abbrev OS := Option (AF × List AV × AH)
noncomputable def kRest (r : IS) : OS → OS := fun x => x.bind fun p => match p.1 with | .nxt => evS cf n r p.2.1 p.2.2 | _ => some p
noncomputable def kH (r : IS) (ls : List AV) : Option AH → OS := fun o_ => o_.bind fun H => evS cf n r ls H
noncomputable def kAA2 (c f : Nat) (r : IS) (ls : List AV) (v : AV) : OV → OS := fun x => x.bind fun p => kH cf n r ls (setAttrV p.2 c f v p.1)
noncomputable def kAA (c f : Nat) (o : IE) (r : IS) (ls : List AV) : OV → OS := fun x => x.bind fun p => kAA2 cf n c f r ls p.1 (evE cf n o ls p.2)
end

section
variable {cf : CF} {n : Nat} {ls : List AV} {H : AH} {a b c o i : IE} {es : IEs} {t r : IT} {s s1 s2 : IS}
theorem q_lit {v : AV} : evE cf n (.lit v) ls H = some (v, H) := by kernel_rfl
theorem q_nint {k : Int} : evE cf n (.nint k) ls H = some (.int (-k), H) := by kernel_rfl
theorem q_glb {x : Str} {v : AV} : evE cf n (.glb x v) ls H = some (v, H) := by kernel_rfl
theorem q_loc {k : Nat} : evE cf n (.loc k) ls H = kLoc ls[k]? H := by kernel_rfl
theorem q_list {m : Bool} : evE cf n (.list m es) ls H = kList m (evEs cf n es ls H) := by kernel_rfl
theorem q_dict0 : evE cf n .dict0 ls H = some (.ref H.length, H ++ [.dict []]) := by kernel_rfl
theorem q_nil : evEs cf n .nil ls H = some ([], H) := by kernel_rfl
theorem q_kt : evT cf n .kt ls H = some (true, H) := by kernel_rfl
theorem q_kf : evT cf n .kf ls H = some (false, H) := by kernel_rfl
theorem q_snil : evS cf n .nil ls H = some (.nxt, ls, H) := by kernel_rfl
theorem q_asgA {k f : Nat} : evS cf n (.asgA k f o a s) ls H = kAA cf n k f o s ls (evE cf n a ls H) := by kernel_rfl
theorem q_whl : evS cf n (.whl t s1 s) ls H = kRest cf n s (loopW (evT cf n t) (evS cf n s1) n ls H) := by kernel_rfl
theorem q_cont : evS cf n .cont ls H = some (.cnt, ls, H) := by kernel_rfl
end

section
variable {H : AH} {i j : Int} {a b k m : Nat} {s u : List Nat} {v w x y : AV} {vs ws : List AV}
theorem p_nin : cmpV H .nin v w = (inV H v w).map (!·) := rfl
theorem p_mul (h : i.natAbs < 2 ^ 30 ∧ j.natAbs < 2 ^ 30) : binV .mul (.int i) (.int j) = some (.int (i * j)) := if_pos (by simp only [smallI, h, decide_true, Bool.and_self])
theorem p_fdiv (h : i.natAbs < 2 ^ 30 ∧ j.natAbs < 2 ^ 30 ∧ 0 < j) : binV .fdiv (.int i) (.int j) = some (.int (Int.fdiv i j)) := if_pos (by simp only [smallI, h, decide_true, Bool.and_self])
theorem p_mod (h : 0 < j) : binV .mod (.int i) (.int j) = some (.int (Int.fmod i j)) := if_pos (decide_eq_true h)
theorem p_addS (h : s.length + u.length ≤ 10000) : binV .add (.str s) (.str u) = some (.str (s ++ u)) := if_pos (decide_eq_true h)
theorem p_addL (h : vs.length + ws.length ≤ 10000) : binV .add (.lst vs) (.lst ws) = some (.lst (vs ++ ws)) := if_pos (decide_eq_true h)
theorem p_mulL (h : 0 ≤ j ∧ j ≤ 1000) : binV .mul (.lst [v]) (.int j) = some (.lst (List.replicate j.toNat v)) := if_pos (decide_eq_true h)
noncomputable def hasO (o : AO) : Option AO → Option AO
  | some _ => some o
  | none => none
theorem g_set {o : AO} : (H.set a o)[a]? = hasO o H[a]? := by
  rw [List.getElem?_set_self']; cases H[a]? <;> rfl
noncomputable def listO : Option AO → Option (List AV) := fun o => o.bind fun
  | .list vs => some vs
  | _ => none
noncomputable def subO : Option (List AV) → Nat → Option AV := fun o k => o.bind fun vs => vs[k]?
noncomputable def subM : Option (List AV) → Option AV := fun o => o.bind fun vs => vs.getLast?
theorem u_str (h : 0 ≤ i ∧ i < 2 ^ 30) : subV H (.str s) (.int i) = (s[i.toNat]?).map fun c => .str [c] := if_pos h
theorem u_in (h : 0 ≤ i ∧ i < 2 ^ 30) : (if smallI i then (seqIndex? i vs.length).bind fun j => vs[j]? else none) = vs[i.toNat]? := by
  have h2 : i.natAbs < 2 ^ 30 := by lia
  refine (if_pos (decide_eq_true h2)).trans ?_
  show Option.bind (if (decide (0 ≤ (if i < 0 then i + (vs.length : Int) else i)) && decide ((if i < 0 then i + (vs.length : Int) else i) < (vs.length : Int))) = true then some (if i < 0 then i + (vs.length : Int) else i).toNat else none) _ = _
  rw [if_neg (Int.not_lt.mpr h.1)]
  by_cases q : i < vs.length
  · rw [if_pos (Bool.and_eq_true_iff.mpr ⟨decide_eq_true h.1, decide_eq_true q⟩)]; rfl
  · rw [if_neg fun z => q (of_decide_eq_true (Bool.and_eq_true_iff.mp z).2), List.getElem?_eq_none ((Int.le_toNat h.1).mpr (Int.not_lt.mp q))]; rfl
theorem u_lst (h : 0 ≤ i ∧ i < 2 ^ 30) : subV H (.lst vs) (.int i) = vs[i.toNat]? := u_in h
theorem u_tup (h : 0 ≤ i ∧ i < 2 ^ 30) : subV H (.tup vs) (.int i) = vs[i.toNat]? := u_in h
theorem u_ref (h : 0 ≤ i ∧ i < 2 ^ 30) : subV H (.ref a) (.int i) = subO (listO H[a]?) i.toNat := congrArg (Option.bind (listO H[a]?)) (funext fun _ => u_in h)
theorem u_last : subV H (.ref a) (.int (-1)) = subM (listO H[a]?) := congrArg (Option.bind (listO H[a]?)) (funext fun vs => by
  cases vs with
  | nil => rfl
  | cons v vs =>
    refine bs (a := vs.length) ((if_pos (Bool.and_eq_true_iff.mpr ⟨decide_eq_true ?_, decide_eq_true ?_⟩)).trans (congrArg some ?_)) (List.getLast?_eq_getElem? ..).symm
    all_goals simp only [if_pos (by decide : (-1 : Int) < 0), List.length_cons]
    all_goals lia)
noncomputable def instO (c : Nat) : Option AO → Option (List AV) := fun o => o.bind fun
  | .inst d fs => if d = c then some fs else none
  | _ => none
noncomputable def isiO (c : Nat) : Option AO → Option Bool := fun o => o.bind fun
  | .inst d _ => some (decide (d = c))
  | _ => none
theorem s_ref {c : Nat} : isiV H c (.ref a) = isiO c H[a]? := by kernel_rfl
theorem s_int {c : Nat} : isiV H c (.int i) = some false := rfl
theorem s_spc {c : Nat} : isiV H c (.spc a) = some false := rfl
noncomputable def setAO (H : AH) (a c f : Nat) (v : AV) : Option AO → Option AH := fun o => (instO c o).bind fun fs => if f < fs.length then some (H.set a (.inst c (fs.set f v))) else none
theorem sa_ref {c f : Nat} : setAttrV H c f v (.ref a) = setAO H a c f v H[a]? := by kernel_rfl
theorem sa_some {c f : Nat} : setAO H a c f v (some (.inst c vs)) = if f < vs.length then some (H.set a (.inst c (vs.set f v))) else none := bs (if_pos rfl) rfl
noncomputable def setIO (H : AH) (a k : Nat) (v : AV) : Option AO → Option AH := fun o => (listO o).bind fun vs => if k < vs.length ∧ vs.length ≤ 10000 then some (H.set a (.list (vs.set k v))) else none
theorem si_ref (h : 0 ≤ i) : setSubV H v (.ref a) (.int i) = setIO H a i.toNat v H[a]? := congrArg (Option.bind (listO H[a]?)) (funext fun vs => by simp only [h, true_and])
theorem si_some (h : k < vs.length ∧ vs.length ≤ 10000) : setIO H a k v (some (.list vs)) = some (H.set a (.list (vs.set k v))) := if_pos h
noncomputable def dictO : Option AO → Option (List (List Nat × AV)) := fun o => o.bind fun
  | .dict vs => some vs
  | _ => none
noncomputable def setDO (H : AH) (a : Nat) (s : List Nat) (v : AV) : Option AO → Option AH := fun o => (dictO o).bind fun kv => if kv.length ≤ 10000 then some (H.set a (.dict (dictPut kv s v))) else none
theorem sd_ref : setSubV H v (.ref a) (.str s) = setDO H a s v H[a]? := by kernel_rfl
theorem sd_some {kv : List (List Nat × AV)} (h : kv.length ≤ 10000) : setDO H a s v (some (.dict kv)) = some (H.set a (.dict (dictPut kv s v))) := if_pos h
noncomputable def popO (H : AH) (a : Nat) : Option AO → OV := fun o => (listO o).bind fun vs => if decide (vs.length ≤ 10000) then (vs.getLast?).bind fun v => some (v, H.set a (.list vs.dropLast)) else none
theorem po_some (h : vs.length + 1 ≤ 10000) : popO H a (some (.list (vs ++ [x]))) = some (x, H.set a (.list vs)) := (if_pos (decide_eq_true (by rw [List.length_append]; exact h))).trans (bs (List.getLast?_concat ..) (by rw [List.dropLast_concat]))
theorem b_lenS (h : s.length ≤ 10000) : biV H .len [.str s] = some (.int s.length, H) := if_pos (decide_eq_true h)
noncomputable def lenO (H : AH) : Option (List AV) → OV := fun o => (o.map (·.length)).bind fun (n : Nat) => if decide (n ≤ 10000) then some (.int n, H) else none
theorem b_lenR : biV H .len [.ref a] = lenO H (listO H[a]?) := by kernel_rfl
theorem b_lenL : biV H .len [.lst vs] = lenO H (some vs) := rfl
theorem b_len (h : vs.length ≤ 10000) : lenO H (some vs) = some (.int vs.length, H) := if_pos (decide_eq_true h)
theorem b_abs : biV H .abs [.int i] = some (.int (if i < 0 then -i else i), H) := rfl
theorem z_nil (h : H[a]? = some (.list [])) : cmpV H .eq (.ref a) (.lst []) = some true := by
  have e : listAt H a = some [] := bs h rfl
  have d : toPy pyFuel H (.ref a) = some (.list []) := bs e rfl
  refine (congrArg (Option.or · _) (bs e rfl : lensDiffer H (.ref a) (.lst []) = none)).trans ?_
  exact bs d (bs (a := .list []) rfl rfl)
theorem z_cons (h : H[a]? = some (.list vs)) (h0 : vs ≠ []) (h1 : vs.length ≤ 10000) : cmpV H .eq (.ref a) (.lst []) = some false := by
  have e : listAt H a = some vs := bs h rfl
  refine congrArg (Option.or · _) (bs e (if_pos ?_) : lensDiffer H (.ref a) (.lst []) = some false)
  cases vs with
  | nil => exact absurd rfl h0
  | cons v vs => rfl
theorem f_find3 : methV H .find (.str s) [.str u, .int i] = some (.int (Txt.find3 (strS s) (strS u) i), H) := by kernel_rfl
theorem f_find : methV H .find (.str s) [.str u] = some (.int (Txt.find (strS s) (strS u)), H) := by kernel_rfl
theorem z_eqD {x y : PyData} (h1 : lensDiffer H v w = none) (h2 : toPy pyFuel H v = some x) (h3 : toPy pyFuel H w = some y) (hs : SeqAt.shaped x = true) (hs' : SeqAt.shaped y = true) : eqD H v w = some (x.eqv y) := (congrArg (Option.or · _) h1).trans (bs h2 (bs h3 (if_pos (Bool.and_eq_true_iff.mpr ⟨hs, hs'⟩))))
theorem z_inD {x : PyData} {ds : List PyData} (h1 : items? H w = some vs) (h2 : toPy pyFuel H v = some x) (h3 : toPyL pyFuel H vs = some ds) (hs : SeqAt.shaped x = true) (hs' : SeqAt.shaped (.list ds) = true) : inD H v w = some (ds.any fun y => y.eqv x) := bs h1 (bs h2 (bs h3 (if_pos (Bool.and_eq_true_iff.mpr ⟨hs, hs'⟩))))
theorem z_ne : cmpV H .ne v w = (cmpV H .eq v w).map (!·) := rfl
end
end Mini
end

section
open PySem PySem.W PyProof.Rows PySem.Calls
namespace Mini
theorem kLoc_1 {H : AH} {v : AV} : kLoc (some v) (H) = (if isU v = true then none else some (v, H)) := by kernel_rfl
theorem kList_1 {m : Bool} {H1 : AH} {vs : List AV} : kList m (some (vs, H1)) = (if m then some (.ref H1.length, H1 ++ [.list vs]) else some (.lst vs, H1)) := by kernel_rfl
theorem kH_1 {cf : CF} {n : Nat} {r : IS} {ls : List AV} {H : AH} : kH cf n r ls (some H) = (evS cf n r ls H) := by kernel_rfl
theorem kAA2_1 {cf : CF} {n : Nat} {c f : Nat} {r : IS} {ls : List AV} {v : AV} {H2 : AH} {ov : AV} : kAA2 cf n c f r ls v (some (ov, H2)) = (kH cf n r ls (setAttrV H2 c f v ov)) := by kernel_rfl
theorem kAA_1 {cf : CF} {n : Nat} {c f : Nat} {o : IE} {r : IS} {ls : List AV} {H1 : AH} {v : AV} : kAA cf n c f o r ls (some (v, H1)) = (kAA2 cf n c f r ls v (evE cf n o ls H1)) := by kernel_rfl
end Mini
end

section
open PySem PySem.W PyProof.Rows PySem.Calls
namespace Mini
theorem not_f {p : Bool} (h : p = false) : (!p) = true := by rw [h]; rfl
theorem not_t {p : Bool} (h : p = true) : (!p) = false := by rw [h]; rfl
theorem eqv {α β : Type} {x : Option (α × β)} {a a' : α} {b b' : β} (h : x = some (a, b)) (ha : a = a') (hb : b = b') : x = some (a', b') := ha ▸ hb ▸ h
theorem eqs {α β γ : Type} {x : Option (α × β × γ)} {a a' : α} {b b' : β} {c c' : γ} (h : x = some (a, b, c)) (ha : a = a') (hb : b = b') (hc : c = c') : x = some (a', b', c') := ha ▸ hb ▸ hc ▸ h
theorem o_ret {x : OS} {v : AV} {ls : List AV} {H : AH} (h : x = some (.ret v, ls, H)) : outF x = some (v, H) := bs h rfl
theorem o_nxt {x : OS} {ls : List AV} {H : AH} (h : x = some (.nxt, ls, H)) : outF x = some (.non, H) := bs h rfl
theorem eqr {x : OS} {v v' : AV} {ls : List AV} {H H' : AH} (h : x = some (.ret v, ls, H)) (hv : v = v') (hH : H = H') : outF x = some (v', H') := hv ▸ hH ▸ o_ret h
theorem eqR {x : Option (List AV × AH)} {c : Nat} {vs : List AV} {v' : AV} {H H' : AH} (h : x = some (vs, H)) (hv : .rcd c vs = v') (hH : H = H') : outR c x = some (v', H') := hv ▸ hH ▸ bs h rfl
theorem eqN {x : Option (List AV × AH)} {c : Nat} {vs : List AV} {v' : AV} {H H' : AH} (h : x = some (vs, H)) (hv : .ref H.length = v') (hH : H ++ [.inst c vs] = H') : outN c x = some (v', H') := hv ▸ hH ▸ bs h rfl
theorem eqn {x : OS} {v' : AV} {ls : List AV} {H H' : AH} (h : x = some (.nxt, ls, H)) (hv : .non = v') (hH : H = H') : outF x = some (v', H') := hv ▸ hH ▸ o_nxt h
section
variable {cf : CF} {n : Nat} {ls ls1 ls2 : List AV} {H H1 H2 H3 H4 : AH} {v u x y z : AV} {vs ws : List AV} {a b c e o i : IE} {es : IEs} {t r : IT} {s s1 s2 : IS} {k f d : Nat} {p q w : Bool} {R : OS} {op oq : Cop}
theorem r_loc (h : ls[k]? = some v) (hu : isU v = false) : evE cf n (.loc k) ls H = some (v, H) := bs h (by rw [hu]; rfl)
theorem r_ifx (h : evT cf n t ls H = some (p, H1)) (h2 : (if p then evE cf n a ls H1 else evE cf n b ls H1) = some (v, H2)) : evE cf n (.ifx t a b) ls H = some (v, H2) := bs h h2
theorem r_bin {o : Bop} (h : evE cf n a ls H = some (x, H1)) (h2 : evE cf n b ls H1 = some (y, H2)) (h3 : binV o x y = some v) : evE cf n (.bin o a b) ls H = some (v, H2) := bs h (bs h2 (bs h3 rfl))
theorem r_lstT (h : evEs cf n es ls H = some (vs, H1)) : evE cf n (.list true es) ls H = some (.ref H1.length, H1 ++ [.list vs]) := bs h rfl
theorem r_lstF (h : evEs cf n es ls H = some (vs, H1)) : evE cf n (.list false es) ls H = some (.lst vs, H1) := bs h rfl
theorem r_tup (h : evEs cf n es ls H = some (vs, H1)) : evE cf n (.tup es) ls H = some (.tup vs, H1) := bs h rfl
theorem r_compT {names : List Str} {caps : List (Nat × Nat)} {en : Bool} {tg : Tgt} {sr : Src} (h : evE cf n a ls H = some (x, H1)) (h1 : (if en then enumOf x else srcOf x) = some sr) (h2 : loopC sr (turnC cf n names caps tg t b ls) n 0 [] H1 = some (vs, H2)) : evE cf n (.comp true names caps en tg a t b) ls H = some (.ref H2.length, H2 ++ [.list vs]) := bs h (bs h1 (bs h2 rfl))
theorem r_compF {names : List Str} {caps : List (Nat × Nat)} {en : Bool} {tg : Tgt} {sr : Src} (h : evE cf n a ls H = some (x, H1)) (h1 : (if en then enumOf x else srcOf x) = some sr) (h2 : loopC sr (turnC cf n names caps tg t b ls) n 0 [] H1 = some (vs, H2)) : evE cf n (.comp false names caps en tg a t b) ls H = some (.lst vs, H2) := bs h (bs h1 (bs h2 rfl))
theorem r_call (h : evEs cf n es ls H = some (vs, H1)) (h2 : cf f vs H1 = some (v, H2)) : evE cf n (.call f es) ls H = some (v, H2) := bs h h2
theorem r_bi {b : BI} (h : evEs cf n es ls H = some (vs, H1)) (h2 : biV H1 b vs = some (v, H2)) : evE cf n (.bi b es) ls H = some (v, H2) := bs h h2
theorem r_meth {m : MN} (h : evE cf n o ls H = some (x, H1)) (h1 : recvOk H1 m x = true) (h2 : evEs cf n es ls H1 = some (vs, H2)) (h3 : methV H2 m x vs = some (v, H3)) : evE cf n (.meth m o es) ls H = some (v, H3) := bs h ((if_pos h1).trans (bs h2 h3))
theorem r_mown (h : evE cf n o ls H = some (x, H1)) (h1 : isiV H1 k x = some true) (h2 : evEs cf n es ls H1 = some (vs, H2)) (h3 : cf f (x :: vs) H2 = some (v, H3)) : evE cf n (.mown k f o es) ls H = some (v, H3) := bs h (bs h1 (bs h2 h3))
theorem r_isi (h : evE cf n a ls H = some (x, H1)) (h1 : isiV H1 k x = some p) : evE cf n (.isi k a) ls H = some (.bool p, H1) := bs h (bs h1 rfl)
theorem r_attr (h : evE cf n a ls H = some (x, H1)) (h1 : attrV H1 k f x = some v) : evE cf n (.attr k f a) ls H = some (v, H1) := bs h (bs h1 rfl)
theorem r_sub (h : evE cf n a ls H = some (x, H1)) (h1 : evE cf n b ls H1 = some (y, H2)) (h2 : subV H2 x y = some v) : evE cf n (.sub a b) ls H = some (v, H2) := bs h (bs h1 (bs h2 rfl))
theorem r_slice (h : evE cf n a ls H = some (x, H1)) (h1 : evE cf n b ls H1 = some (y, H2)) (h2 : evE cf n c ls H2 = some (z, H3)) (h3 : sliceV x y z = some v) : evE cf n (.slice a b c) ls H = some (v, H3) := bs h (bs h1 (bs h2 (bs h3 rfl)))
theorem r_cons (h : evE cf n a ls H = some (v, H1)) (h1 : evEs cf n es ls H1 = some (vs, H2)) : evEs cf n (.cons a es) ls H = some (v :: vs, H2) := bs h (bs h1 rfl)
theorem t_val (h : evE cf n a ls H = some (.bool p, H1)) : evT cf n (.val a) ls H = some (p, H1) := bs h rfl
theorem t_not (h : evT cf n t ls H = some (p, H1)) : evT cf n (.not t) ls H = some (!p, H1) := bs h rfl
theorem t_and (h : evT cf n t ls H = some (p, H1)) (h2 : (if p then evT cf n r ls H1 else some (false, H1)) = some (q, H2)) : evT cf n (.and t r) ls H = some (q, H2) := bs h h2
theorem t_or (h : evT cf n t ls H = some (p, H1)) (h2 : (if p then some (true, H1) else evT cf n r ls H1) = some (q, H2)) : evT cf n (.or t r) ls H = some (q, H2) := bs h h2
theorem t_cmp (h : evE cf n a ls H = some (x, H1)) (h2 : evE cf n b ls H1 = some (y, H2)) (h3 : cmpV H2 op x y = some p) : evT cf n (.cmp op a b) ls H = some (p, H2) := bs h (bs h2 (bs h3 rfl))
theorem t_cm2 (h : evE cf n a ls H = some (x, H1)) (h2 : evE cf n b ls H1 = some (y, H2)) (h3 : cmpV H2 op x y = some p) (h4 : (if p then (evE cf n c ls H2).bind fun z => (cmpV z.2 oq y z.1).bind fun v => some (v, z.2) else some (false, H2)) = some (q, H3)) : evT cf n (.cmp2 op oq a b c) ls H = some (q, H3) := bs h (bs h2 (bs h3 h4))
theorem t_cm3 (h : evE cf n c ls H = some (z, H1)) (h2 : cmpV H1 oq y z = some p) : ((evE cf n c ls H).bind fun z => (cmpV z.2 oq y z.1).bind fun v => some (v, z.2)) = some (p, H1) := bs h (bs h2 rfl)
theorem i_t {α : Type} {x y z : α} (hp : p = true) (h : x = z) : (if p then x else y) = z := by subst hp; exact h
theorem i_f {α : Type} {x y z : α} (hp : p = false) (h : y = z) : (if p then x else y) = z := by subst hp; exact h
theorem s_expr (h : evE cf n a ls H = some (v, H1)) (h1 : evS cf n s ls H1 = R) : evS cf n (.expr a s) ls H = R := bs h h1
theorem s_asgA (h : evE cf n e ls H = some (v, H1)) (h1 : evE cf n o ls H1 = some (x, H2)) (h2 : setAttrV H2 k f v x = some H3) (h3 : evS cf n s ls H3 = R) : evS cf n (.asgA k f o e s) ls H = R := bs h (bs h1 (bs h2 h3))
theorem s_asgS (h : evE cf n e ls H = some (v, H1)) (h1 : evE cf n o ls H1 = some (x, H2)) (h2 : evE cf n i ls H2 = some (y, H3)) (h3 : setSubV H3 v x y = some H4) (h4 : evS cf n s ls H4 = R) : evS cf n (.asgS o i e s) ls H = R := bs h (bs h1 (bs h2 (bs h3 h4)))
theorem s_ite (h : evT cf n t ls H = some (p, H1)) (h1 : (if p then kRest cf n s (evS cf n s1 ls H1) else kRest cf n s (evS cf n s2 ls H1)) = R) : evS cf n (.ite t s1 s2 s) ls H = R := bs h (by cases p <;> exact h1)
theorem k_nil (h : evS cf n s ls H = R) : kRest cf n s (evS cf n .nil ls H) = R := h
theorem k_any {p : AF × List AV × AH} (h : evS cf n s1 ls H = some p) (h1 : kRest cf n s (some p) = R) : kRest cf n s (evS cf n s1 ls H) = R := by rw [h]; exact h1
theorem s_whl {p : AF × List AV × AH} (h : loopW (evT cf n t) (evS cf n s1) n ls H = some p) (h1 : kRest cf n s (some p) = R) : evS cf n (.whl t s1 s) ls H = R := bs h h1
theorem s_for {tg : Tgt} {sr : Src} {p : AF × List AV × AH} (h : evE cf n a ls H = some (x, H1)) (h1 : srcOf x = some sr) (h2 : loopF sr tg (evS cf n s1) n 0 ls H1 = some p) (h3 : kRest cf n s (some p) = R) : evS cf n (.for_ tg a s1 s) ls H = R := bs h (bs h1 (bs h2 h3))
theorem kr_n (h : evS cf n s ls H = R) : kRest cf n s (some (.nxt, ls, H)) = R := h
theorem kr_r : kRest cf n s (some (.ret v, ls, H)) = some (.ret v, ls, H) := rfl
theorem kr_c : kRest cf n s (some (.cnt, ls, H)) = some (.cnt, ls, H) := rfl
end
section
variable {H : AH} {i j m : Int} {a b k f d : Nat} {s u : List Nat} {v w x y : AV} {vs ws us : List AV} {o o' o2 : AO} {X : List AO} {kv : List (List Nat × AV)} {p : Bool}
theorem g_self (h : H[a]? = some o') : (H.set a o)[a]? = some o := by rw [List.getElem?_set_self']; rw [h]; rfl
theorem g_ne (hn : b ≠ a) (h : H[a]? = some o) : (H.set b o')[a]? = some o := by rw [List.getElem?_set_ne hn]; exact h
theorem g_app (h : H[a]? = some o) : (H ++ X)[a]? = some o := by rw [List.getElem?_append_left (List.getElem?_eq_some_iff.mp h).1]; exact h
theorem a_r (h : H[a]? = some (.inst k vs)) (hf : vs[f]? = some v) : attrV H k f (.ref a) = some v := bs (bs h (if_pos rfl)) hf
theorem a_c (hf : vs[f]? = some v) : attrV H k f (.rcd k vs) = some v := (if_pos rfl).trans hf
theorem q_r (h : H[a]? = some (.inst k vs)) : isiV H k (.ref a) = some true := bs h (congrArg some (decide_eq_true rfl))
theorem q_cd : isiV H k (.rcd d vs) = some (decide (d = k)) := rfl
theorem q_c : isiV H k (.rcd k vs) = some true := congrArg some (decide_eq_true rfl)
theorem sa_r {H' : AH} (h : H[a]? = some (.inst k vs)) (hf : decide (f < vs.length) = true) (he : vs.set f v = ws) (hH : H.set a (.inst k ws) = H') : setAttrV H k f v (.ref a) = some H' := by rw [sa_ref, h, sa_some, if_pos (of_decide_eq_true hf), he, hH]
theorem si_r (h : H[a]? = some (.list vs)) (hi : 0 ≤ i ∧ i.toNat < vs.length ∧ vs.length ≤ 10000) (he : vs.set i.toNat v = ws) {H' : AH} (hH : H.set a (.list ws) = H') : setSubV H v (.ref a) (.int i) = some H' := by rw [si_ref hi.1, h, si_some hi.2, he, hH]
theorem ap_r (h : H[a]? = some (.list vs)) (hl : vs.length ≤ 10000) (he : vs ++ [x] = ws) {H' : AH} (hH : H.set a (.list ws) = H') : methV H .append (.ref a) [x] = some (.non, H') := bs (bs h rfl) ((if_pos (decide_eq_true hl)).trans (by rw [he, hH]))
theorem po_r (h : H[a]? = some (.list (vs ++ [x]))) (hl : vs.length + 1 ≤ 10000) {H' : AH} (hH : H.set a (.list vs) = H') : methV H .pop (.ref a) [] = some (x, H') := (show popO H a H[a]? = _ by rw [h]; exact hH ▸ po_some hl)
theorem sd_r {kw : List (List Nat × AV)} (h : H[a]? = some (.dict kv)) (hl : kv.length ≤ 10000) (he : dictPut kv s v = kw) {H' : AH} (hH : H.set a (.dict kw) = H') : setSubV H v (.ref a) (.str s) = some H' := by rw [sd_ref, h, sd_some hl, he, hH]
theorem rv_l {m : MN} (h : H[a]? = some (.list vs)) (hm : m = .append ∨ m = .pop ∨ m = .index) : recvOk H m (.ref a) = true := by
  have e : listAt H a = some vs := bs h rfl
  rcases hm with rfl | rfl | rfl <;> exact congrArg Option.isSome e
theorem rv_ap (h : H[a]? = some (.list vs)) : recvOk H .append (.ref a) = true := rv_l h (.inl rfl)
theorem rv_po (h : H[a]? = some (.list vs)) : recvOk H .pop (.ref a) = true := rv_l h (.inr (.inl rfl))
theorem rv_ix (h : H[a]? = some (.list vs)) : recvOk H .index (.ref a) = true := rv_l h (.inr (.inr rfl))
theorem rv_ge (h : H[a]? = some (.dict kv)) : recvOk H .get (.ref a) = true := congrArg Option.isSome (bs h rfl : dictAt H a = some kv)
theorem ge_r (h : H[a]? = some (.dict kv)) (he : (kv.lookup s).getD .non = v) : methV H .get (.ref a) [.str s, .non] = some (v, H) := bs (bs h rfl) (by rw [he])
theorem p_ad (h : i + j = m) : binV .add (.int i) (.int j) = some (.int m) := h ▸ rfl
theorem p_sb (h : i - j = m) : binV .sub (.int i) (.int j) = some (.int m) := h ▸ rfl
theorem u_s (h : s[i.toNat]? = some d) (hi : 0 ≤ i ∧ i < 2 ^ 30) : subV H (.str s) (.int i) = some (.str [d]) := by rw [u_str hi, h]; rfl
theorem u_l (hk : vs[i.toNat]? = some v) (hi : 0 ≤ i ∧ i < 2 ^ 30) : subV H (.lst vs) (.int i) = some v := (u_lst hi).trans hk
theorem u_t (hk : vs[i.toNat]? = some v) (hi : 0 ≤ i ∧ i < 2 ^ 30) : subV H (.tup vs) (.int i) = some v := (u_tup hi).trans hk
theorem u_r (h : H[a]? = some (.list vs)) (hk : vs[i.toNat]? = some v) (hi : 0 ≤ i ∧ i < 2 ^ 30) : subV H (.ref a) (.int i) = some v := (u_ref hi).trans (by rw [h]; exact hk)
theorem u_m (h : H[a]? = some (.list vs)) (hk : vs.getLast? = some v) : subV H (.ref a) (.int (-1)) = some v := u_last.trans (by rw [h]; exact hk)
theorem b_lenL1 (hl : vs.length ≤ 10000) : biV H .len [.lst vs] = some (.int (vs.length : Nat), H) := b_lenL.trans (b_len hl)
theorem ln_r (h : H[a]? = some (.list vs)) (hl : vs.length ≤ 10000) : biV H .len [.ref a] = some (.int (vs.length : Nat), H) := b_lenR.trans (by rw [h]; exact b_len hl)
end
end Mini
end

section
open PySem PySem.W PyProof.Rows PySem.Calls
set_option maxRecDepth 8000
set_option maxHeartbeats 2000000
namespace Mini
section
theorem c_Token {n : Nat} {H : AH} {a b c d : AV} (ha : isU a = false) (hb : isU b = false) (hc : isU c = false) (hd : isU d = false) : cP (n + 1) 51 [a, b, c, d] H = some (.rcd 6 [a, b, c, d], H) := by
  rw [callF_recE (fn := fn51) rfl rfl rfl]; exact eqR (r_cons (r_loc rfl ha) (r_cons (r_loc rfl hb) (r_cons (r_loc rfl hc) (r_cons (r_loc rfl hd) q_nil)))) rfl rfl
theorem c_Pair {n : Nat} {H : AH} {a b : AV} (ha : isU a = false) (hb : isU b = false) : cP (n + 1) 48 [a, b] H = some (.rcd 3 [a, b, .non], H) := by
  rw [callF_recE (fn := fn48) rfl rfl rfl]; exact eqR (r_cons (r_loc rfl ha) (r_cons (r_loc rfl hb) (r_cons q_lit q_nil))) rfl rfl
theorem c_Vector {n : Nat} {H : AH} {a : AV} (ha : isU a = false) : cP (n + 1) 50 [a] H = some (.rcd 5 [a, .non], H) := by
  rw [callF_recE (fn := fn50) rfl rfl rfl]; exact eqR (r_cons (r_loc rfl ha) (r_cons q_lit q_nil)) rfl rfl
theorem c_Frame {n : Nat} {H : AH} {a b c : AV} (ha : isU a = false) (hb : isU b = false) (hc : isU c = false) : cP (n + 1) 54 [a, b, c] H = some (.ref H.length, H ++ [.inst 9 [a, b, c, .int 0, .spc 0]]) := by
  rw [callF_newE (fn := fn54) rfl rfl rfl]; exact eqN (r_cons (r_loc rfl ha) (r_cons (r_loc rfl hb) (r_cons (r_loc rfl hc) (r_cons q_glb (r_cons q_glb q_nil))))) rfl rfl
theorem c_Symbol {n : Nat} {H : AH} {a b : AV} (ha : isU a = false) (hb : isU b = false) : cP (n + 1) 47 [a, b] H = some (.ref H.length, H ++ [.inst 2 [a, b]]) := by
  rw [callF_newE (fn := fn47) rfl rfl rfl]; exact eqN (r_cons (r_loc rfl ha) (r_cons (r_loc rfl hb) q_nil)) rfl rfl

theorem c_found {n lx : Nat} {H : AH} {w v a b c d : AV} {p e : Int} (hw : isU w = false) (hv : isU v = false) (h : H[lx]? = some (.inst 8 [a, b, .int p, d])) :
    cP (n + 2) 17 [.ref lx, w, v, .int e] H = some (.rcd 6 [w, v, .int p, .int e], H.set lx (.inst 8 [a, b, .int e, d])) := by
  rw [callF_code (fn := fn17) (ls := [.ref lx, w, v, .int e, .unb]) rfl rfl rfl]
  have := @c_Token n (H.set lx (.inst 8 [a, b, .int e, d])) w v (.int p) (.int e) hw hv rfl rfl
  exact eqr (x_asg (r_attr (r_loc rfl rfl) (a_r h rfl)) rfl (s_asgA (r_loc rfl rfl) (r_loc rfl rfl) (sa_r h rfl rfl rfl) (x_ret (r_call (r_cons (r_loc rfl hw) (r_cons (r_loc rfl hv) (r_cons (r_loc rfl rfl) (r_cons (r_loc rfl rfl) q_nil)))) this)))) rfl rfl
end
section
noncomputable def drawV (cells : List Int) (k m : Nat) : Int :=
  if k < cells.length then Int.fmod (cells.getD k 0) m else Int.fmod (Int.fdiv ((((k + 1 : Nat) : Int) * ((k + 1 : Nat) : Int) * 37 + 23 * ((k + 1 : Nat) : Int)) + 7 * (cells.length : Int)) 5) m
theorem drawV_range (cells : List Int) (k m : Nat) (hm : 0 < m) : 0 ≤ drawV cells k m ∧ drawV cells k m < m := by
  unfold drawV
  split
  · exact ⟨Int.fmod_nonneg_of_pos _ (by lia), Int.fmod_lt_of_pos _ (by lia)⟩
  · exact ⟨Int.fmod_nonneg_of_pos _ (by lia), Int.fmod_lt_of_pos _ (by lia)⟩

noncomputable abbrev deckO (cells : List Int) (k : Nat) : AO := .list [.lst (cells.map fun c => .int c), .int (k : Nat)]
theorem c_draw {n a k m : Nat} {cells : List Int} {H : AH} (hH : H[a]? = some (deckO cells k)) (hk : k < 1000) (hc : cells.length < 100) (hm : 0 < m) :
    cP (n + 1) 1 [.ref a, .int m] H = some (.int (drawV cells k m), H.set a (deckO cells (k + 1))) := by
  rw [callF_code (fn := fn1) (ls := [.ref a, .int m]) rfl rfl rfl]
  have e : ((k : Int) + 1) = ((k + 1 : Nat) : Int) := by lia
  have ek : ((k + 1 : Nat) : Int) - 1 = (k : Nat) := by lia
  have hka : k < 10000 := by lia
  have hl : (cells.map fun c => AV.int c).length ≤ 10000 := by simp; lia
  have hmi : (0 : Int) < m := by lia
  by_cases h : k < cells.length
  · have hd : decide (((k + 1 : Nat) : Int) ≤ ((cells.map fun c => AV.int c).length : Int)) = true := by simp; lia
    have hg : (cells.map fun c => AV.int c)[k]? = some (.int (cells.getD k 0)) := by simp [List.getD, h]
    have hv : AV.int (Int.fmod (cells.getD k 0) m) = AV.int (drawV cells k m) := congrArg AV.int (if_pos h).symm
    exact eqr (s_asgS (r_bin (r_sub (r_loc rfl rfl) q_lit (u_r hH rfl ⟨(by decide), (by decide)⟩)) q_lit (p_ad e)) (r_loc rfl rfl) q_lit (si_r hH ⟨(by decide), ⟨(of_decide_eq_true rfl), (of_decide_eq_true rfl)⟩⟩ rfl rfl) (s_ite (t_cmp (r_sub (r_loc rfl rfl) q_lit (u_r (g_self hH) rfl ⟨(by decide), (by decide)⟩)) (r_bi (r_cons (r_sub (r_loc rfl rfl) q_lit (u_r (g_self hH) rfl ⟨(by decide), (by decide)⟩)) q_nil) (b_lenL1 hl)) rfl) (i_t hd (k_any (x_ret (r_bin (r_sub (r_sub (r_loc rfl rfl) q_lit (u_r (g_self hH) rfl ⟨(by decide), (by decide)⟩)) (r_bin (r_sub (r_loc rfl rfl) q_lit (u_r (g_self hH) rfl ⟨(by decide), (by decide)⟩)) q_lit (p_sb ek)) (u_l hg ⟨(by lia), (by lia)⟩)) (r_loc rfl rfl) (p_mod hmi))) kr_r)))) hv rfl
  · have hln : (cells.map fun c => AV.int c).length = cells.length := by simp
    have hd : decide (((k + 1 : Nat) : Int) ≤ ((cells.map fun c => AV.int c).length : Int)) = false := by rw [hln]; exact decide_eq_false (by lia)
    have hq : (((k + 1 : Nat) : Int) * ((k + 1 : Nat) : Int)) = (((k + 1) * (k + 1) : Nat) : Int) := by simp
    have hb : (k + 1) * (k + 1) ≤ 1000 * 1000 := Nat.mul_le_mul (by lia) (by lia)
    have m1 : binV .mul (.int ((k + 1 : Nat) : Int)) (.int ((k + 1 : Nat) : Int)) = some (.int (((k + 1) * (k + 1) : Nat) : Int)) := by rw [p_mul (by lia), hq]
    have m2 : binV .mul (.int (((k + 1) * (k + 1) : Nat) : Int)) (.int 37) = some (.int ((((k + 1) * (k + 1) : Nat) : Int) * 37)) := p_mul (by lia)
    have m3 : binV .mul (.int 23) (.int ((k + 1 : Nat) : Int)) = some (.int (23 * ((k + 1 : Nat) : Int))) := p_mul (by lia)
    have m4 : binV .mul (.int 7) (.int ((cells.map fun c => AV.int c).length : Nat)) = some (.int (7 * (cells.length : Int))) := by rw [hln]; exact p_mul (by lia)
    have m5 := @p_fdiv ((((k + 1) * (k + 1) : Nat) : Int) * 37 + 23 * ((k + 1 : Nat) : Int) + 7 * (cells.length : Int)) 5 (by lia)
    have hv : AV.int (Int.fmod (Int.fdiv ((((k + 1) * (k + 1) : Nat) : Int) * 37 + 23 * ((k + 1 : Nat) : Int) + 7 * (cells.length : Int)) 5) m) = AV.int (drawV cells k m) := congrArg AV.int (by rw [← hq]; exact (if_neg h).symm)
    exact eqr (s_asgS (r_bin (r_sub (r_loc rfl rfl) q_lit (u_r hH rfl ⟨(by decide), (by decide)⟩)) q_lit (p_ad e)) (r_loc rfl rfl) q_lit (si_r hH ⟨(by decide), ⟨(of_decide_eq_true rfl), (of_decide_eq_true rfl)⟩⟩ rfl rfl) (s_ite (t_cmp (r_sub (r_loc rfl rfl) q_lit (u_r (g_self hH) rfl ⟨(by decide), (by decide)⟩)) (r_bi (r_cons (r_sub (r_loc rfl rfl) q_lit (u_r (g_self hH) rfl ⟨(by decide), (by decide)⟩)) q_nil) (b_lenL1 hl)) rfl) (i_f hd (k_nil (x_ret (r_bin (r_bin (r_bin (r_bin (r_bin (r_bin (r_sub (r_loc rfl rfl) q_lit (u_r (g_self hH) rfl ⟨(by decide), (by decide)⟩)) (r_sub (r_loc rfl rfl) q_lit (u_r (g_self hH) rfl ⟨(by decide), (by decide)⟩)) m1) q_lit m2) (r_bin q_lit (r_sub (r_loc rfl rfl) q_lit (u_r (g_self hH) rfl ⟨(by decide), (by decide)⟩)) m3) (p_ad rfl)) (r_bin q_lit (r_bi (r_cons (r_sub (r_loc rfl rfl) q_lit (u_r (g_self hH) rfl ⟨(by decide), (by decide)⟩)) q_nil) (b_lenL1 hl)) m4) (p_ad rfl)) q_lit m5) (r_loc rfl rfl) (p_mod hmi))))))) hv rfl

theorem at_get {tx r : List Nat} {p c : Nat} (h : tx.drop p = c :: r) : tx[p]? = some c := by
  have := congrArg (fun l => l[0]?) h; simpa using this
theorem at_lt {tx r : List Nat} {p c : Nat} (h : tx.drop p = c :: r) : p < tx.length := by
  have := congrArg List.length h; simp at this; lia
theorem at_next {tx r : List Nat} {p c : Nat} (h : tx.drop p = c :: r) : tx.drop (p + 1) = r := by
  have := congrArg List.tail h; simpa using this
theorem at_step {tx g r : List Nat} {p : Nat} (h : tx.drop p = g ++ r) : tx.drop (p + g.length) = r := by
  have := congrArg (List.drop g.length) h; rw [List.drop_drop, List.drop_left] at this; exact this
theorem at_end {tx : List Nat} {p : Nat} (h : tx.drop p = []) : tx.length ≤ p := by simpa using h

noncomputable abbrev blanks : List Nat := [32, 10, 9, 13, 12]
inductive Gap : List Nat → Nat → Prop
  | nil : Gap [] 0
  | blank {c : Nat} {g : List Nat} {k : Nat} (hb : blanks.contains c = true) (h : Gap g k) : Gap (c :: g) (k + 1)
  | rem {g : List Nat} {k : Nat} (h : Gap (10 :: g) k) : Gap (59 :: 32 :: 40 :: 120 :: 10 :: g) (k + 1)
noncomputable def Stops : List Nat → Prop
  | [] => True
  | c :: _ => c ≠ 59 ∧ blanks.contains c = false

theorem find_rem {tx r : List Nat} {p : Nat} (h : tx.drop p = 59 :: 32 :: 40 :: 120 :: 10 :: r) : Txt.find3 (strS tx) (strS [10]) (p : Nat) = ((p + 4 : Nat) : Int) := by
  have gl : (strS tx).length = tx.length := rfl
  have gd : ∀ k, (strS tx).cps.getD k 0 = tx.getD k 0 := fun k => by simp [strS, Array.getD_eq_getD_getElem?, List.getD_eq_getElem?_getD]
  have gi : ∀ n : Nat, PySem.fromIndex n (p : Nat) = p := fun n => by simp only [PySem.fromIndex]; lia
  have h1 := at_next h; have h2 := at_next h1; have h3 := at_next h2; have h4 := at_next h3
  have e0 : tx.getD p 0 = 59 := by simp [List.getD_eq_getElem?_getD, at_get h]
  have e1 : tx.getD (p + 1) 0 = 32 := by simp [List.getD_eq_getElem?_getD, at_get h1]
  have e2 : tx.getD (p + 2) 0 = 40 := by simp [List.getD_eq_getElem?_getD, at_get h2]
  have e3 : tx.getD (p + 3) 0 = 120 := by simp [List.getD_eq_getElem?_getD, at_get h3]
  have e4 : tx.getD (p + 4) 0 = 10 := by simp [List.getD_eq_getElem?_getD, at_get h4]
  have l4 := at_lt h4
  rcases StrLaws.find3_spec (strS tx) 10 (p : Nat) with ⟨_, hn⟩ | ⟨k, hk, h5, h6, h7, h8⟩
  · exact absurd (gd _ ▸ e4) (hn (p + 4) (by rw [gi]; lia) (by rw [gl]; lia))
  · rw [gi] at h5 h8
    rw [gd] at h7
    show Txt.find3 (strS tx) ⟨#[10]⟩ (p : Nat) = _
    rw [hk]
    congr 1
    rcases Nat.lt_trichotomy k (p + 4) with q | q | q
    · exfalso
      obtain rfl | rfl | rfl | rfl : k = p ∨ k = p + 1 ∨ k = p + 2 ∨ k = p + 3 := by lia
      all_goals simp_all
    · exact q
    · exact absurd (gd _ ▸ e4) (h8 (p + 4) (by lia) q)

theorem set_same {H : AH} {a : Nat} {o : AO} (h : H[a]? = some o) : H.set a o = H := by
  obtain ⟨h1, h2⟩ := List.getElem?_eq_some_iff.mp h
  exact List.ext_getElem? fun i => by
    rw [List.getElem?_set]
    split
    · subst_vars; simp [h1]
    · rfl

noncomputable abbrev lexO (tx : List Nat) (p : Nat) : AO := .inst 8 [.str tx, .int 53, .int (p : Nat), .bool true]

theorem l_skip {cf : CF} {n lx : Nat} {tx r : List Nat} (htx : tx.length ≤ 10000) (hs : Stops r) {g : List Nat} {k : Nat} (hg : Gap g k) :
    ∀ {p : Nat} {x y : AV} {H : AH}, H[lx]? = some (lexO tx p) → tx.drop p = g ++ r → ∀ m, ∃ a ls', loopW (evT cf n w15_1t) (evS cf n w15_1b) (m + k + 1) [.ref lx, x, y] H = some (a, ls', H.set lx (lexO tx (p + g.length))) ∧ (a = .nxt ∨ a = .ret .non) := by
  induction hg with
  | nil =>
    intro p x y H hH hd m
    rw [show H.set lx (lexO tx (p + ([] : List Nat).length)) = H from set_same hH]
    rw [List.nil_append] at hd
    cases r with
    | nil =>
      have hle := at_end hd
      have hf : decide ((p : Int) < (tx.length : Int)) = false := by simp; lia
      exact ⟨.nxt, _, w_end (by exact eqv (t_cmp (r_attr (r_loc rfl rfl) (a_r hH rfl)) (r_bi (r_cons (r_attr (r_loc rfl rfl) (a_r hH rfl)) q_nil) (b_lenS htx)) rfl) hf rfl), .inl rfl⟩
    | cons c r =>
      have hle := at_lt hd
      have hc := at_get hd
      have hf : decide ((p : Int) < (tx.length : Int)) = true := by simp; lia
      have h59 : ([c] = [59]) = False := by simp [hs.1]
      have hb := hs.2
      exact ⟨.ret .non, _, w_ret (by exact eqv (t_cmp (r_attr (r_loc rfl rfl) (a_r hH rfl)) (r_bi (r_cons (r_attr (r_loc rfl rfl) (a_r hH rfl)) q_nil) (b_lenS htx)) rfl) hf rfl) (by exact x_asg (r_sub (r_attr (r_loc rfl rfl) (a_r hH rfl)) (r_attr (r_loc rfl rfl) (a_r hH rfl)) (u_s hc ⟨(by lia), (by lia)⟩)) rfl (s_ite (t_cmp (r_loc rfl rfl) q_lit rfl) (i_f (decide_eq_false (by lia)) (k_any (s_ite (t_cmp (r_loc rfl rfl) q_glb rfl) (i_f hb (k_any (x_ret q_lit) kr_r))) kr_r)))), .inr rfl⟩
  | @blank c g k hb hg ih =>
    intro p x y H hH hd m
    have hle := at_lt hd
    have hc := at_get hd
    have hf : decide ((p : Int) < (tx.length : Int)) = true := by simp; lia
    have h59 : ([c] = [59]) = False := by
      simp only [List.cons.injEq, and_true, eq_iff_iff, iff_false]; rintro rfl; exact absurd hb (by decide)
    have hp1 : ((p : Int) + 1) = ((p + 1 : Nat) : Int) := by lia
    obtain ⟨a, ls', e, q⟩ := @ih (p + 1) (.str [c]) y (H.set lx (lexO tx (p + 1))) (by exact g_self hH) (at_next hd) m
    refine ⟨a, ls', ?_, q⟩
    rw [List.set_set] at e
    rw [show m + (k + 1) + 1 = (m + k + 1) + 1 by lia, show p + (c :: g).length = p + 1 + g.length by simp; lia]
    exact w_turn (by exact eqv (t_cmp (r_attr (r_loc rfl rfl) (a_r hH rfl)) (r_bi (r_cons (r_attr (r_loc rfl rfl) (a_r hH rfl)) q_nil) (b_lenS htx)) rfl) hf rfl) (by exact eqs (x_asg (r_sub (r_attr (r_loc rfl rfl) (a_r hH rfl)) (r_attr (r_loc rfl rfl) (a_r hH rfl)) (u_s hc ⟨(by lia), (by lia)⟩)) rfl (s_ite (t_cmp (r_loc rfl rfl) q_lit rfl) (i_f (decide_eq_false (by lia)) (k_any (s_ite (t_cmp (r_loc rfl rfl) q_glb rfl) (i_t hb (k_any (s_asgA (r_bin (r_attr (r_loc rfl rfl) (a_r hH rfl)) q_lit (p_ad hp1)) (r_loc rfl rfl) (sa_r hH rfl rfl rfl) q_snil) (kr_n q_snil)))) (kr_n q_snil))))) rfl rfl rfl) e
  | @rem g k hg ih =>
    intro p x y H hH hd m
    have hle := at_lt hd
    have hc := at_get hd
    have hf : decide ((p : Int) < (tx.length : Int)) = true := by simp; lia
    have hfr := find_rem hd
    have hm : methV H .find (.str tx) [.str [10], .int (p : Nat)] = some (.int ((p + 4 : Nat) : Int), H) := by rw [f_find3, hfr]
    have hneg : decide (((p + 4 : Nat) : Int) < 0) = false := by simp; lia
    obtain ⟨a, ls', e, q⟩ := @ih (p + 4) (.str [59]) (.int ((p + 4 : Nat) : Int)) (H.set lx (lexO tx (p + 4))) (by exact g_self hH) (at_step (g := [59, 32, 40, 120]) hd) m
    refine ⟨a, ls', ?_, q⟩
    rw [List.set_set] at e
    rw [show m + (k + 1) + 1 = (m + k + 1) + 1 by lia, show p + (59 :: 32 :: 40 :: 120 :: 10 :: g).length = p + 4 + (10 :: g).length by simp; lia]
    exact w_turn (by exact eqv (t_cmp (r_attr (r_loc rfl rfl) (a_r hH rfl)) (r_bi (r_cons (r_attr (r_loc rfl rfl) (a_r hH rfl)) q_nil) (b_lenS htx)) rfl) hf rfl) (by exact eqs (x_asg (r_sub (r_attr (r_loc rfl rfl) (a_r hH rfl)) (r_attr (r_loc rfl rfl) (a_r hH rfl)) (u_s hc ⟨(by lia), (by lia)⟩)) rfl (s_ite (t_cmp (r_loc rfl rfl) q_lit rfl) (i_t rfl (k_any (x_asg (r_meth (r_attr (r_loc rfl rfl) (a_r hH rfl)) rfl (r_cons q_lit (r_cons (r_attr (r_loc rfl rfl) (a_r hH rfl)) q_nil)) hm) rfl (s_asgA (r_ifx (t_cmp (r_loc rfl rfl) q_lit rfl) (i_f hneg (r_loc rfl rfl))) (r_loc rfl rfl) (sa_r hH rfl rfl rfl) q_snil)) (kr_n q_snil))))) rfl rfl rfl) e

theorem c_skip {n lx m k p : Nat} {tx g r : List Nat} {H : AH} (htx : tx.length ≤ 10000) (hs : Stops r) (hg : Gap g k) (hH : H[lx]? = some (lexO tx p)) (hd : tx.drop p = g ++ r) (hn : n = m + k + 1) :
    cP (n + 1) 15 [.ref lx] H = some (.non, H.set lx (lexO tx (p + g.length))) := by
  rw [callF_code (fn := fn15) (ls := [.ref lx, .unb, .unb]) rfl rfl rfl]
  obtain ⟨a, ls', e, q⟩ := @l_skip (cP n) n lx tx r htx hs g k hg p .unb .unb H hH hd m
  rw [← hn] at e; clear hn
  rcases q with rfl | rfl
  · exact eqn (s_whl e (kr_n q_snil)) rfl rfl
  · exact eqr (s_whl e kr_r) rfl rfl
end
section
noncomputable abbrev delims : List Nat := [32, 10, 9, 13, 12, 40, 41, 34, 59]
noncomputable abbrev reserved : List Nat := [91, 93, 123, 125, 124]
noncomputable def EndsW : List Nat → Prop
  | [] => True
  | c :: _ => delims.contains c = true

theorem l_wend {cf : CF} {n lx p0 : Nat} {st : Int} {tx r : List Nat} {H : AH} (htx : tx.length ≤ 10000) (hr : EndsW r) (hH : H[lx]? = some (lexO tx p0)) :
    ∀ (w : List Nat) {p : Nat}, tx.drop p = w ++ r → (∀ c ∈ w, delims.contains c = false ∧ reserved.contains c = false) → ∀ m, loopW (evT cf n w18_1t) (evS cf n w18_1b) (m + w.length + 1) [.ref lx, .int st, .int (p : Nat)] H = some (.nxt, [.ref lx, .int st, .int ((p + w.length : Nat) : Int)], H) := by
  intro w
  induction w with
  | nil =>
    intro p hd hw m
    rw [List.nil_append] at hd
    cases r with
    | nil =>
      have hle := at_end hd
      have hf : decide ((p : Int) < (tx.length : Int)) = false := by simp; lia
      exact w_end (by exact eqv (t_and (t_cmp (r_loc rfl rfl) (r_bi (r_cons (r_attr (r_loc rfl rfl) (a_r hH rfl)) q_nil) (b_lenS htx)) rfl) (i_f hf rfl)) rfl rfl)
    | cons c r =>
      have hle := at_lt hd
      have hc := at_get hd
      have hf : decide ((p : Int) < (tx.length : Int)) = true := by simp; lia
      have hb := hr
      simp only [EndsW] at hb
      exact w_end (by exact eqv (t_and (t_cmp (r_loc rfl rfl) (r_bi (r_cons (r_attr (r_loc rfl rfl) (a_r hH rfl)) q_nil) (b_lenS htx)) rfl) (i_t hf (t_and (t_cmp (r_sub (r_attr (r_loc rfl rfl) (a_r hH rfl)) (r_loc rfl rfl) (u_s hc ⟨(by lia), (by lia)⟩)) q_glb rfl) (i_f (not_t hb) rfl)))) rfl rfl)
  | cons c w ih =>
    intro p hd hw m
    have hle := at_lt hd
    have hc := at_get hd
    have hf : decide ((p : Int) < (tx.length : Int)) = true := by simp; lia
    have hb := (hw c (List.mem_cons_self ..)).1
    have hb2 := (hw c (List.mem_cons_self ..)).2
    have hp1 : ((p : Int) + 1) = ((p + 1 : Nat) : Int) := by lia
    have e := @ih (p + 1) (at_next hd) (fun c h => hw c (List.mem_cons_of_mem _ h)) m
    rw [show m + (c :: w).length + 1 = (m + w.length + 1) + 1 by simp; lia, show p + (c :: w).length = p + 1 + w.length by simp; lia]
    clear ih
    exact w_turn (by exact eqv (t_and (t_cmp (r_loc rfl rfl) (r_bi (r_cons (r_attr (r_loc rfl rfl) (a_r hH rfl)) q_nil) (b_lenS htx)) rfl) (i_t hf (t_and (t_cmp (r_sub (r_attr (r_loc rfl rfl) (a_r hH rfl)) (r_loc rfl rfl) (u_s hc ⟨(by lia), (by lia)⟩)) q_glb rfl) (i_t (not_f hb) q_kt)))) rfl rfl) (by exact eqs (s_ite (t_cmp (r_sub (r_attr (r_loc rfl rfl) (a_r hH rfl)) (r_loc rfl rfl) (u_s hc ⟨(by lia), (by lia)⟩)) q_glb rfl) (i_f hb2 (k_nil (x_asg (r_bin (r_loc rfl rfl) q_lit (p_ad hp1)) rfl q_snil)))) rfl rfl rfl) e

theorem c_wend {n lx p0 p m : Nat} {tx w r : List Nat} {H : AH} (htx : tx.length ≤ 10000) (hr : EndsW r) (hH : H[lx]? = some (lexO tx p0)) (hd : tx.drop p = w ++ r) (hw : ∀ c ∈ w, delims.contains c = false ∧ reserved.contains c = false) (hn : n = m + w.length + 1) :
    cP (n + 1) 18 [.ref lx, .int (p : Nat)] H = some (.int ((p + w.length : Nat) : Int), H) := by
  rw [callF_code (fn := fn18) (ls := [.ref lx, .int (p : Nat), .unb]) rfl rfl rfl]
  have e := @l_wend (cP n) n lx p0 (p : Nat) tx r H htx hr hH w p hd hw m
  rw [← hn] at e; clear hn
  exact eqr (x_asg (r_loc rfl rfl) rfl (s_whl e (kr_n (x_ret (r_loc rfl rfl))))) rfl rfl

noncomputable abbrev capsL : List Nat := [65, 66, 67, 68, 69, 70, 71, 72, 73, 74, 75, 76, 77, 78, 79, 80, 81, 82, 83, 84, 85, 86, 87, 88, 89, 90]
noncomputable abbrev smallL : List Nat := [97, 98, 99, 100, 101, 102, 103, 104, 105, 106, 107, 108, 109, 110, 111, 112, 113, 114, 115, 116, 117, 118, 119, 120, 121, 122]
inductive Fold1 : Nat → Nat → Prop
  | own {c : Nat} (h : Txt.find (strS capsL) (strS [c]) = -1) : Fold1 c c
  | cap {c d k : Nat} (h : Txt.find (strS capsL) (strS [c]) = (k : Nat)) (hk : k < 26) (hd : smallL[k]? = some d) : Fold1 c d
inductive Folds : List Nat → List Nat → Prop
  | nil : Folds [] []
  | cons {c d : Nat} {w v : List Nat} (h : Fold1 c d) (t : Folds w v) : Folds (c :: w) (d :: v)

theorem l_fold {cf : CF} {n a : Nat} {tv : AV} : ∀ {w v : List Nat}, Folds w v → ∀ (pre acc : List Nat) {x y : AV} {H : AH} (m : Nat), H[a]? = some (.list (acc.map fun c => .str [c])) → acc.length + w.length ≤ 100 →
    ∃ ls', loopF (.items ((pre ++ w).map fun c => .str [c])) (.one 2) (evS cf n f23_1b) (m + w.length + 1) pre.length [tv, .ref a, x, y] H = some (.nxt, ls', H.set a (.list ((acc ++ v).map fun c => .str [c]))) ∧ ls'[1]? = some (.ref a) := by
  intro w v hf
  induction hf with
  | nil =>
    intro pre acc x y H m hH hl
    simp only [List.append_nil]
    rw [show H.set a (AO.list (acc.map fun c => AV.str [c])) = H from set_same hH]
    exact ⟨_, f_end (by simp [nextOf]), rfl⟩
  | @cons c d w v h1 ht ih =>
    intro pre acc x y H m hH hl
    have hacc : (acc.map fun c => AV.str [c]).length ≤ 10000 := by simp at *; lia
    have hx : nextOf H pre.length (.items ((pre ++ c :: w).map fun c => .str [c])) = some (some (.str [c])) := by simp [nextOf]
    have hmap : (acc.map fun c => AV.str [c]) ++ [.str [d]] = ((acc ++ [d]).map fun c => AV.str [c]) := by simp
    cases h1 with
    | own hfd =>
      have hm : methV H .find (.str capsL) [.str [c]] = some (.int (-1), H) := by rw [f_find, hfd]
      have hneg : decide ((-1 : Int) < 0) = true := by decide
      obtain ⟨ls', e, q⟩ := ih (pre ++ [c]) (acc ++ [c]) (x := .str [c]) (y := .int (-1)) (H := H.set a (.list ((acc ++ [c]).map fun c => .str [c]))) m (by exact g_self hH) (by simp at *; lia)
      refine ⟨ls', ?_, q⟩
      simp only [List.append_assoc, List.singleton_append, List.set_set, List.length_append, List.length_singleton] at e
      rw [show m + (c :: w).length + 1 = (m + w.length + 1) + 1 by simp; lia]
      refine f_turn hx (by exact rfl) ?_ e
      clear ih e
      exact eqs (x_asg (r_meth q_glb rfl (r_cons (r_loc rfl rfl) q_nil) hm) rfl (s_expr (r_meth (r_loc rfl rfl) (rv_ap hH) (r_cons (r_ifx (t_cmp (r_loc rfl rfl) q_lit rfl) (i_t hneg (r_loc rfl rfl))) q_nil) (ap_r hH hacc hmap rfl)) q_snil)) rfl rfl rfl
    | cap hfd hk hdd =>
      rename_i k
      have hm : methV H .find (.str capsL) [.str [c]] = some (.int (k : Nat), H) := by rw [f_find, hfd]
      have hneg : decide (((k : Nat) : Int) < 0) = false := by simp
      obtain ⟨ls', e, q⟩ := ih (pre ++ [c]) (acc ++ [d]) (x := .str [c]) (y := .int (k : Nat)) (H := H.set a (.list ((acc ++ [d]).map fun c => .str [c]))) m (by exact g_self hH) (by simp at *; lia)
      refine ⟨ls', ?_, q⟩
      simp only [List.append_assoc, List.singleton_append, List.set_set, List.length_append, List.length_singleton] at e
      rw [show m + (c :: w).length + 1 = (m + w.length + 1) + 1 by simp; lia]
      refine f_turn hx (by exact rfl) ?_ e
      clear ih e
      exact eqs (x_asg (r_meth q_glb rfl (r_cons (r_loc rfl rfl) q_nil) hm) rfl (s_expr (r_meth (r_loc rfl rfl) (rv_ap hH) (r_cons (r_ifx (t_cmp (r_loc rfl rfl) q_lit rfl) (i_f hneg (r_sub q_glb (r_loc rfl rfl) (u_s hdd ⟨(by lia), (by lia)⟩)))) q_nil) (ap_r hH hacc hmap rfl)) q_snil)) rfl rfl rfl

theorem strs_map : ∀ w : List Nat, strs? (w.map fun c => AV.str [c]) = some (w.map fun c => [c])
  | [] => rfl
  | c :: w => (bs (strs_map w) rfl : (strs? (w.map fun c => AV.str [c])).bind (fun l => some ([c] :: l)) = _)
theorem flat_map : ∀ w : List Nat, (w.map fun c => [c]).flatten = w
  | [] => rfl
  | c :: w => by simp [flat_map w]
theorem j_join {H : AH} {a : Nat} {w : List Nat} (h : H[a]? = some (.list (w.map fun c => .str [c]))) (hl : w.length ≤ 100) : methV H .join (.str []) [.ref a] = some (.str w, H) := by
  have h1 : w.length ≤ 100000 := by lia
  have h2 : w.length ≤ 10000 := by lia
  have e : listAt H a = some (w.map fun c => .str [c]) := bs h rfl
  show (listAt H a).bind (fun vs => (strs? vs).bind _) = _
  refine (bs e (bs (strs_map w) ((if_pos (Bool.and_eq_true_iff.mpr ⟨decide_eq_true ?_, decide_eq_true ?_⟩)).trans ?_)))
  · rw [flat_map]; exact h1
  · rw [List.length_map]; exact h2
  · rw [flat_map]
theorem c_folded {n m : Nat} {w v : List Nat} {H : AH} (hf : Folds w v) (ha : w.all (· < 128) = true) (hl : w.length ≤ 100) (hv : v.length ≤ 100) (hn : n = m + w.length + 1) :
    cP (n + 1) 23 [.str w] H = some (.str v, H ++ [.list (v.map fun c => .str [c])]) := by
  rw [callF_code (fn := fn23) (ls := [.str w, .unb, .unb, .unb]) rfl rfl rfl]
  have hg : (H ++ [AO.list []])[H.length]? = some (.list (([] : List Nat).map fun c => .str [c])) := by simp
  obtain ⟨ls', e, q⟩ := @l_fold (cP n) n H.length (.str w) w v hf [] [] .unb .unb (H ++ [.list []]) m hg (by simpa using hl)
  have hs : srcOf (.str w) = some (.items (w.map fun c => .str [c])) := by simp only [srcOf, ha, if_true]
  rw [← hn] at e; clear hn
  simp only [List.nil_append, List.length_nil] at e
  have hset : (H ++ [AO.list []]).set H.length (.list (v.map fun c => .str [c])) = H ++ [.list (v.map fun c => .str [c])] := by simp [List.set_append]
  rw [hset] at e
  have hj : methV (H ++ [.list (v.map fun c => .str [c])]) .join (.str []) [.ref H.length] = some (.str v, H ++ [.list (v.map fun c => .str [c])]) := j_join (by simp) hv
  exact eqr (x_asg (r_lstT q_nil) rfl (s_for (r_loc rfl rfl) hs e (kr_n (x_ret (r_meth q_lit rfl (r_cons (r_loc q rfl) q_nil) hj))))) rfl rfl
end
section
noncomputable def foldB (c d : Nat) : Bool := let z := Txt.find (strS capsL) (strS [c]); (z == -1 && c == d) || (decide (0 ≤ z) && decide (z < 26) && smallL[z.toNat]? == some d)
noncomputable def foldsB : List Nat → List Nat → Bool
  | [], [] => true
  | c :: w, d :: v => foldB c d && foldsB w v
  | _, _ => false
theorem fold_of {c d : Nat} (h : foldB c d = true) : Fold1 c d := by
  simp only [foldB, Bool.or_eq_true, Bool.and_eq_true, beq_iff_eq, decide_eq_true_eq] at h
  rcases h with ⟨h1, rfl⟩ | ⟨⟨h1, h2⟩, h3⟩
  · exact .own h1
  · exact .cap (k := (Txt.find (strS capsL) (strS [c])).toNat) (by lia) (by lia) h3
theorem folds_of : ∀ {w v : List Nat}, foldsB w v = true → Folds w v
  | [], [], _ => .nil
  | c :: w, d :: v, h => by
    simp only [foldsB, Bool.and_eq_true] at h
    exact .cons (fold_of h.1) (folds_of h.2)
noncomputable def headB : List Nat → Bool
  | [] => false
  | c :: _ => !([40, 41, 39, 96].contains c) && decide (c ≠ 44) && decide (c ≠ 34) && decide (c ≠ 35) && decide (c ≠ 59) && !blanks.contains c
noncomputable def wordB (w v : List Nat) : Bool :=
  headB w && w.all (fun c => !delims.contains c && !reserved.contains c && decide (c < 128)) && decide (w.length ≤ 10) && decide (v.length ≤ 10) && foldsB w v && decide (w ≠ [46])

theorem s_slice {s : List Nat} {a b : Nat} (hs : s.length ≤ 10000) (ha : a ≤ 10000) (hb : b ≤ 10000) : sliceV (.str s) (.int (a : Nat)) (.int (b : Nat)) = some (.str ((s.take b).drop a)) :=
  have z : ∀ {n : Nat}, n ≤ 10000 → 0 ≤ (n : Int) ∧ (n : Int) ≤ 2 ^ 30 := fun h => ⟨Int.natCast_nonneg _, Int.le_trans (Int.ofNat_le.mpr h) (by decide)⟩
  bs (a := some a) (if_pos (z ha)) (bs (a := some b) (if_pos (z hb)) (if_pos (decide_eq_true hs)))
theorem take_at {tx w r : List Nat} {p : Nat} (h : tx.drop p = w ++ r) : (tx.take (p + w.length)).drop p = w := by
  rw [List.drop_take, show p + w.length - p = w.length by lia, h, List.take_left]
theorem w_at {tx w r : List Nat} {p : Nat} (h : tx.drop p = w ++ r) : w = [] ∨ p + w.length ≤ tx.length := by
  cases w with
  | nil => exact .inl rfl
  | cons c w =>
    have := congrArg List.length h
    simp at this
    right; simp; lia

theorem c_found' {n lx p e : Nat} {H : AH} {w v : AV} {tx : List Nat} (h : H[lx]? = some (lexO tx p)) (hw : isU w = false) (hv : isU v = false) :
    cP (n + 2) 17 [.ref lx, w, v, .int (e : Nat)] H = some (.rcd 6 [w, v, .int (p : Nat), .int (e : Nat)], H.set lx (lexO tx e)) := c_found (c := .non) hw hv h

theorem c_word_sym {lx p : Nat} {tx w v r : List Nat} {H : AH} (htx : tx.length ≤ 10000) (hr : EndsW r) (hH : H[lx]? = some (lexO tx p)) (hd : tx.drop p = w ++ r) (hw : wordB w v = true)
    (hid : ∀ H, cP 95 26 [.str v] H = some (.bool true, H)) :
    ∃ X, cP 96 19 [.ref lx] H = some (.rcd 6 [.str [115, 121, 109, 98, 111, 108], .str v, .int (p : Nat), .int ((p + w.length : Nat) : Int)], H.set lx (lexO tx (p + w.length)) ++ X) := by
  simp only [wordB, Bool.and_eq_true, List.all_eq_true, Bool.not_eq_true', decide_eq_true_eq] at hw
  obtain ⟨⟨⟨⟨⟨h0, h1⟩, h2⟩, h3⟩, h4⟩, h5⟩ := hw
  have hne : w ≠ [] := by rintro rfl; simp [headB] at h0
  have hpl := (w_at hd).resolve_left hne
  have hlt : lx < H.length := (List.getElem?_eq_some_iff.mp hH).1
  have e1 := c_wend (n := 94) (m := 93 - w.length) htx hr hH hd (fun c h => (h1 c h).1) (by lia)
  have e2 := s_slice (s := tx) (a := p) (b := p + w.length) htx (by lia) (by lia)
  rw [take_at hd] at e2
  have h5' : decide (w = [46]) = false := by simp [h5]
  have e3 := c_folded (n := 94) (m := 93 - w.length) (H := H) (folds_of h4) (by simp only [List.all_eq_true, decide_eq_true_eq]; exact fun c h => (h1 c h).2) (by lia) (by lia) (by lia)
  have e4 := hid (H ++ [.list (v.map fun c => .str [c])])
  have e5 := c_found' (n := 93) (e := p + w.length) (H := H ++ [.list (v.map fun c => .str [c])]) (w := .str [115, 121, 109, 98, 111, 108]) (v := .str v) (by rw [List.getElem?_append_left hlt]; exact hH) rfl rfl
  refine ⟨[.list (v.map fun c => .str [c])], ?_⟩
  rw [callF_code (fn := fn19) (ls := [.ref lx, .unb, .unb, .unb, .unb]) rfl rfl rfl]
  rw [← List.set_append_left _ _ hlt]
  clear hid h4 h1 hd h0
  exact eqr (x_asg (r_attr (r_loc rfl rfl) (a_r hH rfl)) rfl (x_asg (r_mown (r_loc rfl rfl) (q_r hH) (r_cons (r_loc rfl rfl) q_nil) e1) rfl (x_asg (r_slice (r_attr (r_loc rfl rfl) (a_r hH rfl)) (r_loc rfl rfl) (r_loc rfl rfl) e2) rfl (s_ite (t_cmp (r_loc rfl rfl) q_lit rfl) (i_f h5' (k_nil (x_asg (r_call (r_cons (r_loc rfl rfl) q_nil) e3) rfl (s_ite (t_val (r_call (r_cons (r_loc rfl rfl) q_nil) e4)) (i_t rfl (k_any (x_ret (r_mown (r_loc rfl rfl) (q_r (g_app hH)) (r_cons q_lit (r_cons (r_ifx (t_val (r_attr (r_loc rfl rfl) (a_r (g_app hH) rfl))) (i_t rfl (r_loc rfl rfl))) (r_cons (r_loc rfl rfl) q_nil))) e5)) kr_r)))))))))) rfl rfl

theorem c_number_in {lx p : Nat} {tx w : List Nat} {H : AH} {i st : Int} (hH : H[lx]? = some (lexO tx p)) (hnum : cP 94 34 [.int 53, .str w, .int 10] H = some (.int i, H)) :
    cP 95 20 [.ref lx, .str w, .int st] H = some (.int i, H) := by
  rw [callF_code (fn := fn20) (ls := [.ref lx, .str w, .int st, .unb]) rfl rfl rfl]
  exact eqr (x_asg (r_call (r_cons (r_attr (r_loc rfl rfl) (a_r hH rfl)) (r_cons (r_loc rfl rfl) (r_cons q_lit q_nil))) hnum) rfl (s_ite (t_cmp (r_loc rfl rfl) q_lit rfl) (i_f rfl (k_nil (x_ret (r_loc rfl rfl)))))) rfl rfl

theorem c_word_num {lx p : Nat} {tx w v r : List Nat} {H : AH} {i : Int} (htx : tx.length ≤ 10000) (hr : EndsW r) (hH : H[lx]? = some (lexO tx p)) (hd : tx.drop p = w ++ r) (hw : wordB w v = true)
    (hid : ∀ H, cP 95 26 [.str v] H = some (.bool false, H)) (hlike : ∀ H, cP 95 27 [.str w] H = some (.bool true, H)) (hnum : ∀ H, cP 94 34 [.int 53, .str w, .int 10] H = some (.int i, H)) :
    ∃ X, cP 96 19 [.ref lx] H = some (.rcd 6 [.str [110, 117, 109, 98, 101, 114], .int i, .int (p : Nat), .int ((p + w.length : Nat) : Int)], H.set lx (lexO tx (p + w.length)) ++ X) := by
  simp only [wordB, Bool.and_eq_true, List.all_eq_true, Bool.not_eq_true', decide_eq_true_eq] at hw
  obtain ⟨⟨⟨⟨⟨h0, h1⟩, h2⟩, h3⟩, h4⟩, h5⟩ := hw
  have hne : w ≠ [] := by rintro rfl; simp [headB] at h0
  have hpl := (w_at hd).resolve_left hne
  have hlt : lx < H.length := (List.getElem?_eq_some_iff.mp hH).1
  have e1 := c_wend (n := 94) (m := 93 - w.length) htx hr hH hd (fun c h => (h1 c h).1) (by lia)
  have e2 := s_slice (s := tx) (a := p) (b := p + w.length) htx (by lia) (by lia)
  rw [take_at hd] at e2
  have h5' : decide (w = [46]) = false := by simp [h5]
  have e3 := c_folded (n := 94) (m := 93 - w.length) (H := H) (folds_of h4) (by simp only [List.all_eq_true, decide_eq_true_eq]; exact fun c h => (h1 c h).2) (by lia) (by lia) (by lia)
  have e4 := hid (H ++ [.list (v.map fun c => .str [c])])
  have e6 := hlike (H ++ [.list (v.map fun c => .str [c])])
  have hH' : (H ++ [.list (v.map fun c => .str [c])])[lx]? = some (lexO tx p) := by rw [List.getElem?_append_left hlt]; exact hH
  have e7 := c_number_in (st := (p : Nat)) hH' (hnum _)
  have e5 := c_found' (n := 93) (e := p + w.length) (H := H ++ [.list (v.map fun c => .str [c])]) (w := .str [110, 117, 109, 98, 101, 114]) (v := .int i) hH' rfl rfl
  refine ⟨[.list (v.map fun c => .str [c])], ?_⟩
  rw [callF_code (fn := fn19) (ls := [.ref lx, .unb, .unb, .unb, .unb]) rfl rfl rfl]
  rw [← List.set_append_left _ _ hlt]
  clear hid h4 h1 hd h0 hnum hlike
  exact eqr (x_asg (r_attr (r_loc rfl rfl) (a_r hH rfl)) rfl (x_asg (r_mown (r_loc rfl rfl) (q_r hH) (r_cons (r_loc rfl rfl) q_nil) e1) rfl (x_asg (r_slice (r_attr (r_loc rfl rfl) (a_r hH rfl)) (r_loc rfl rfl) (r_loc rfl rfl) e2) rfl (s_ite (t_cmp (r_loc rfl rfl) q_lit rfl) (i_f h5' (k_nil (x_asg (r_call (r_cons (r_loc rfl rfl) q_nil) e3) rfl (s_ite (t_val (r_call (r_cons (r_loc rfl rfl) q_nil) e4)) (i_f rfl (k_nil (s_ite (t_not (t_val (r_call (r_cons (r_loc rfl rfl) q_nil) e6))) (i_f rfl (k_nil (x_ret (r_mown (r_loc rfl rfl) (q_r hH') (r_cons q_lit (r_cons (r_mown (r_loc rfl rfl) (q_r hH') (r_cons (r_loc rfl rfl) (r_cons (r_loc rfl rfl) q_nil)) e7) (r_cons (r_loc rfl rfl) q_nil))) e5))))))))))))))) rfl rfl

theorem c_word_dot {lx p : Nat} {tx r : List Nat} {H : AH} (htx : tx.length ≤ 10000) (hr : EndsW r) (hH : H[lx]? = some (lexO tx p)) (hd : tx.drop p = 46 :: r) :
    ∃ X, cP 96 19 [.ref lx] H = some (.rcd 6 [.str [46], .non, .int (p : Nat), .int ((p + 1 : Nat) : Int)], H.set lx (lexO tx (p + 1)) ++ X) := by
  have hlt : lx < H.length := (List.getElem?_eq_some_iff.mp hH).1
  have hpl := at_lt hd
  have e1 := c_wend (n := 94) (w := [46]) (m := 92) htx hr hH hd (by decide) rfl
  simp only [List.length_singleton] at e1
  have e2 := s_slice (s := tx) (a := p) (b := p + 1) htx (by lia) (by lia)
  rw [show (tx.take (p + 1)).drop p = [46] from take_at (w := [46]) hd] at e2
  have e5 := c_found' (n := 93) (e := p + 1) (H := H) (w := .str [46]) (v := .non) hH rfl rfl
  refine ⟨[], ?_⟩
  rw [callF_code (fn := fn19) (ls := [.ref lx, .unb, .unb, .unb, .unb]) rfl rfl rfl]
  clear hd
  rw [List.append_nil]
  exact eqr (x_asg (r_attr (r_loc rfl rfl) (a_r hH rfl)) rfl (x_asg (r_mown (r_loc rfl rfl) (q_r hH) (r_cons (r_loc rfl rfl) q_nil) e1) rfl (x_asg (r_slice (r_attr (r_loc rfl rfl) (a_r hH rfl)) (r_loc rfl rfl) (r_loc rfl rfl) e2) rfl (s_ite (t_cmp (r_loc rfl rfl) q_lit rfl) (i_t rfl (k_any (x_ret (r_mown (r_loc rfl rfl) (q_r hH) (r_cons q_lit (r_cons q_lit (r_cons (r_loc rfl rfl) q_nil))) e5)) kr_r)))))) rfl rfl

theorem c_sharp {lx p : Nat} {tx r : List Nat} {H : AH} (htx : tx.length ≤ 10000) (hH : H[lx]? = some (lexO tx p)) (hd : tx.drop p = 35 :: 40 :: r) :
    ∃ X, cP 96 21 [.ref lx] H = some (.rcd 6 [.str [35, 40], .non, .int (p : Nat), .int ((p + 2 : Nat) : Int)], H.set lx (lexO tx (p + 2)) ++ X) := by
  have hlt : lx < H.length := (List.getElem?_eq_some_iff.mp hH).1
  have hpl := at_lt (at_next hd)
  have hp1 : ((p : Int) + 1) = ((p + 1 : Nat) : Int) := by lia
  have hp2 : ((p : Int) + 2) = ((p + 2 : Nat) : Int) := by lia
  have e2 := s_slice (s := tx) (a := p + 1) (b := p + 2) htx (by lia) (by lia)
  rw [show (tx.take (p + 2)).drop (p + 1) = [40] from take_at (w := [40]) (at_next hd)] at e2
  have e3 := c_folded (n := 94) (m := 92) (H := H) (w := [40]) (v := [40]) (folds_of (by decide +kernel)) (by decide) (by decide) (by decide) rfl
  have e5 := c_found' (n := 93) (e := p + 2) (H := H ++ [.list ([40].map fun c => .str [c])]) (w := .str [35, 40]) (v := .non) (by rw [List.getElem?_append_left hlt]; exact hH) rfl rfl
  refine ⟨[.list ([40].map fun c => .str [c])], ?_⟩
  rw [callF_code (fn := fn21) (ls := [.ref lx, .unb, .unb, .unb]) rfl rfl rfl]
  rw [← List.set_append_left _ _ hlt]
  clear hd
  exact eqr (x_asg (r_attr (r_loc rfl rfl) (a_r hH rfl)) rfl (x_asg (r_call (r_cons (r_slice (r_attr (r_loc rfl rfl) (a_r hH rfl)) (r_bin (r_loc rfl rfl) q_lit (p_ad hp1)) (r_bin (r_loc rfl rfl) q_lit (p_ad hp2)) e2) q_nil) e3) rfl (s_ite (t_cmp (r_loc rfl rfl) q_lit rfl) (i_t rfl (k_any (x_ret (r_mown (r_loc rfl rfl) (q_r (g_app hH)) (r_cons q_lit (r_cons q_lit (r_cons (r_bin (r_loc rfl rfl) q_lit (p_ad hp2)) q_nil))) e5)) kr_r))))) rfl rfl

theorem c_make_text (H : AH) : cP 95 32 [.str [97, 32, 98]] H = some (.rcd 4 [.lst [.int 97, .int 32, .int 98], .non], H) := by kernel_rfl

theorem str_turn {cf : CF} {n lx a p p0 c : Nat} {st : Int} {tx r acc : List Nat} {z : AV} {H : AH} (htx : tx.length ≤ 10000) (hH : H[lx]? = some (lexO tx p0)) (hd : tx.drop p = c :: r) (h1 : c ≠ 34) (h2 : c ≠ 92) (ha : H[a]? = some (.list (acc.map fun c => .str [c]))) (hacc : acc.length ≤ 100) :
    evS cf n w22_1b [.ref lx, .int st, .ref a, .int (p : Nat), z] H = some (.nxt, [.ref lx, .int st, .ref a, .int ((p + 1 : Nat) : Int), .str [c]], H.set a (.list ((acc ++ [c]).map fun c => .str [c]))) := by
  have hle := at_lt hd
  have hc := at_get hd
  have hf : decide ((tx.length : Int) ≤ (p : Int)) = false := by simp; lia
  have h34 : ([c] = [34]) = False := by simp [h1]
  have h92 : ([c] = [92]) = False := by simp [h2]
  have hacc' : (acc.map fun c => AV.str [c]).length ≤ 10000 := by simp; lia
  have hmap : (acc.map fun c => AV.str [c]) ++ [.str [c]] = ((acc ++ [c]).map fun c => AV.str [c]) := by simp
  have hp1 : ((p : Int) + 1) = ((p + 1 : Nat) : Int) := by lia
  exact eqs (s_ite (t_cmp (r_loc rfl rfl) (r_bi (r_cons (r_attr (r_loc rfl rfl) (a_r hH rfl)) q_nil) (b_lenS htx)) rfl) (i_f hf (k_nil (x_asg (r_sub (r_attr (r_loc rfl rfl) (a_r hH rfl)) (r_loc rfl rfl) (u_s hc ⟨(by lia), (by lia)⟩)) rfl (s_ite (t_cmp (r_loc rfl rfl) q_lit rfl) (i_f (decide_eq_false (by lia)) (k_nil (s_ite (t_cmp (r_loc rfl rfl) q_lit rfl) (i_f (decide_eq_false (by lia)) (k_nil (s_expr (r_meth (r_loc rfl rfl) (rv_ap ha) (r_cons (r_loc rfl rfl) q_nil) (ap_r ha hacc' hmap rfl)) (x_asg (r_bin (r_loc rfl rfl) q_lit (p_ad hp1)) rfl q_snil)))))))))))) rfl rfl rfl

theorem c_string {lx p : Nat} {tx r : List Nat} {H : AH} (htx : tx.length ≤ 10000) (hH : H[lx]? = some (lexO tx p)) (hd : tx.drop p = [34, 97, 32, 98, 34] ++ r) :
    ∃ X, cP 96 22 [.ref lx] H = some (.rcd 6 [.str [115, 116, 114, 105, 110, 103], .rcd 4 [.lst [.int 97, .int 32, .int 98], .non], .int (p : Nat), .int ((p + 5 : Nat) : Int)], H.set lx (lexO tx (p + 5)) ++ X) := by
  have hlt : lx < H.length := (List.getElem?_eq_some_iff.mp hH).1
  have d1 := at_next hd; have d2 := at_next d1; have d3 := at_next d2; have d4 := at_next d3
  have g0 : ∀ acc : List Nat, (H ++ [AO.list (acc.map fun c => .str [c])])[lx]? = some (lexO tx p) := fun acc => by rw [List.getElem?_append_left hlt]; exact hH
  have ga : ∀ acc : List Nat, (H ++ [AO.list (acc.map fun c => AV.str [c])])[H.length]? = some (AO.list (acc.map fun c => .str [c])) := fun acc => by simp
  have s0 : ∀ acc acc' : List Nat, (H ++ [AO.list (acc.map fun c => AV.str [c])]).set H.length (AO.list (acc'.map fun c => .str [c])) = H ++ [AO.list (acc'.map fun c => AV.str [c])] := fun acc acc' => by simp [List.set_append]
  have t1 := @str_turn (cP 95) 95 lx H.length (p + 1) p 97 (p : Nat) tx _ [] .unb (H ++ [AO.list (([] : List Nat).map fun c => .str [c])]) htx (g0 _) d1 (by decide) (by decide) (ga _) (by decide)
  have t2 := @str_turn (cP 95) 95 lx H.length (p + 2) p 32 (p : Nat) tx _ [97] (.str [97]) (H ++ [AO.list (([97] : List Nat).map fun c => .str [c])]) htx (g0 _) d2 (by decide) (by decide) (ga _) (by decide)
  have t3 := @str_turn (cP 95) 95 lx H.length (p + 3) p 98 (p : Nat) tx _ [97, 32] (.str [32]) (H ++ [AO.list (([97, 32] : List Nat).map fun c => .str [c])]) htx (g0 _) d3 (by decide) (by decide) (ga _) (by decide)
  rw [s0] at t1 t2 t3
  have hle := at_lt d4
  have hc := at_get d4
  have hf : decide ((tx.length : Int) ≤ ((p + 4 : Nat) : Int)) = false := by simp; lia
  have hp1 : ((p : Int) + 1) = ((p + 1 : Nat) : Int) := by lia
  have hp4 : (((p + 4 : Nat) : Int) + 1) = ((p + 5 : Nat) : Int) := by lia
  have hj := j_join (w := [97, 32, 98]) (ga [97, 32, 98]) (by decide)
  have hm := c_make_text (H ++ [AO.list (([97, 32, 98] : List Nat).map fun c => .str [c])])
  have e5 := c_found' (n := 93) (e := p + 5) (H := H ++ [AO.list (([97, 32, 98] : List Nat).map fun c => .str [c])]) (w := .str [115, 116, 114, 105, 110, 103]) (v := .rcd 4 [.lst [.int 97, .int 32, .int 98], .non]) (g0 _) rfl rfl
  have t4 : evS (cP 95) 95 w22_1b [.ref lx, .int (p : Nat), .ref H.length, .int ((p + 4 : Nat) : Int), .str [98]] (H ++ [AO.list (([97, 32, 98] : List Nat).map fun c => .str [c])])
      = some (.ret (.rcd 6 [.str [115, 116, 114, 105, 110, 103], .rcd 4 [.lst [.int 97, .int 32, .int 98], .non], .int (p : Nat), .int ((p + 5 : Nat) : Int)]), [.ref lx, .int (p : Nat), .ref H.length, .int ((p + 4 : Nat) : Int), .str [34]], (H ++ [AO.list (([97, 32, 98] : List Nat).map fun c => .str [c])]).set lx (lexO tx (p + 5))) := by
    have g := g0 [97, 32, 98]
    have ga := ga [97, 32, 98]
    clear t1 t2 t3 s0 g0 d1 d2 d3 d4 hd
    exact eqs (s_ite (t_cmp (r_loc rfl rfl) (r_bi (r_cons (r_attr (r_loc rfl rfl) (a_r g rfl)) q_nil) (b_lenS htx)) rfl) (i_f hf (k_nil (x_asg (r_sub (r_attr (r_loc rfl rfl) (a_r g rfl)) (r_loc rfl rfl) (u_s hc ⟨(by lia), (by lia)⟩)) rfl (s_ite (t_cmp (r_loc rfl rfl) q_lit rfl) (i_t rfl (k_any (x_ret (r_mown (r_loc rfl rfl) (q_r g) (r_cons q_lit (r_cons (r_call (r_cons (r_meth q_lit rfl (r_cons (r_loc rfl rfl) q_nil) hj) q_nil) hm) (r_cons (r_bin (r_loc rfl rfl) q_lit (p_ad hp4)) q_nil))) e5)) kr_r))))))) rfl rfl rfl
  have tt : ∀ ls (H : AH), evT (cP 95) 95 w22_1t ls H = some (true, H) := fun ls H => by exact eqv (t_val q_lit) rfl rfl
  have L : loopW (evT (cP 95) 95 w22_1t) (evS (cP 95) 95 w22_1b) 95 [.ref lx, .int (p : Nat), .ref H.length, .int ((p + 1 : Nat) : Int), .unb] (H ++ [AO.list []]) = _ :=
    w_turn (tt _ _) t1 (w_turn (tt _ _) t2 (w_turn (tt _ _) t3 (w_ret (tt _ _) t4)))
  refine ⟨[AO.list (([97, 32, 98] : List Nat).map fun c => .str [c])], ?_⟩
  rw [callF_code (fn := fn22) (ls := [.ref lx, .unb, .unb, .unb, .unb]) rfl rfl rfl]
  rw [← List.set_append_left _ _ hlt]
  clear t1 t2 t3 t4 s0 g0 d1 d2 d3 d4 hd ga e5 hm hj tt
  exact eqr (x_asg (r_attr (r_loc rfl rfl) (a_r hH rfl)) rfl (x_asg (r_lstT q_nil) rfl (x_asg (r_bin (r_loc rfl rfl) q_lit (p_ad hp1)) rfl (s_whl L kr_r)))) rfl rfl
end
section
inductive Tok : List Nat → List Nat → AV → Prop
  | punct {c : Nat} (h : [40, 41, 39, 96].contains c = true) : Tok [c] [c] .non
  | sharp : Tok [35, 40] [35, 40] .non
  | str : Tok [34, 97, 32, 98, 34] [115, 116, 114, 105, 110, 103] (.rcd 4 [.lst [.int 97, .int 32, .int 98], .non])
  | dot : Tok [46] [46] .non
  | sym {w v : List Nat} (hw : wordB w v = true) (hid : ∀ H, cP 95 26 [.str v] H = some (.bool true, H)) : Tok w [115, 121, 109, 98, 111, 108] (.str v)
  | num {w v : List Nat} {i : Int} (hw : wordB w v = true) (hid : ∀ H, cP 95 26 [.str v] H = some (.bool false, H)) (hlike : ∀ H, cP 95 27 [.str w] H = some (.bool true, H)) (hnum : ∀ H, cP 94 34 [.int 53, .str w, .int 10] H = some (.int i, H)) : Tok w [110, 117, 109, 98, 101, 114] (.int i)

noncomputable def tkB : IS := (.ite (.cmp .isin (.loc 2) (.lit (.str [40, 41, 39, 96])))
      (.ret (.mown 8 17 (.loc 0) (.cons (.loc 2) (.cons (.lit .non) (.cons (.bin .add (.loc 1) (.lit (.int 1))) .nil)))))
      .nil
    (.ite (.cmp .eq (.loc 2) (.lit (.str [44]))) .bad .nil
    (.ite (.cmp .eq (.loc 2) (.lit (.str [34])))
      (.ret (.mown 8 22 (.loc 0) .nil))
      .nil
    (.ite (.cmp .eq (.loc 2) (.lit (.str [35])))
      (.ret (.mown 8 21 (.loc 0) .nil))
      .nil
    (.ret (.mown 8 19 (.loc 0) .nil))))))
theorem tok_front {lx p k c : Nat} {tx g r : List Nat} {H X : AH} {v : AV} {ls : List AV} {o : AO} (htx : tx.length ≤ 10000) (hs : Stops (c :: r)) (hg : Gap g k) (hk : k ≤ 50) (hH : H[lx]? = some (lexO tx p)) (hd : tx.drop p = g ++ (c :: r))
    (h : evS (cP 96) 96 tkB [.ref lx, .int ((p + g.length : Nat) : Int), .str [c], .unb] (H.set lx (lexO tx (p + g.length))) = some (.ret v, ls, (H.set lx (lexO tx (p + g.length))).set lx o ++ X)) : cP 97 16 [.ref lx] H = some (v, H.set lx o ++ X) := by
  have hd2 := at_step hd
  have hH2 : (H.set lx (lexO tx (p + g.length)))[lx]? = some (lexO tx (p + g.length)) := g_self hH
  have e1 := c_skip (n := 95) (m := 94 - k) htx hs hg hH hd (by lia)
  have hle := at_lt hd2
  have hc := at_get hd2
  have hf : decide (((p + g.length : Nat) : Int) = (tx.length : Int)) = false := decide_eq_false (by lia)
  rw [List.set_set] at h
  rw [callF_code (fn := fn16) (ls := [.ref lx, .unb, .unb, .unb]) rfl rfl rfl]
  exact eqr (s_expr (r_mown (r_loc rfl rfl) (q_r hH) q_nil e1) (x_asg (r_attr (r_loc rfl rfl) (a_r hH2 rfl)) rfl (s_ite (t_cmp (r_loc rfl rfl) (r_bi (r_cons (r_attr (r_loc rfl rfl) (a_r hH2 rfl)) q_nil) (b_lenS htx)) rfl) (i_f hf (k_nil (x_asg (r_sub (r_attr (r_loc rfl rfl) (a_r hH2 rfl)) (r_loc rfl rfl) (u_s hc ⟨(by lia), (by lia)⟩)) rfl h)))))) rfl rfl
theorem tok_word {lx c : Nat} {a v : AV} {vs : List AV} {H H' : AH} (h1 : [40, 41, 39, 96].contains c = false) (h2 : c ≠ 44 ∧ c ≠ 34 ∧ c ≠ 35) (hH : H[lx]? = some (.inst 8 vs)) (e : cP 96 19 [.ref lx] H = some (v, H')) : evS (cP 96) 96 tkB [.ref lx, a, .str [c], .unb] H = some (.ret v, [.ref lx, a, .str [c], .unb], H') :=
  s_ite (t_cmp (r_loc rfl rfl) q_lit rfl) (i_f h1 (k_nil (s_ite (t_cmp (r_loc rfl rfl) q_lit rfl) (i_f (decide_eq_false fun e => h2.1 (List.cons.inj e).1) (k_nil (s_ite (t_cmp (r_loc rfl rfl) q_lit rfl) (i_f (decide_eq_false fun e => h2.2.1 (List.cons.inj e).1) (k_nil (s_ite (t_cmp (r_loc rfl rfl) q_lit rfl) (i_f (decide_eq_false fun e => h2.2.2 (List.cons.inj e).1) (k_nil (x_ret (r_mown (r_loc rfl rfl) (q_r hH) q_nil e)))))))))))))
theorem word_head {w v : List Nat} (hw : wordB w v = true) : ∃ c w', w = c :: w' ∧ [40, 41, 39, 96].contains c = false ∧ (c ≠ 44 ∧ c ≠ 34 ∧ c ≠ 35) ∧ c ≠ 59 ∧ blanks.contains c = false := by
  simp only [wordB, Bool.and_eq_true] at hw
  have hh := hw.1.1.1.1.1
  clear hw
  match w, hh with
  | c :: w, hh =>
    simp only [headB, Bool.and_eq_true, Bool.not_eq_true', decide_eq_true_eq] at hh
    exact ⟨c, w, rfl, hh.1.1.1.1.1, ⟨hh.1.1.1.1.2, hh.1.1.1.2, hh.1.1.2⟩, hh.1.2, hh.2⟩
theorem word_ends {w v r : List Nat} (hw : wordB w v = true) (h : EndsW r ∨ w = [40] ∨ w = [41] ∨ w = [39] ∨ w = [35, 40] ∨ w = [34, 97, 32, 98, 34]) : EndsW r := by
  refine h.elim id fun h => absurd hw ?_
  clear hw
  rcases h with h | h | h | h | h <;> rw [h] <;> exact Bool.false_ne_true
theorem c_token {lx p k : Nat} {tx g w u r : List Nat} {x : AV} {H : AH} (htx : tx.length ≤ 10000) (hr0 : EndsW r ∨ w = [40] ∨ w = [41] ∨ w = [39] ∨ w = [35, 40] ∨ w = [34, 97, 32, 98, 34]) (hg : Gap g k) (hk : k ≤ 50) (hH : H[lx]? = some (lexO tx p)) (hd : tx.drop p = g ++ (w ++ r)) (ht : Tok w u x) :
    ∃ X, cP 97 16 [.ref lx] H = some (.rcd 6 [.str u, x, .int ((p + g.length : Nat) : Int), .int ((p + g.length + w.length : Nat) : Int)], H.set lx (lexO tx (p + g.length + w.length)) ++ X) := by
  have hH2 : (H.set lx (lexO tx (p + g.length)))[lx]? = some (lexO tx (p + g.length)) := g_self hH
  have hd2 := at_step hd
  cases ht with
  | @punct c h =>
    have hp1 : (((p + g.length : Nat) : Int) + 1) = ((p + g.length + 1 : Nat) : Int) := rfl
    have hs : Stops (c :: r) := by
      simp only [List.contains_eq_mem, List.mem_cons, List.not_mem_nil, or_false, decide_eq_true_eq] at h
      clear hd hd2 hr0
      rcases h with h | h | h | h <;> rw [h] <;> exact ⟨by decide, rfl⟩
    exact ⟨[], tok_front htx hs hg hk hH hd (s_ite (t_cmp (r_loc rfl rfl) q_lit rfl) (i_t h (k_any (x_ret (r_mown (r_loc rfl rfl) (q_r hH2) (r_cons (r_loc rfl rfl) (r_cons q_lit (r_cons (r_bin (r_loc rfl rfl) q_lit (p_ad hp1)) q_nil))) ((c_found' (n := 94) (e := p + g.length + 1) (w := .str [c]) (v := .non) hH2 rfl rfl).trans (congrArg (fun Z => some (_, Z)) (List.append_nil _).symm)))) kr_r)))⟩
  | sharp =>
    obtain ⟨X, e5⟩ := c_sharp htx hH2 hd2
    exact ⟨X, tok_front htx ⟨by decide, rfl⟩ hg hk hH hd (s_ite (t_cmp (r_loc rfl rfl) q_lit rfl) (i_f rfl (k_nil (s_ite (t_cmp (r_loc rfl rfl) q_lit rfl) (i_f rfl (k_nil (s_ite (t_cmp (r_loc rfl rfl) q_lit rfl) (i_f rfl (k_nil (s_ite (t_cmp (r_loc rfl rfl) q_lit rfl) (i_t rfl (k_any (x_ret (r_mown (r_loc rfl rfl) (q_r hH2) q_nil e5)) kr_r))))))))))))⟩
  | str =>
    obtain ⟨X, e5⟩ := c_string htx hH2 hd2
    exact ⟨X, tok_front htx ⟨by decide, rfl⟩ hg hk hH hd (s_ite (t_cmp (r_loc rfl rfl) q_lit rfl) (i_f rfl (k_nil (s_ite (t_cmp (r_loc rfl rfl) q_lit rfl) (i_f rfl (k_nil (s_ite (t_cmp (r_loc rfl rfl) q_lit rfl) (i_t rfl (k_any (x_ret (r_mown (r_loc rfl rfl) (q_r hH2) q_nil e5)) kr_r)))))))))⟩
  | dot =>
    obtain ⟨X, e5⟩ := c_word_dot htx (hr0.resolve_right (by decide)) hH2 hd2
    exact ⟨X, tok_front htx ⟨by decide, rfl⟩ hg hk hH hd (tok_word rfl (by decide) hH2 e5)⟩
  | sym hw hid =>
    obtain ⟨X, e5⟩ := c_word_sym htx (word_ends hw hr0) hH2 hd2 hw hid
    obtain ⟨c, w', q, h1, h2, h3⟩ := word_head hw
    exact ⟨X, tok_front htx h3 hg hk hH (hd.trans (by rw [q]; rfl)) (tok_word h1 h2 hH2 e5)⟩
  | num hw hid hlike hnum =>
    obtain ⟨X, e5⟩ := c_word_num htx (word_ends hw hr0) hH2 hd2 hw hid hlike hnum
    obtain ⟨c, w', q, h1, h2, h3⟩ := word_head hw
    exact ⟨X, tok_front (r := w' ++ r) htx h3 hg hk hH (hd.trans (by rw [q]; rfl)) (tok_word h1 h2 hH2 e5)⟩

theorem c_token_end {lx p k : Nat} {tx g : List Nat} {H : AH} (htx : tx.length ≤ 10000) (hg : Gap g k) (hk : k ≤ 50) (hH : H[lx]? = some (lexO tx p)) (hd : tx.drop p = g) (hp : p ≤ tx.length) :
    cP 97 16 [.ref lx] H = some (.rcd 6 [.str [101, 110, 100], .non, .int (tx.length : Nat), .int (tx.length : Nat)], H.set lx (lexO tx tx.length)) := by
  have hgl : p + g.length = tx.length := by rw [← hd, List.length_drop]; lia
  have e1 := c_skip (n := 95) (m := 94 - k) (r := []) htx trivial hg hH (by rw [hd, List.append_nil]) (by lia)
  rw [hgl] at e1
  have hH2 : (H.set lx (lexO tx tx.length))[lx]? = some (lexO tx tx.length) := by rw [g_set, hH]; rfl
  have hf : decide (((tx.length : Nat) : Int) = (tx.length : Int)) = true := by simp
  have e2 := @c_Token 95 (H.set lx (lexO tx tx.length)) (.str [101, 110, 100]) .non (.int (tx.length : Nat)) (.int (tx.length : Nat)) rfl rfl rfl rfl
  rw [callF_code (fn := fn16) (ls := [.ref lx, .unb, .unb, .unb]) rfl rfl rfl]
  clear hd hgl
  exact eqr (s_expr (r_mown (r_loc rfl rfl) (q_r hH) q_nil e1) (x_asg (r_attr (r_loc rfl rfl) (a_r hH2 rfl)) rfl (s_ite (t_cmp (r_loc rfl rfl) (r_bi (r_cons (r_attr (r_loc rfl rfl) (a_r hH2 rfl)) q_nil) (b_lenS htx)) rfl) (i_t hf (k_any (x_ret (r_call (r_cons q_lit (r_cons q_lit (r_cons (r_loc rfl rfl) (r_cons (r_loc rfl rfl) q_nil)))) e2)) kr_r))))) rfl rfl
end
section
noncomputable def Fr (S : List Nat) (H H' : AH) : Prop := H.length ≤ H'.length ∧ ∀ a, a < H.length → a ∉ S → H'[a]? = H[a]?
theorem Fr.refl {S : List Nat} {H : AH} : Fr S H H := ⟨Nat.le_refl _, fun _ _ _ => rfl⟩
theorem Fr.trans {S T U : List Nat} {H H1 H2 : AH} (h : Fr S H H1) (h' : Fr T H1 H2) (hS : ∀ a, a ∈ S → a ∈ U) (hT : ∀ a, a ∈ T → a ∈ U ∨ H.length ≤ a) : Fr U H H2 :=
  ⟨Nat.le_trans h.1 h'.1, fun a ha hn => by
    rw [h'.2 a (Nat.lt_of_lt_of_le ha h.1) (fun q => (hT a q).elim hn (fun w => absurd ha (Nat.not_lt.mpr w))), h.2 a ha (fun q => hn (hS a q))]⟩
theorem Fr.trans' {S : List Nat} {H H1 H2 : AH} (h : Fr S H H1) (h' : Fr S H1 H2) : Fr S H H2 := h.trans h' (fun _ q => q) (fun _ q => .inl q)
theorem Fr.app {S : List Nat} {H : AH} {X : List AO} : Fr S H (H ++ X) := ⟨by simp, fun a ha _ => List.getElem?_append_left ha⟩
theorem Fr.set {S : List Nat} {H : AH} {a : Nat} {o : AO} (h : a ∈ S) : Fr S H (H.set a o) := ⟨by simp, fun b _ hn => List.getElem?_set_ne (by rintro rfl; exact hn h)⟩
theorem Fr.mono {S T : List Nat} {H H' : AH} (h : Fr S H H') (hS : ∀ a, a ∈ S → a ∈ T) : Fr T H H' := ⟨h.1, fun a ha hn => h.2 a ha fun q => hn (hS a q)⟩
theorem Fr.get {S : List Nat} {H H' : AH} {a : Nat} {o : AO} (h : Fr S H H') (hg : H[a]? = some o) (hn : a ∉ S) : H'[a]? = some o := by
  rw [h.2 a (List.getElem?_eq_some_iff.mp hg).1 hn, hg]
theorem lt_of {H : AH} {a : Nat} {o : AO} (h : H[a]? = some o) : a < H.length := (List.getElem?_eq_some_iff.mp h).1
theorem ne_of {H : AH} {a b : Nat} {o p : AO} (h : H[a]? = some o) (h' : H[b]? = some p) (n : o ≠ p) : a ≠ b := by
  rintro rfl; rw [h] at h'; exact n (Option.some.inj h')

noncomputable abbrev symO (i : Nat) (x : List Nat) : AO := .inst 2 [.int (i : Nat), .str x]
structure TB (tb rows dict : Nat) (H : AH) (L : List (List Nat × Nat)) : Prop where
  tb : H[tb]? = some (.inst 1 [.ref rows, .ref dict])
  rows : H[rows]? = some (.list (L.map fun p => .ref p.2))
  dict : H[dict]? = some (.dict (L.map fun p => (p.1, .ref p.2)))
  syms : ∀ i x s, L[i]? = some (x, s) → H[s]? = some (symO i x)
  len : L.length ≤ 1000

theorem TB.keep {tb rows dict : Nat} {H H' : AH} {L : List (List Nat × Nat)} {S : List Nat} (T : TB tb rows dict H L) (h : Fr S H H') (h1 : tb ∉ S) (h2 : rows ∉ S) (h3 : dict ∉ S) (h4 : ∀ s ∈ S, ∀ i x, H[s]? ≠ some (symO i x)) : TB tb rows dict H' L :=
  ⟨h.get T.tb h1, h.get T.rows h2, h.get T.dict h3, fun i x s q => h.get (T.syms i x s q) fun w => h4 s w i x (T.syms i x s q), T.len⟩

noncomputable def grow1 (N : List (List Nat)) (x : List Nat) : List (List Nat) := if x ∈ N then N else N ++ [x]
noncomputable def grow (N xs : List (List Nat)) : List (List Nat) := xs.foldl grow1 N
noncomputable abbrev nms (L : List (List Nat × Nat)) : List (List Nat) := L.map (·.1)
noncomputable def Ext (L L' : List (List Nat × Nat)) : Prop := ∀ x a, L.lookup x = some a → L'.lookup x = some a
theorem Ext.refl {L : List (List Nat × Nat)} : Ext L L := fun _ _ h => h
theorem Ext.trans {L L1 L2 : List (List Nat × Nat)} (h : Ext L L1) (h' : Ext L1 L2) : Ext L L2 := fun x a q => h' x a (h x a q)
theorem look_map {α : Type} (f : Nat → α) (x : List Nat) : ∀ L : List (List Nat × Nat), (L.map fun p => (p.1, f p.2)).lookup x = (L.lookup x).map f
  | [] => rfl
  | (y, a) :: L => by
    simp only [List.map_cons, List.lookup_cons]
    by_cases h : x == y
    · simp [h]
    · simp [h, look_map f x L]
theorem look_none {x : List Nat} : ∀ {L : List (List Nat × Nat)}, L.lookup x = none ↔ x ∉ nms L
  | [] => by simp
  | (y, a) :: L => by
    simp only [nms, List.map_cons, List.lookup_cons, List.mem_cons, not_or]
    by_cases h : x = y
    · subst h; simp
    · have : (x == y) = false := by simp [h]
      simp only [this, h, not_false_eq_true, true_and]; exact look_none
theorem look_app {x : List Nat} {M : List (List Nat × Nat)} : ∀ {L : List (List Nat × Nat)}, (L ++ M).lookup x = (L.lookup x).or (M.lookup x)
  | [] => by simp
  | (y, a) :: L => by
    simp only [List.cons_append, List.lookup_cons]
    by_cases h : x == y
    · simp [h]
    · simp [h, look_app (L := L)]
theorem look_mem {x : List Nat} {a : Nat} : ∀ {L : List (List Nat × Nat)}, L.lookup x = some a → ∃ i : Nat, L[i]? = some (x, a)
  | [], h => by simp at h
  | (y, b) :: L, h => by
    simp only [List.lookup_cons] at h
    by_cases e : x = y
    · subst e; simp at h; exact ⟨0, by simp [h]⟩
    · have : (x == y) = false := by simp [e]
      simp only [this] at h
      obtain ⟨i, q⟩ := look_mem h
      exact ⟨i + 1, by simpa using q⟩

theorem c_symbol {n tb rows dict : Nat} {H : AH} {L : List (List Nat × Nat)} (T : TB tb rows dict H L) (x : List Nat) (hl : L.length < 1000) :
    ∃ a L' H', cP (n + 2) 28 [.ref tb, .str x] H = some (.ref a, H') ∧ TB tb rows dict H' L' ∧ L'.lookup x = some a ∧ nms L' = grow1 (nms L) x ∧ Ext L L' ∧ Fr [rows, dict] H H' ∧ L'.length ≤ L.length + 1 := by
  obtain ⟨h1, h2, h3, h4, h5⟩ := T
  have hrow : (L.map fun p => AV.ref p.2).length ≤ 10000 := by simp; lia
  have hdic : (L.map fun p => (p.1, AV.ref p.2)).length ≤ 10000 := by simp; lia
  rw [callF_code (fn := fn28) (ls := [.ref tb, .str x, .unb]) rfl rfl rfl]
  have lk := look_map AV.ref x L
  cases e : L.lookup x with
  | some a =>
    refine ⟨a, L, H, ?_, ⟨h1, h2, h3, h4, h5⟩, e, ?_, .refl, .refl, Nat.le_succ _⟩
    · rw [e] at lk
      simp only [Option.map_some] at lk
      have hgd : ((L.map fun p => (p.1, AV.ref p.2)).lookup x).getD .non = .ref a := by rw [lk]; rfl
      clear h4 e
      exact eqr (x_asg (r_meth (r_attr (r_loc rfl rfl) (a_r h1 rfl)) (rv_ge h3) (r_cons (r_loc rfl rfl) (r_cons q_lit q_nil)) (ge_r h3 hgd)) rfl (s_ite (t_cmp (r_loc rfl rfl) q_lit rfl) (i_f rfl (k_nil (x_ret (r_loc rfl rfl)))))) rfl rfl
    · have : x ∈ nms L := Classical.byContradiction fun q => by rw [look_none.mpr q] at e; cases e
      simp only [grow1, this, if_true]
  | none =>
    rw [e] at lk
    simp only [Option.map_none] at lk
    have hgd : ((L.map fun p => (p.1, AV.ref p.2)).lookup x).getD .non = .non := by rw [lk]; rfl
    have b1 := lt_of h1; have b2 := lt_of h2; have b3 := lt_of h3
    have n12 : tb ≠ rows := ne_of h1 h2 (by simp)
    have n13 : tb ≠ dict := ne_of h1 h3 (by simp)
    have n23 : rows ≠ dict := ne_of h2 h3 (by simp)
    have cs : cP (n + 1) 47 [.int (L.map fun p => AV.ref p.2).length, .str x] H = some (.ref H.length, H ++ [symO L.length x]) := by rw [List.length_map]; exact c_Symbol rfl rfl
    have hput : dictPut (L.map fun p => (p.1, AV.ref p.2)) x (.ref H.length) = (L ++ [(x, H.length)]).map fun p => (p.1, AV.ref p.2) := by
      simp [dictPut, lk]
    have happ : (L.map fun p => AV.ref p.2) ++ [.ref H.length] = (L ++ [(x, H.length)]).map fun p => AV.ref p.2 := by simp
    refine ⟨H.length, L ++ [(x, H.length)], ((H ++ [symO L.length x]).set rows (.list ((L ++ [(x, H.length)]).map fun p => .ref p.2))).set dict (.dict ((L ++ [(x, H.length)]).map fun p => (p.1, .ref p.2))), ?_, ⟨?_, ?_, ?_, ?_, ?_⟩, ?_, ?_, ?_, ?_, ?_⟩
    · clear h4 e
      have n32 := n23.symm
      have n21 := n12.symm
      have n31 := n13.symm
      have g3 : (H ++ [symO L.length x])[dict]? = some (.dict (L.map fun p => (p.1, .ref p.2))) := by rw [List.getElem?_append_left b3]; exact h3
      have g2 : (H ++ [symO L.length x])[rows]? = some (.list (L.map fun p => .ref p.2)) := by rw [List.getElem?_append_left b2]; exact h2
      have g1 : (H ++ [symO L.length x])[tb]? = some (.inst 1 [.ref rows, .ref dict]) := by rw [List.getElem?_append_left b1]; exact h1
      exact eqr (x_asg (r_meth (r_attr (r_loc rfl rfl) (a_r h1 rfl)) (rv_ge h3) (r_cons (r_loc rfl rfl) (r_cons q_lit q_nil)) (ge_r h3 hgd)) rfl (s_ite (t_cmp (r_loc rfl rfl) q_lit rfl) (i_t rfl (k_any (x_asg (r_call (r_cons (r_bi (r_cons (r_attr (r_loc rfl rfl) (a_r h1 rfl)) q_nil) (ln_r h2 hrow)) (r_cons (r_loc rfl rfl) q_nil)) cs) rfl (s_expr (r_meth (r_attr (r_loc rfl rfl) (a_r g1 rfl)) (rv_ap g2) (r_cons (r_loc rfl rfl) q_nil) (ap_r g2 hrow happ rfl)) (s_asgS (r_loc rfl rfl) (r_attr (r_loc rfl rfl) (a_r (g_ne n21 g1) rfl)) (r_loc rfl rfl) (sd_r (g_ne n23 g3) hdic hput rfl) q_snil))) (kr_n (x_ret (r_loc rfl rfl))))))) rfl rfl
    · rw [List.getElem?_set_ne n13.symm, List.getElem?_set_ne n12.symm, List.getElem?_append_left b1]; exact h1
    · rw [List.getElem?_set_ne n23.symm, g_set, List.getElem?_append_left b2, h2]; rfl
    · rw [g_set, List.getElem?_set_ne n23, List.getElem?_append_left b3, h3]; rfl
    · intro i y s hi
      rw [List.getElem?_append] at hi
      split at hi
      · have hs := h4 i y s hi
        have m2 : rows ≠ s := ne_of h2 hs (by simp)
        have m3 : dict ≠ s := ne_of h3 hs (by simp)
        rw [List.getElem?_set_ne m3, List.getElem?_set_ne m2, List.getElem?_append_left (lt_of hs)]; exact hs
      · rename_i hge
        have : i = L.length := by
          have := (List.getElem?_eq_some_iff.mp hi).1
          simp at this; lia
        subst this
        simp at hi
        obtain ⟨rfl, rfl⟩ := hi
        rw [List.getElem?_set_ne (by lia), List.getElem?_set_ne (by lia)]; simp
    · simp; lia
    · rw [look_app, e]; simp
    · have : x ∉ nms L := look_none.mp e
      simp [grow1, this]
    · intro y a q; rw [look_app, q]; rfl
    · exact (Fr.app.trans' (Fr.set (by simp))).trans' (Fr.set (by simp))
    · simp
end
section
structure Env where
  (rd lx tb rows dict : Nat) (tx : List Nat)
structure RD (E : Env) (af : Nat) (H : AH) (p : Nat) (L : List (List Nat × Nat)) (fr : List AV) : Prop where
  T : TB E.tb E.rows E.dict H L
  rd : H[E.rd]? = some (.inst 10 [.ref E.lx, .ref E.tb, .ref af])
  lx : H[E.lx]? = some (lexO E.tx p)
  fs : H[af]? = some (.list fr)
  nr : E.rows ≠ af

noncomputable def Runs (rd k : Nat) (H : AH) (R : AV × AH) : Prop := ∀ x y, outF (loopW (evT (cP 97) 97 w7_1t) (evS (cP 97) 97 w7_1b) k [.ref rd, x, y] H) = some R
noncomputable def After (rd k : Nat) (V : AV) (H : AH) (R : AV × AH) : Prop := ∀ st : Int, ∃ b H1, cP 97 14 [.ref rd, V, .int st] H = some (.bool b, H1) ∧ H1[rd]? = H[rd]? ∧ (if b = true then cP 97 8 [.ref rd, V] H1 = some R else Runs rd k H1 R)

section
variable {rd lx tb af k : Nat} {u : List Nat} {x V : AV} {st en : Int} {H H1 H2 : AH} {R : AV × AH} {e1 e2 f1 f2 f3 : AV} {e0s : List Nat}
theorem w7_true {cf : CF} {n : Nat} {ls : List AV} {H : AH} : evT cf n w7_1t ls H = some (true, H) := by exact eqv (t_val q_lit) rfl rfl

theorem run_open (hr : H[rd]? = some (.inst 10 [.ref lx, e1, e2])) (hl : H[lx]? = some (.inst 8 [.str e0s, f1, f2, f3])) (ht : cP 97 16 [.ref lx] H = some (.rcd 6 [.str u, x, .int st, .int en], H1)) (hu : u ≠ [101, 110, 100]) (hr1 : H1[rd]? = some (.inst 10 [.ref lx, e1, e2]))
    (ho : cP 97 10 [.ref rd, .rcd 6 [.str u, x, .int st, .int en]] H1 = some (.bool true, H2)) (h : Runs rd k H2 R) : Runs rd (k + 1) H R := by
  intro a b
  have hb : evS (cP 97) 97 w7_1b [.ref rd, a, b] H = some (.cnt, [.ref rd, .rcd 6 [.str u, x, .int st, .int en], b], H2) := by
    clear h
    exact eqs (x_asg (r_mown (r_attr (r_loc rfl rfl) (a_r hr rfl)) (q_r hl) q_nil ht) rfl (s_ite (t_cmp (r_attr (r_loc rfl rfl) (a_c rfl)) q_lit rfl) (i_f (decide_eq_false hu) (k_nil (s_ite (t_val (r_mown (r_loc rfl rfl) (q_r hr1) (r_cons (r_loc rfl rfl) q_nil) ho)) (i_t rfl (k_any q_cont kr_c))))))) rfl rfl rfl
  rw [w_turnC w7_true hb rfl]
  exact h _ _
theorem run_dot (hr : H[rd]? = some (.inst 10 [.ref lx, e1, e2])) (hl : H[lx]? = some (.inst 8 [.str e0s, f1, f2, f3])) (ht : cP 97 16 [.ref lx] H = some (.rcd 6 [.str [46], x, .int st, .int en], H1)) (hr1 : H1[rd]? = some (.inst 10 [.ref lx, e1, e2]))
    (hd : cP 97 11 [.ref rd, .rcd 6 [.str [46], x, .int st, .int en]] H1 = some (.non, H2)) (h : Runs rd k H2 R) : Runs rd (k + 1) H R := by
  intro a b
  have ho : cP 97 10 [.ref rd, .rcd 6 [.str [46], x, .int st, .int en]] H1 = some (.bool false, H1) := by kernel_rfl
  have hb : evS (cP 97) 97 w7_1b [.ref rd, a, b] H = some (.cnt, [.ref rd, .rcd 6 [.str [46], x, .int st, .int en], b], H2) := by
    clear h
    exact eqs (x_asg (r_mown (r_attr (r_loc rfl rfl) (a_r hr rfl)) (q_r hl) q_nil ht) rfl (s_ite (t_cmp (r_attr (r_loc rfl rfl) (a_c rfl)) q_lit rfl) (i_f rfl (k_nil (s_ite (t_val (r_mown (r_loc rfl rfl) (q_r hr1) (r_cons (r_loc rfl rfl) q_nil) ho)) (i_f rfl (k_nil (s_ite (t_cmp (r_attr (r_loc rfl rfl) (a_c rfl)) q_lit rfl) (i_t rfl (k_any (s_expr (r_mown (r_loc rfl rfl) (q_r hr1) (r_cons (r_loc rfl rfl) q_nil) hd) q_cont) kr_c)))))))))) rfl rfl rfl
  rw [w_turnC w7_true hb rfl]
  exact h _ _
theorem run_close (hr : H[rd]? = some (.inst 10 [.ref lx, e1, e2])) (hl : H[lx]? = some (.inst 8 [.str e0s, f1, f2, f3])) (ht : cP 97 16 [.ref lx] H = some (.rcd 6 [.str [41], x, .int st, .int en], H1)) (hr1 : H1[rd]? = some (.inst 10 [.ref lx, e1, e2]))
    (hd : cP 97 12 [.ref rd, .rcd 6 [.str [41], x, .int st, .int en]] H1 = some (V, H2)) (hr2 : H2[rd]? = some (.inst 10 [.ref lx, e1, e2])) (hV : isU V = false) (h : After rd k V H2 R) : Runs rd (k + 1) H R := by
  intro a b
  have ho : cP 97 10 [.ref rd, .rcd 6 [.str [41], x, .int st, .int en]] H1 = some (.bool false, H1) := by kernel_rfl
  obtain ⟨q, H3, e, hr3, h3⟩ := h st
  rw [hr2] at hr3
  cases q with
  | true =>
    simp only [if_true] at h3
    obtain ⟨v, H4⟩ := R
    · have hb : evS (cP 97) 97 w7_1b [.ref rd, a, b] H = some (.ret v, [.ref rd, .rcd 6 [.str [41], x, .int st, .int en], V], H4) := by exact eqs (x_asg (r_mown (r_attr (r_loc rfl rfl) (a_r hr rfl)) (q_r hl) q_nil ht) rfl (s_ite (t_cmp (r_attr (r_loc rfl rfl) (a_c rfl)) q_lit rfl) (i_f rfl (k_nil (s_ite (t_val (r_mown (r_loc rfl rfl) (q_r hr1) (r_cons (r_loc rfl rfl) q_nil) ho)) (i_f rfl (k_nil (s_ite (t_cmp (r_attr (r_loc rfl rfl) (a_c rfl)) q_lit rfl) (i_f rfl (k_nil (x_asg (r_ifx (t_cmp (r_attr (r_loc rfl rfl) (a_c rfl)) q_lit rfl) (i_t rfl (r_mown (r_loc rfl rfl) (q_r hr1) (r_cons (r_loc rfl rfl) q_nil) hd))) rfl (s_ite (t_val (r_mown (r_loc rfl rfl) (q_r hr2) (r_cons (r_loc rfl hV) (r_cons (r_attr (r_loc rfl rfl) (a_c rfl)) q_nil)) e)) (i_t rfl (k_any (x_ret (r_mown (r_loc rfl rfl) (q_r hr3) (r_cons (r_loc rfl hV) q_nil) h3)) kr_r)))))))))))))) rfl rfl rfl
      rw [w_ret w7_true hb]; rfl
  | false =>
    simp only [Bool.false_eq_true, if_false] at h3
    have hb : evS (cP 97) 97 w7_1b [.ref rd, a, b] H = some (.nxt, [.ref rd, .rcd 6 [.str [41], x, .int st, .int en], V], H3) := by
      clear h3
      exact eqs (x_asg (r_mown (r_attr (r_loc rfl rfl) (a_r hr rfl)) (q_r hl) q_nil ht) rfl (s_ite (t_cmp (r_attr (r_loc rfl rfl) (a_c rfl)) q_lit rfl) (i_f rfl (k_nil (s_ite (t_val (r_mown (r_loc rfl rfl) (q_r hr1) (r_cons (r_loc rfl rfl) q_nil) ho)) (i_f rfl (k_nil (s_ite (t_cmp (r_attr (r_loc rfl rfl) (a_c rfl)) q_lit rfl) (i_f rfl (k_nil (x_asg (r_ifx (t_cmp (r_attr (r_loc rfl rfl) (a_c rfl)) q_lit rfl) (i_t rfl (r_mown (r_loc rfl rfl) (q_r hr1) (r_cons (r_loc rfl rfl) q_nil) hd))) rfl (s_ite (t_val (r_mown (r_loc rfl rfl) (q_r hr2) (r_cons (r_loc rfl hV) (r_cons (r_attr (r_loc rfl rfl) (a_c rfl)) q_nil)) e)) (i_f rfl (k_nil q_snil)))))))))))))) rfl rfl rfl
    rw [w_turn w7_true hb rfl]
    exact h3 _ _
theorem run_atom (hr : H[rd]? = some (.inst 10 [.ref lx, e1, e2])) (hl : H[lx]? = some (.inst 8 [.str e0s, f1, f2, f3])) (ht : cP 97 16 [.ref lx] H = some (.rcd 6 [.str u, x, .int st, .int en], H1)) (hu : u ≠ [101, 110, 100]) (hu1 : u ≠ [46]) (hu2 : u ≠ [41]) (hr1 : H1[rd]? = some (.inst 10 [.ref lx, e1, e2]))
    (ho : cP 97 10 [.ref rd, .rcd 6 [.str u, x, .int st, .int en]] H1 = some (.bool false, H1))
    (hd : cP 97 13 [.ref rd, .rcd 6 [.str u, x, .int st, .int en]] H1 = some (V, H2)) (hr2 : H2[rd]? = some (.inst 10 [.ref lx, e1, e2])) (hV : isU V = false) (h : After rd k V H2 R) : Runs rd (k + 1) H R := by
  intro a b
  obtain ⟨q, H3, e, hr3, h3⟩ := h st
  rw [hr2] at hr3
  cases q with
  | true =>
    simp only [if_true] at h3
    obtain ⟨v, H4⟩ := R
    · have hb : evS (cP 97) 97 w7_1b [.ref rd, a, b] H = some (.ret v, [.ref rd, .rcd 6 [.str u, x, .int st, .int en], V], H4) := by exact eqs (x_asg (r_mown (r_attr (r_loc rfl rfl) (a_r hr rfl)) (q_r hl) q_nil ht) rfl (s_ite (t_cmp (r_attr (r_loc rfl rfl) (a_c rfl)) q_lit rfl) (i_f (decide_eq_false hu) (k_nil (s_ite (t_val (r_mown (r_loc rfl rfl) (q_r hr1) (r_cons (r_loc rfl rfl) q_nil) ho)) (i_f rfl (k_nil (s_ite (t_cmp (r_attr (r_loc rfl rfl) (a_c rfl)) q_lit rfl) (i_f (decide_eq_false hu1) (k_nil (x_asg (r_ifx (t_cmp (r_attr (r_loc rfl rfl) (a_c rfl)) q_lit rfl) (i_f (decide_eq_false hu2) (r_mown (r_loc rfl rfl) (q_r hr1) (r_cons (r_loc rfl rfl) q_nil) hd))) rfl (s_ite (t_val (r_mown (r_loc rfl rfl) (q_r hr2) (r_cons (r_loc rfl hV) (r_cons (r_attr (r_loc rfl rfl) (a_c rfl)) q_nil)) e)) (i_t rfl (k_any (x_ret (r_mown (r_loc rfl rfl) (q_r hr3) (r_cons (r_loc rfl hV) q_nil) h3)) kr_r)))))))))))))) rfl rfl rfl
      rw [w_ret w7_true hb]; rfl
  | false =>
    simp only [Bool.false_eq_true, if_false] at h3
    have hb : evS (cP 97) 97 w7_1b [.ref rd, a, b] H = some (.nxt, [.ref rd, .rcd 6 [.str u, x, .int st, .int en], V], H3) := by
      clear h3
      exact eqs (x_asg (r_mown (r_attr (r_loc rfl rfl) (a_r hr rfl)) (q_r hl) q_nil ht) rfl (s_ite (t_cmp (r_attr (r_loc rfl rfl) (a_c rfl)) q_lit rfl) (i_f (decide_eq_false hu) (k_nil (s_ite (t_val (r_mown (r_loc rfl rfl) (q_r hr1) (r_cons (r_loc rfl rfl) q_nil) ho)) (i_f rfl (k_nil (s_ite (t_cmp (r_attr (r_loc rfl rfl) (a_c rfl)) q_lit rfl) (i_f (decide_eq_false hu1) (k_nil (x_asg (r_ifx (t_cmp (r_attr (r_loc rfl rfl) (a_c rfl)) q_lit rfl) (i_f (decide_eq_false hu2) (r_mown (r_loc rfl rfl) (q_r hr1) (r_cons (r_loc rfl rfl) q_nil) hd))) rfl (s_ite (t_val (r_mown (r_loc rfl rfl) (q_r hr2) (r_cons (r_loc rfl hV) (r_cons (r_attr (r_loc rfl rfl) (a_c rfl)) q_nil)) e)) (i_f rfl (k_nil q_snil)))))))))))))) rfl rfl rfl
    rw [w_turn w7_true hb rfl]
    exact h3 _ _
theorem run_end (hr : H[rd]? = some (.inst 10 [.ref lx, e1, .ref af])) (hl : H[lx]? = some (.inst 8 [.str e0s, f1, f2, f3])) (ht : cP 97 16 [.ref lx] H = some (.rcd 6 [.str [101, 110, 100], x, .int st, .int en], H1)) (hr1 : H1[rd]? = some (.inst 10 [.ref lx, e1, .ref af]))
    (hf : H1[af]? = some (.list [])) : Runs rd (k + 1) H (.spc 1, H1) := by
  intro a b
  have hz := z_nil hf
  have hb : evS (cP 97) 97 w7_1b [.ref rd, a, b] H = some (.ret (.spc 1), [.ref rd, .rcd 6 [.str [101, 110, 100], x, .int st, .int en], b], H1) := by
    exact eqs (x_asg (r_mown (r_attr (r_loc rfl rfl) (a_r hr rfl)) (q_r hl) q_nil ht) rfl (s_ite (t_cmp (r_attr (r_loc rfl rfl) (a_c rfl)) q_lit rfl) (i_t rfl (k_any (s_ite (t_cmp (r_attr (r_loc rfl rfl) (a_r hr1 rfl)) (r_lstF q_nil) hz) (i_t rfl (k_any (x_ret q_glb) kr_r))) kr_r)))) rfl rfl rfl
  rw [w_ret w7_true hb]; rfl
end

noncomputable abbrev frO (w : List Nat) (st : Int) (things : AV) (s : Int) (tl : AV) : AO := .inst 9 [.str w, .int st, things, .int s, tl]
noncomputable abbrev wList : List Nat := [108, 105, 115, 116]
noncomputable abbrev wVec : List Nat := [118, 101, 99, 116, 111, 114]
noncomputable abbrev wQuot : List Nat := [113, 117, 111, 116, 97, 116, 105, 111, 110]
noncomputable abbrev sQuote : List Nat := [113, 117, 111, 116, 101]

theorem c_opens_list {rd af : Nat} {st en : Int} {H : AH} {e0 e1 : AV} {fr : List AV} (hr : H[rd]? = some (.inst 10 [e0, e1, .ref af])) (hf : H[af]? = some (.list fr)) (hl : fr.length ≤ 1000) :
    cP 97 10 [.ref rd, .rcd 6 [.str [40], .non, .int st, .int en]] H = some (.bool true, H.set af (.list (fr ++ [.ref (H.length + 1)])) ++ [.list [], frO wList st (.ref H.length) 0 (.spc 0)]) := by
  have b1 := lt_of hr; have b2 := lt_of hf
  have hl' : fr.length ≤ 10000 := by lia
  have n1 : rd ≠ af := ne_of hr hf (by simp)
  have cf := @c_Frame 95 (H ++ [.list []]) (.str wList) (.int st) (.ref H.length) rfl rfl rfl
  have hlen : (H ++ [AO.list []]).length = H.length + 1 := by simp
  rw [hlen, List.append_assoc] at cf
  have hset : (H ++ ([AO.list []] ++ [AO.inst 9 [AV.str wList, AV.int st, AV.ref H.length, AV.int 0, AV.spc 0]])).set af (.list (fr ++ [.ref (H.length + 1)])) = H.set af (.list (fr ++ [.ref (H.length + 1)])) ++ [.list [], frO wList st (.ref H.length) 0 (.spc 0)] := List.set_append_left _ _ b2
  have hr2 : (H ++ [AO.list []])[rd]? = some (.inst 10 [e0, e1, .ref af]) := by rw [List.getElem?_append_left b1]; exact hr
  have hf2 : (H ++ ([AO.list []] ++ [AO.inst 9 [AV.str wList, AV.int st, AV.ref H.length, AV.int 0, AV.spc 0]]))[af]? = some (.list fr) := by rw [List.getElem?_append_left b2]; exact hf
  rw [callF_code (fn := fn10) (ls := [.ref rd, .rcd 6 [.str [40], .non, .int st, .int en], .unb, .unb]) rfl rfl rfl]
  exact eqr (s_ite (t_cmp (r_attr (r_loc rfl rfl) (a_c rfl)) q_lit rfl) (i_t rfl (k_any (s_expr (r_meth (r_attr (r_loc rfl rfl) (a_r hr rfl)) (rv_ap hf) (r_cons (r_call (r_cons q_lit (r_cons (r_attr (r_loc rfl rfl) (a_c rfl)) (r_cons (r_lstT q_nil) q_nil))) cf) q_nil) (ap_r hf2 hl' rfl hset)) (x_ret q_lit)) kr_r))) rfl rfl
theorem c_opens_vec {rd af : Nat} {st en : Int} {H : AH} {e0 e1 : AV} {fr : List AV} (hr : H[rd]? = some (.inst 10 [e0, e1, .ref af])) (hf : H[af]? = some (.list fr)) (hl : fr.length ≤ 1000) :
    cP 97 10 [.ref rd, .rcd 6 [.str [35, 40], .non, .int st, .int en]] H = some (.bool true, H.set af (.list (fr ++ [.ref (H.length + 1)])) ++ [.list [], frO wVec st (.ref H.length) 0 (.spc 0)]) := by
  have b1 := lt_of hr; have b2 := lt_of hf
  have hl' : fr.length ≤ 10000 := by lia
  have n1 : rd ≠ af := ne_of hr hf (by simp)
  have cf := @c_Frame 95 (H ++ [.list []]) (.str wVec) (.int st) (.ref H.length) rfl rfl rfl
  have hlen : (H ++ [AO.list []]).length = H.length + 1 := by simp
  rw [hlen, List.append_assoc] at cf
  have hset : (H ++ ([AO.list []] ++ [AO.inst 9 [AV.str wVec, AV.int st, AV.ref H.length, AV.int 0, AV.spc 0]])).set af (.list (fr ++ [.ref (H.length + 1)])) = H.set af (.list (fr ++ [.ref (H.length + 1)])) ++ [.list [], frO wVec st (.ref H.length) 0 (.spc 0)] := List.set_append_left _ _ b2
  have hr2 : (H ++ [AO.list []])[rd]? = some (.inst 10 [e0, e1, .ref af]) := by rw [List.getElem?_append_left b1]; exact hr
  have hf2 : (H ++ ([AO.list []] ++ [AO.inst 9 [AV.str wVec, AV.int st, AV.ref H.length, AV.int 0, AV.spc 0]]))[af]? = some (.list fr) := by rw [List.getElem?_append_left b2]; exact hf
  rw [callF_code (fn := fn10) (ls := [.ref rd, .rcd 6 [.str [35, 40], .non, .int st, .int en], .unb, .unb]) rfl rfl rfl]
  exact eqr (s_ite (t_cmp (r_attr (r_loc rfl rfl) (a_c rfl)) q_lit rfl) (i_f rfl (k_nil (s_ite (t_cmp (r_attr (r_loc rfl rfl) (a_c rfl)) q_lit rfl) (i_t rfl (k_any (s_expr (r_meth (r_attr (r_loc rfl rfl) (a_r hr rfl)) (rv_ap hf) (r_cons (r_call (r_cons q_lit (r_cons (r_attr (r_loc rfl rfl) (a_c rfl)) (r_cons (r_lstT q_nil) q_nil))) cf) q_nil) (ap_r hf2 hl' rfl hset)) (x_ret q_lit)) kr_r)))))) rfl rfl

theorem c_opens_quote {rd af tb rows dict : Nat} {st en : Int} {H : AH} {e0 : AV} {fr : List AV} {L : List (List Nat × Nat)} (T : TB tb rows dict H L) (hL : L.length < 1000) (hr : H[rd]? = some (.inst 10 [e0, .ref tb, .ref af])) (hf : H[af]? = some (.list fr)) (hn : rows ≠ af) (hl : fr.length ≤ 1000) :
    ∃ a L' H1, TB tb rows dict H1 L' ∧ L'.lookup sQuote = some a ∧ nms L' = grow1 (nms L) sQuote ∧ Ext L L' ∧ Fr [rows, dict] H H1 ∧ L'.length ≤ L.length + 1 ∧
    cP 97 10 [.ref rd, .rcd 6 [.str [39], .non, .int st, .int en]] H = some (.bool true, H1.set af (.list (fr ++ [.ref H1.length])) ++ [frO wQuot st (.lst [.ref a]) 0 (.spc 0)]) := by
  obtain ⟨a, L', H1, ec, T', q1, q2, q3, F, q4⟩ := c_symbol (n := 94) T sQuote hL
  refine ⟨a, L', H1, T', q1, q2, q3, F, q4, ?_⟩
  have n2 : rd ≠ rows := ne_of hr T.rows (by simp)
  have n3 : rd ≠ dict := ne_of hr T.dict (by simp)
  have n4 : af ≠ dict := ne_of hf T.dict (by simp)
  have hr1 := F.get hr (by simp [n2, n3])
  have hf1 := F.get hf (by simp [hn.symm, n4])
  have b1 := lt_of hr1; have b2 := lt_of hf1
  have hl' : fr.length ≤ 10000 := by lia
  have n1 : rd ≠ af := ne_of hr hf (by simp)
  have hT := T.tb
  have cf := @c_Frame 95 H1 (.str wQuot) (.int st) (.lst [.ref a]) rfl rfl rfl
  have hset : (H1 ++ [AO.inst 9 [AV.str wQuot, AV.int st, AV.lst [.ref a], AV.int 0, AV.spc 0]]).set af (.list (fr ++ [.ref H1.length])) = H1.set af (.list (fr ++ [.ref H1.length])) ++ [frO wQuot st (.lst [.ref a]) 0 (.spc 0)] := List.set_append_left _ _ b2
  have hr2 : (H1 ++ [AO.inst 9 [AV.str wQuot, AV.int st, AV.lst [.ref a], AV.int 0, AV.spc 0]])[rd]? = some (.inst 10 [e0, .ref tb, .ref af]) := by rw [List.getElem?_append_left b1]; exact hr1
  have hf2 : (H1 ++ [AO.inst 9 [AV.str wQuot, AV.int st, AV.lst [.ref a], AV.int 0, AV.spc 0]])[af]? = some (.list fr) := by rw [List.getElem?_append_left b2]; exact hf1
  have hb : evS (cP 96) 96 f10_1b [.ref rd, .rcd 6 [.str [39], .non, .int st, .int en], .str [39], .str sQuote] H = some (.ret (.bool true), [.ref rd, .rcd 6 [.str [39], .non, .int st, .int en], .str [39], .str sQuote], H1.set af (.list (fr ++ [.ref H1.length])) ++ [frO wQuot st (.lst [.ref a]) 0 (.spc 0)]) := by
    clear F T T' q1 q2 q3
    exact eqs (s_ite (t_cmp (r_loc rfl rfl) (r_attr (r_loc rfl rfl) (a_c rfl)) rfl) (i_t rfl (k_any (s_expr (r_meth (r_attr (r_loc rfl rfl) (a_r hr rfl)) (rv_ap hf) (r_cons (r_call (r_cons q_lit (r_cons (r_attr (r_loc rfl rfl) (a_c rfl)) (r_cons (r_lstF (r_cons (r_mown (r_attr (r_loc rfl rfl) (a_r hr rfl)) (q_r hT) (r_cons (r_loc rfl rfl) q_nil) ec) q_nil)) q_nil))) cf) q_nil) (ap_r hf2 hl' rfl hset)) (x_ret q_lit)) kr_r))) rfl rfl rfl
  have hsr : srcOf (.tup [(.tup [(.str [39]), (.str [113, 117, 111, 116, 101])]), (.tup [(.str [96]), (.str [113, 117, 97, 115, 105, 113, 117, 111, 116, 101])]), (.tup [(.str [44]), (.str [117, 110, 113, 117, 111, 116, 101])]), (.tup [(.str [44, 64]), (.str [117, 110, 113, 117, 111, 116, 101, 45, 115, 112, 108, 105, 99, 105, 110, 103])])]) = some (.items [(.tup [(.str [39]), (.str [113, 117, 111, 116, 101])]), (.tup [(.str [96]), (.str [113, 117, 97, 115, 105, 113, 117, 111, 116, 101])]), (.tup [(.str [44]), (.str [117, 110, 113, 117, 111, 116, 101])]), (.tup [(.str [44, 64]), (.str [117, 110, 113, 117, 111, 116, 101, 45, 115, 112, 108, 105, 99, 105, 110, 103])])]) := rfl
  have hlp := f_ret (k := 95) (j := 0) (sr := .items [(.tup [(.str [39]), (.str [113, 117, 111, 116, 101])]), (.tup [(.str [96]), (.str [113, 117, 97, 115, 105, 113, 117, 111, 116, 101])]), (.tup [(.str [44]), (.str [117, 110, 113, 117, 111, 116, 101])]), (.tup [(.str [44, 64]), (.str [117, 110, 113, 117, 111, 116, 101, 45, 115, 112, 108, 105, 99, 105, 110, 103])])]) (tg := .many [2, 3]) (ls := [.ref rd, .rcd 6 [.str [39], .non, .int st, .int en], .unb, .unb]) rfl rfl hb
  clear hb
  rw [callF_code (fn := fn10) (ls := [.ref rd, .rcd 6 [.str [39], .non, .int st, .int en], .unb, .unb]) rfl rfl rfl]
  clear F T T' q1 q2 q3 cf hset
  exact eqr (s_ite (t_cmp (r_attr (r_loc rfl rfl) (a_c rfl)) q_lit rfl) (i_f rfl (k_nil (s_ite (t_cmp (r_attr (r_loc rfl rfl) (a_c rfl)) q_lit rfl) (i_f rfl (k_nil (s_for q_glb hsr hlp kr_r))))))) rfl rfl

theorem c_dot {rd af f : Nat} {st st0 en : Int} {H : AH} {e0 e1 th tl : AV} {fr : List AV} {t : Nat} {v : AV} {vs : List AV} (hr : H[rd]? = some (.inst 10 [e0, e1, .ref af])) (hf : H[af]? = some (.list (fr ++ [.ref f]))) (hl : fr.length ≤ 1000)
    (hff : H[f]? = some (frO wList st0 (.ref t) 0 tl)) (ht : H[t]? = some (.list (v :: vs))) (hvs : vs.length ≤ 1000) :
    cP 97 11 [.ref rd, .rcd 6 [.str [46], .non, .int st, .int en]] H = some (.non, H.set f (frO wList st0 (.ref t) 1 tl)) := by
  have hz : cmpV H .eq (.ref af) (.lst []) = some false := z_cons hf (by simp) (by simp; lia)
  have hz2 : cmpV H .eq (.ref t) (.lst []) = some false := z_cons ht (by simp) (by simp; lia)
  have hgl : (fr ++ [AV.ref f]).getLast? = some (.ref f) := by simp
  rw [callF_code (fn := fn11) (ls := [.ref rd, .rcd 6 [.str [46], .non, .int st, .int en], .unb]) rfl rfl rfl]
  exact eqn (s_ite (t_cmp (r_attr (r_loc rfl rfl) (a_r hr rfl)) (r_lstF q_nil) hz) (i_f rfl (k_nil (x_asg (r_sub (r_attr (r_loc rfl rfl) (a_r hr rfl)) q_nint (u_m hf hgl)) rfl (s_ite (t_or (t_cmp (r_attr (r_loc rfl rfl) (a_r hff rfl)) q_lit rfl) (i_f rfl (t_or (t_cmp (r_attr (r_loc rfl rfl) (a_r hff rfl)) (r_lstF q_nil) hz2) (i_f rfl (t_or (t_cmp (r_attr (r_loc rfl rfl) (a_r hff rfl)) q_glb rfl) (i_f rfl q_kf)))))) (i_f rfl (k_nil (s_asgA q_glb (r_loc rfl rfl) (sa_r hff rfl rfl rfl) q_snil)))))))) rfl rfl
end
section
noncomputable abbrev pairV (a b : AV) : AV := .rcd 3 [a, b, .non]
theorem c_list_of2 {n : Nat} {H : AH} {tv a b tl : AV} (ht : isU tv = false) (ha : isU a = false) (hb : isU b = false) (htl : isU tl = false) (hlen : biV H .len [tv] = some (.int 2, H)) (h1 : subV H tv (.int 1) = some b) (h0 : subV H tv (.int 0) = some a) :
    cP (n + 4) 33 [tv, tl] H = some (pairV a (pairV b tl), H) := by
  have hr : biV H .range [.int 1, .int (-1), .int (-1)] = some (.rng 1 (-1) 2, H) := rfl
  have hs : srcOf (.rng 1 (-1) 2) = some (.items [.int 1, .int 0]) := rfl
  have cp := @c_Pair (n + 2) H b tl hb htl
  have cp2 := @c_Pair (n + 2) H a (pairV b tl) ha rfl
  have t1 : evS (cP (n + 3)) (n + 3) f33_1b [tv, tl, tl, .int 1] H = some (.nxt, [tv, tl, pairV b tl, .int 1], H) := by exact eqs (x_asg (r_call (r_cons (r_sub (r_loc rfl ht) (r_loc rfl rfl) h1) (r_cons (r_loc rfl htl) q_nil)) cp) rfl q_snil) rfl rfl rfl
  have t2 : evS (cP (n + 3)) (n + 3) f33_1b [tv, tl, pairV b tl, .int 0] H = some (.nxt, [tv, tl, pairV a (pairV b tl), .int 0], H) := by exact eqs (x_asg (r_call (r_cons (r_sub (r_loc rfl ht) (r_loc rfl rfl) h0) (r_cons (r_loc rfl rfl) q_nil)) cp2) rfl q_snil) rfl rfl rfl
  have L : loopF (.items [.int 1, .int 0]) (.one 3) (evS (cP (n + 3)) (n + 3) f33_1b) (n + 3) 0 [tv, tl, tl, .unb] H = _ := f_turn rfl rfl t1 (f_turn rfl rfl t2 (f_end rfl))
  have e1 : (2 : Int) - 1 = 1 := rfl
  rw [callF_code (fn := fn33) (ls := [tv, tl, .unb, .unb]) rfl rfl rfl]
  clear t1 t2
  exact eqr (x_asg (r_loc rfl htl) rfl (s_for (r_bi (r_cons (r_bin (r_bi (r_cons (r_loc rfl ht) q_nil) hlen) q_lit (p_sb e1)) (r_cons q_nint (r_cons q_nint q_nil))) hr) hs L (kr_n (x_ret (r_loc rfl rfl))))) rfl rfl
theorem c_list_of1 {n : Nat} {H : AH} {tv a tl : AV} (ht : isU tv = false) (ha : isU a = false) (htl : isU tl = false) (hlen : biV H .len [tv] = some (.int 1, H)) (h0 : subV H tv (.int 0) = some a) :
    cP (n + 4) 33 [tv, tl] H = some (pairV a tl, H) := by
  have hr : biV H .range [.int 0, .int (-1), .int (-1)] = some (.rng 0 (-1) 1, H) := rfl
  have hs : srcOf (.rng 0 (-1) 1) = some (.items [.int 0]) := rfl
  have cp2 := @c_Pair (n + 2) H a tl ha htl
  have t2 : evS (cP (n + 3)) (n + 3) f33_1b [tv, tl, tl, .int 0] H = some (.nxt, [tv, tl, pairV a tl, .int 0], H) := by exact eqs (x_asg (r_call (r_cons (r_sub (r_loc rfl ht) (r_loc rfl rfl) h0) (r_cons (r_loc rfl htl) q_nil)) cp2) rfl q_snil) rfl rfl rfl
  have L : loopF (.items [.int 0]) (.one 3) (evS (cP (n + 3)) (n + 3) f33_1b) (n + 3) 0 [tv, tl, tl, .unb] H = _ := f_turn rfl rfl t2 (f_end rfl)
  have e1 : (1 : Int) - 1 = 0 := rfl
  rw [callF_code (fn := fn33) (ls := [tv, tl, .unb, .unb]) rfl rfl rfl]
  clear t2
  exact eqr (x_asg (r_loc rfl htl) rfl (s_for (r_bi (r_cons (r_bin (r_bi (r_cons (r_loc rfl ht) q_nil) hlen) q_lit (p_sb e1)) (r_cons q_nint (r_cons q_nint q_nil))) hr) hs L (kr_n (x_ret (r_loc rfl rfl))))) rfl rfl
theorem c_list_of_dflt {n : Nat} {H : AH} {tv : AV} : cP (n + 1) 33 [tv] H = cP (n + 1) 33 [tv, .spc 0] H := by kernel_rfl

noncomputable def QF (H : AH) (q : Nat × Nat) : Prop := ∃ st, H[q.1]? = some (frO wQuot st (.lst [.ref q.2]) 0 (.spc 0))
noncomputable abbrev quoV (a : Nat) (V : AV) : AV := pairV (.ref a) (pairV V (.spc 0))
noncomputable def wrapQ : List (Nat × Nat) → AV → AV
  | [], V => V
  | q :: qs, V => quoV q.2 (wrapQ qs V)
theorem wrapQ_app (q : Nat × Nat) (V : AV) : ∀ qs, wrapQ (qs ++ [q]) V = wrapQ qs (quoV q.2 V)
  | [] => rfl
  | p :: qs => by simp [wrapQ, wrapQ_app q V qs]
theorem wrapQ_isU {V : AV} (h : isU V = false) : ∀ qs, isU (wrapQ qs V) = false
  | [] => h
  | _ :: _ => rfl
noncomputable abbrev qrefs (qs : List (Nat × Nat)) : List AV := qs.map fun q => .ref q.1

theorem c_quoted {rd af : Nat} {H : AH} {e0 e1 V : AV} {fr : List AV} {q : Nat × Nat} (hr : H[rd]? = some (.inst 10 [e0, e1, .ref af])) (hf : H[af]? = some (.list (fr ++ [.ref q.1]))) (hl : fr.length ≤ 1000) (hq : QF H q) (hV : isU V = false) :
    cP 96 9 [.ref rd, V] H = some (quoV q.2 V, H.set af (.list fr)) := by
  obtain ⟨st, hq⟩ := hq
  have n1 : af ≠ q.1 := ne_of hf hq (by simp)
  have hl' : fr.length + 1 ≤ 10000 := by lia
  have hq2 : (H.set af (.list fr))[q.1]? = some (frO wQuot st (.lst [.ref q.2]) 0 (.spc 0)) := by rw [List.getElem?_set_ne n1]; exact hq
  have e := @c_list_of2 91 (H.set af (.list fr)) (.lst [.ref q.2, V]) (.ref q.2) V (.spc 0) rfl rfl hV rfl rfl rfl rfl
  rw [← c_list_of_dflt] at e
  rw [callF_code (fn := fn9) (ls := [.ref rd, V, .unb]) rfl rfl rfl]
  exact eqr (x_asg (r_meth (r_attr (r_loc rfl rfl) (a_r hr rfl)) (rv_po hf) q_nil (po_r hf hl' rfl)) rfl (x_ret (r_call (r_cons (r_lstF (r_cons (r_sub (r_attr (r_loc rfl rfl) (a_r hq2 rfl)) q_lit (u_l rfl ⟨(by decide), (by decide)⟩)) (r_cons (r_loc rfl hV) q_nil))) q_nil) e))) rfl rfl

theorem l_count {rd af m : Nat} {H : AH} {e0 e1 V sv fd x : AV} {base : List AV} {qs : List (Nat × Nat)} (hr : H[rd]? = some (.inst 10 [e0, e1, .ref af])) (hf : H[af]? = some (.list (base ++ qrefs qs))) (hl : base.length + qs.length ≤ 1000) (hq : ∀ q ∈ qs, QF H q) :
    ∀ j, j ≤ qs.length → loopW (evT (cP 96) 96 w14_1t) (evS (cP 96) 96 w14_1b) (m + j) [.ref rd, V, sv, fd, .int ((base.length + j : Nat) : Int), x] H = loopW (evT (cP 96) 96 w14_1t) (evS (cP 96) 96 w14_1b) m [.ref rd, V, sv, fd, .int (base.length : Nat), x] H := by
  intro j
  induction j with
  | zero => intro _; rfl
  | succ j ih =>
    intro hj
    rw [← ih (by lia)]
    have hin : qs[j]? = some qs[j] := List.getElem?_eq_getElem (by lia)
    obtain ⟨st, hqj⟩ := hq qs[j] (List.getElem_mem ..)
    have hgt : decide ((0 : Int) < ((base.length + (j + 1) : Nat) : Int)) = true := by simp; lia
    have hm1 : ((base.length + (j + 1) : Nat) : Int) - 1 = ((base.length + j : Nat) : Int) := by lia
    have hget : (base ++ qrefs qs)[base.length + j]? = some (.ref qs[j].1) := by simp [List.getElem?_append, hin]
    have hb : base.length + j < 10000 := by lia
    clear ih hq
    refine w_turn (H1 := H) (H2 := H) (ls1 := [.ref rd, V, sv, fd, .int ((base.length + j : Nat) : Int), x]) ?_ ?_ rfl
    · exact eqv (t_and (t_cmp (r_loc rfl rfl) q_lit rfl) (i_t hgt (t_and (t_cmp (r_attr (r_sub (r_attr (r_loc rfl rfl) (a_r hr rfl)) (r_bin (r_loc rfl rfl) q_lit (p_sb hm1)) (u_r hf hget ⟨(by lia), (by lia)⟩)) (a_r hqj rfl)) q_lit rfl) (i_t rfl q_kt)))) rfl rfl
    · exact eqs (x_asg (r_bin (r_loc rfl rfl) q_lit (p_sb hm1)) rfl q_snil) rfl rfl rfl

theorem l_wrap {rd af : Nat} {e0 e1 V0 sv x : AV} {base : List AV} : ∀ (n : Nat) {qs : List (Nat × Nat)} {V : AV} {H : AH} {m : Nat}, qs.length = n → H[rd]? = some (.inst 10 [e0, e1, .ref af]) → H[af]? = some (.list (base ++ qrefs qs)) → base.length + qs.length ≤ 1000 → (∀ q ∈ qs, QF H q) → isU V = false →
    loopW (evT (cP 96) 96 w14_2t) (evS (cP 96) 96 w14_2b) (m + n + 1) [.ref rd, V0, sv, V, .int (base.length : Nat), x] H = some (.nxt, [.ref rd, V0, sv, wrapQ qs V, .int (base.length : Nat), x], H.set af (.list base)) := by
  intro n
  induction n with
  | zero =>
    intro qs V H m hn hr hf hl hq hV
    obtain rfl : qs = [] := List.length_eq_zero_iff.mp hn
    simp only [qrefs, List.map_nil, List.append_nil] at hf
    rw [set_same hf]
    have hb : base.length ≤ 10000 := by simpa using (by simp at hl; lia : base.length ≤ 10000)
    have hgt : decide ((base.length : Int) < (base.length : Int)) = false := by simp
    clear hq
    exact w_end (by exact eqv (t_cmp (r_bi (r_cons (r_attr (r_loc rfl rfl) (a_r hr rfl)) q_nil) (ln_r hf hb)) (r_loc rfl rfl) rfl) hgt rfl)
  | succ n ih =>
    intro qs V H m hn hr hf hl hq hV
    rcases List.eq_nil_or_concat qs with rfl | ⟨qs', q, rfl⟩
    · simp at hn
    rw [List.concat_eq_append] at *
    have hn' : qs'.length = n := by simpa using hn
    have n1 : rd ≠ af := ne_of hr hf (by simp)
    simp only [List.length_append, List.length_singleton] at hl
    simp only [qrefs, List.map_append, List.map_cons, List.map_nil] at hf
    have hfa : H[af]? = some (.list ((base ++ qrefs qs') ++ [.ref q.1])) := by rw [hf, List.append_assoc]
    have e := c_quoted hr hfa (by simp; lia) (hq q (by simp)) hV
    have ee := @ih qs' (quoV q.2 V) (H.set af (.list (base ++ qrefs qs'))) m hn' (by rw [List.getElem?_set_ne n1.symm]; exact hr) (by rw [g_set, hf]; rfl) (by lia) (fun p hp => by
      obtain ⟨st, hp'⟩ := hq p (by simp [hp])
      exact ⟨st, by rw [List.getElem?_set_ne (ne_of hf hp' (by simp))]; exact hp'⟩) rfl
    rw [List.set_set, ← wrapQ_app] at ee
    have hlen : ((base ++ qrefs qs') ++ [AV.ref q.1]).length ≤ 10000 := by simp; lia
    have hgt : decide ((base.length : Int) < (((base ++ qrefs qs') ++ [AV.ref q.1]).length : Int)) = true := by simp; lia
    rw [show m + (n + 1) + 1 = (m + n + 1) + 1 by lia]
    clear ih hq hn hn'
    refine w_turn (H1 := H) ?_ ?_ ee
    · clear ee e hf
      exact eqv (t_cmp (r_bi (r_cons (r_attr (r_loc rfl rfl) (a_r hr rfl)) q_nil) (ln_r hfa hlen)) (r_loc rfl rfl) rfl) hgt rfl
    · clear ee hf
      exact eqs (x_asg (r_mown (r_loc rfl rfl) (q_r hr) (r_cons (r_loc rfl hV) q_nil) e) rfl q_snil) rfl rfl rfl
end
section
theorem after_item {rd af g t k : Nat} {H : AH} {e0 e1 V tl : AV} {fr things : List AV} {qs : List (Nat × Nat)} {w : List Nat} {st0 : Int} {R : AV × AH} (hr : H[rd]? = some (.inst 10 [e0, e1, .ref af])) (hf : H[af]? = some (.list ((fr ++ [.ref g]) ++ qrefs qs))) (hl : fr.length + 1 + qs.length ≤ 90) (hq : ∀ q ∈ qs, QF H q) (hV : isU V = false)
    (hg : H[g]? = some (frO w st0 (.ref t) 0 tl)) (hw : w ≠ wQuot) (ht : H[t]? = some (.list things)) (htl : things.length ≤ 1000) (hn : af ≠ t)
    (h : Runs rd k ((H.set af (.list (fr ++ [.ref g]))).set t (.list (things ++ [wrapQ qs V]))) R) : After rd k V H R := by
  intro st
  have n1 : rd ≠ af := ne_of hr hf (by simp)
  have n2 : rd ≠ t := ne_of hr ht (by simp)
  have n3 : af ≠ g := ne_of hf hg (by simp)
  refine ⟨false, _, ?_, ?_, h⟩
  · have hbl : (fr ++ [AV.ref g]).length = fr.length + 1 := by simp
    have hL1 := @l_count rd af (96 - qs.length) H e0 e1 V (.int st) V .unb (fr ++ [.ref g]) qs hr hf (by lia) hq qs.length (Nat.le_refl _)
    rw [show 96 - qs.length + qs.length = 96 by lia] at hL1
    have hgt : decide ((0 : Int) < ((fr.length + 1 : Nat) : Int)) = true := decide_eq_true (by lia)
    have hm1 : ((fr.length + 1 : Nat) : Int) - 1 = (fr.length : Nat) := by lia
    have hget : ((fr ++ [AV.ref g]) ++ qrefs qs)[fr.length]? = some (.ref g) := by simp
    have hb : fr.length < 10000 := by lia
    have hend : loopW (evT (cP 96) 96 w14_1t) (evS (cP 96) 96 w14_1b) (96 - qs.length) [.ref rd, V, .int st, V, .int ((fr ++ [AV.ref g]).length : Nat), .unb] H = some (.nxt, [.ref rd, V, .int st, V, .int ((fr ++ [AV.ref g]).length : Nat), .unb], H) := by
      rw [show 96 - qs.length = (95 - qs.length) + 1 by lia]
      rw [hbl]
      clear hL1 h hq
      refine w_end ?_
      exact eqv (t_and (t_cmp (r_loc rfl rfl) q_lit rfl) (i_t hgt (t_and (t_cmp (r_attr (r_sub (r_attr (r_loc rfl rfl) (a_r hr rfl)) (r_bin (r_loc rfl rfl) q_lit (p_sb hm1)) (u_r hf hget ⟨(by lia), (by lia)⟩)) (a_r hg rfl)) q_lit rfl) (i_f (decide_eq_false hw) rfl)))) rfl rfl
    rw [hend, hbl] at hL1
    have hL2 := @l_wrap rd af e0 e1 V (.int st) .unb (fr ++ [.ref g]) qs.length qs V H (95 - qs.length) rfl hr hf (by lia) hq hV
    rw [show 95 - qs.length + qs.length + 1 = 96 by lia, hbl] at hL2
    have hlen : ((fr ++ [AV.ref g]) ++ qrefs qs).length = fr.length + 1 + qs.length := by simp; lia
    rw [← hlen] at hL1
    have hlen2 : ((fr ++ [AV.ref g]) ++ qrefs qs).length ≤ 10000 := by rw [hlen]; lia
    have hne0 : decide (((fr.length + 1 : Nat) : Int) = 0) = false := decide_eq_false (by lia)
    have hr2 : (H.set af (.list (fr ++ [.ref g])))[rd]? = some (.inst 10 [e0, e1, .ref af]) := by rw [List.getElem?_set_ne n1.symm]; exact hr
    have hf2 : (H.set af (.list (fr ++ [.ref g])))[af]? = some (.list (fr ++ [.ref g])) := by rw [g_set, hf]; rfl
    have hg2 : (H.set af (.list (fr ++ [.ref g])))[g]? = some (frO w st0 (.ref t) 0 tl) := by rw [List.getElem?_set_ne n3]; exact hg
    have ht2 : (H.set af (.list (fr ++ [.ref g])))[t]? = some (.list things) := by rw [List.getElem?_set_ne hn]; exact ht
    have htl' : things.length ≤ 10000 := by lia
    have hgl : (fr ++ [AV.ref g]).getLast? = some (.ref g) := by simp
    have hUw := wrapQ_isU hV qs
    have d2 : decide ((0 : Int) = 2) = false := by decide
    have d1 : decide ((0 : Int) = 1) = false := by decide
    rw [callF_code (fn := fn14) (ls := [.ref rd, V, .int st, .unb, .unb, .unb]) rfl rfl rfl]
    clear hend hq h
    exact eqr (x_asg (r_loc rfl hV) rfl (x_asg (r_bi (r_cons (r_attr (r_loc rfl rfl) (a_r hr rfl)) q_nil) (ln_r hf hlen2)) rfl (s_whl hL1 (kr_n (s_ite (t_cmp (r_loc rfl rfl) q_lit rfl) (i_f hne0 (k_nil (s_whl hL2 (kr_n (x_asg (r_sub (r_attr (r_loc rfl rfl) (a_r hr2 rfl)) q_nint (u_m hf2 hgl)) rfl (s_ite (t_cmp (r_attr (r_loc rfl rfl) (a_r hg2 rfl)) q_glb rfl) (i_f d2 (k_nil (s_ite (t_cmp (r_attr (r_loc rfl rfl) (a_r hg2 rfl)) q_glb rfl) (i_f d1 (k_any (s_expr (r_meth (r_attr (r_loc rfl rfl) (a_r hg2 rfl)) (rv_ap ht2) (r_cons (r_loc rfl hUw) q_nil) (ap_r ht2 htl' rfl rfl)) q_snil) (kr_n (x_ret q_lit)))))))))))))))))) rfl rfl
  · rw [List.getElem?_set_ne n2.symm, List.getElem?_set_ne n1.symm]

theorem after_tail {rd af g k : Nat} {H : AH} {e0 e1 V tl th : AV} {fr : List AV} {qs : List (Nat × Nat)} {w : List Nat} {st0 : Int} {R : AV × AH} (hr : H[rd]? = some (.inst 10 [e0, e1, .ref af])) (hf : H[af]? = some (.list ((fr ++ [.ref g]) ++ qrefs qs))) (hl : fr.length + 1 + qs.length ≤ 90) (hq : ∀ q ∈ qs, QF H q) (hV : isU V = false)
    (hg : H[g]? = some (frO w st0 th 1 tl)) (hw : w ≠ wQuot)
    (h : Runs rd k ((H.set af (.list (fr ++ [.ref g]))).set g (frO w st0 th 2 (wrapQ qs V))) R) : After rd k V H R := by
  intro st
  have n1 : rd ≠ af := ne_of hr hf (by simp)
  have n2 : rd ≠ g := ne_of hr hg (by simp)
  have n3 : af ≠ g := ne_of hf hg (by simp)
  refine ⟨false, _, ?_, ?_, h⟩
  · have hbl : (fr ++ [AV.ref g]).length = fr.length + 1 := by simp
    have hL1 := @l_count rd af (96 - qs.length) H e0 e1 V (.int st) V .unb (fr ++ [.ref g]) qs hr hf (by lia) hq qs.length (Nat.le_refl _)
    rw [show 96 - qs.length + qs.length = 96 by lia] at hL1
    have hgt : decide ((0 : Int) < ((fr.length + 1 : Nat) : Int)) = true := decide_eq_true (by lia)
    have hm1 : ((fr.length + 1 : Nat) : Int) - 1 = (fr.length : Nat) := by lia
    have hget : ((fr ++ [AV.ref g]) ++ qrefs qs)[fr.length]? = some (.ref g) := by simp
    have hb : fr.length < 10000 := by lia
    have hend : loopW (evT (cP 96) 96 w14_1t) (evS (cP 96) 96 w14_1b) (96 - qs.length) [.ref rd, V, .int st, V, .int ((fr ++ [AV.ref g]).length : Nat), .unb] H = some (.nxt, [.ref rd, V, .int st, V, .int ((fr ++ [AV.ref g]).length : Nat), .unb], H) := by
      rw [show 96 - qs.length = (95 - qs.length) + 1 by lia]
      rw [hbl]
      clear hL1 h hq
      refine w_end ?_
      exact eqv (t_and (t_cmp (r_loc rfl rfl) q_lit rfl) (i_t hgt (t_and (t_cmp (r_attr (r_sub (r_attr (r_loc rfl rfl) (a_r hr rfl)) (r_bin (r_loc rfl rfl) q_lit (p_sb hm1)) (u_r hf hget ⟨(by lia), (by lia)⟩)) (a_r hg rfl)) q_lit rfl) (i_f (decide_eq_false hw) rfl)))) rfl rfl
    rw [hend, hbl] at hL1
    have hL2 := @l_wrap rd af e0 e1 V (.int st) .unb (fr ++ [.ref g]) qs.length qs V H (95 - qs.length) rfl hr hf (by lia) hq hV
    rw [show 95 - qs.length + qs.length + 1 = 96 by lia, hbl] at hL2
    have hlen : ((fr ++ [AV.ref g]) ++ qrefs qs).length = fr.length + 1 + qs.length := by simp; lia
    rw [← hlen] at hL1
    have hlen2 : ((fr ++ [AV.ref g]) ++ qrefs qs).length ≤ 10000 := by rw [hlen]; lia
    have hne0 : decide (((fr.length + 1 : Nat) : Int) = 0) = false := decide_eq_false (by lia)
    have hr2 : (H.set af (.list (fr ++ [.ref g])))[rd]? = some (.inst 10 [e0, e1, .ref af]) := by rw [List.getElem?_set_ne n1.symm]; exact hr
    have hf2 : (H.set af (.list (fr ++ [.ref g])))[af]? = some (.list (fr ++ [.ref g])) := by rw [g_set, hf]; rfl
    have hg2 : (H.set af (.list (fr ++ [.ref g])))[g]? = some (frO w st0 th 1 tl) := by rw [List.getElem?_set_ne n3]; exact hg
    have hgl : (fr ++ [AV.ref g]).getLast? = some (.ref g) := by simp
    have hUw := wrapQ_isU hV qs
    have d2 : decide ((1 : Int) = 2) = false := by decide
    have d1 : decide ((1 : Int) = 1) = true := by decide
    rw [callF_code (fn := fn14) (ls := [.ref rd, V, .int st, .unb, .unb, .unb]) rfl rfl rfl]
    clear hend hq h
    exact eqr (x_asg (r_loc rfl hV) rfl (x_asg (r_bi (r_cons (r_attr (r_loc rfl rfl) (a_r hr rfl)) q_nil) (ln_r hf hlen2)) rfl (s_whl hL1 (kr_n (s_ite (t_cmp (r_loc rfl rfl) q_lit rfl) (i_f hne0 (k_nil (s_whl hL2 (kr_n (x_asg (r_sub (r_attr (r_loc rfl rfl) (a_r hr2 rfl)) q_nint (u_m hf2 hgl)) rfl (s_ite (t_cmp (r_attr (r_loc rfl rfl) (a_r hg2 rfl)) q_glb rfl) (i_f d2 (k_nil (s_ite (t_cmp (r_attr (r_loc rfl rfl) (a_r hg2 rfl)) q_glb rfl) (i_t d1 (k_any (s_asgA (r_loc rfl hUw) (r_loc rfl rfl) (sa_r hg2 rfl rfl rfl) (s_asgA q_glb (r_loc rfl rfl) (sa_r (g_self hg2) rfl rfl (List.set_set ..)) q_snil)) (kr_n (x_ret q_lit)))))))))))))))))) rfl rfl
  · rw [List.getElem?_set_ne n2.symm, List.getElem?_set_ne n1.symm]

theorem l_last {rd af : Nat} {e0 e1 V0 : AV} : ∀ (n : Nat) {qs : List (Nat × Nat)} {V : AV} {H : AH} {m : Nat}, qs.length = n → H[rd]? = some (.inst 10 [e0, e1, .ref af]) → H[af]? = some (.list (qrefs qs)) → qs.length ≤ 1000 → (∀ q ∈ qs, QF H q) → isU V = false →
    loopW (evT (cP 96) 96 w8_1t) (evS (cP 96) 96 w8_1b) (m + n + 1) [.ref rd, V0, V] H = some (.nxt, [.ref rd, V0, wrapQ qs V], H.set af (.list [])) := by
  intro n
  induction n with
  | zero =>
    intro qs V H m hn hr hf hl hq hV
    obtain rfl : qs = [] := List.length_eq_zero_iff.mp hn
    simp only [qrefs, List.map_nil] at hf
    rw [set_same hf]
    have hz : cmpV H .ne (.ref af) (.lst []) = some false := by rw [z_ne, z_nil hf]; rfl
    clear hq
    exact w_end (by exact eqv (t_cmp (r_attr (r_loc rfl rfl) (a_r hr rfl)) (r_lstF q_nil) hz) rfl rfl)
  | succ n ih =>
    intro qs V H m hn hr hf hl hq hV
    rcases List.eq_nil_or_concat qs with rfl | ⟨qs', q, rfl⟩
    · simp at hn
    rw [List.concat_eq_append] at *
    have hn' : qs'.length = n := by simpa using hn
    have n1 : rd ≠ af := ne_of hr hf (by simp)
    simp only [List.length_append, List.length_singleton] at hl
    have hz : cmpV H .ne (.ref af) (.lst []) = some true := by rw [z_ne, z_cons hf (by simp) (by simp; lia)]; rfl
    simp only [qrefs, List.map_append, List.map_cons, List.map_nil] at hf
    have e := c_quoted hr hf (by simp; lia) (hq q (by simp)) hV
    have ee := @ih qs' (quoV q.2 V) (H.set af (.list (qrefs qs'))) m hn' (by rw [List.getElem?_set_ne n1.symm]; exact hr) (by rw [g_set, hf]; rfl) (by lia) (fun p hp => by
      obtain ⟨st, hp'⟩ := hq p (by simp [hp])
      exact ⟨st, by rw [List.getElem?_set_ne (ne_of hf hp' (by simp))]; exact hp'⟩) rfl
    rw [List.set_set, ← wrapQ_app] at ee
    rw [show m + (n + 1) + 1 = (m + n + 1) + 1 by lia]
    clear ih hq hn hn'
    refine w_turn (H1 := H) ?_ ?_ ee
    · clear ee e hf
      exact eqv (t_cmp (r_attr (r_loc rfl rfl) (a_r hr rfl)) (r_lstF q_nil) hz) rfl rfl
    · clear ee hf
      exact eqs (x_asg (r_mown (r_loc rfl rfl) (q_r hr) (r_cons (r_loc rfl hV) q_nil) e) rfl q_snil) rfl rfl rfl

theorem after_top {rd af k : Nat} {H : AH} {e0 e1 V : AV} {qs : List (Nat × Nat)} (hr : H[rd]? = some (.inst 10 [e0, e1, .ref af])) (hf : H[af]? = some (.list (qrefs qs))) (hl : qs.length ≤ 90) (hq : ∀ q ∈ qs, QF H q) (hV : isU V = false) :
    After rd k V H (wrapQ qs V, H.set af (.list [])) := by
  intro st
  refine ⟨true, H, ?_, rfl, ?_⟩
  · have hL1 := @l_count rd af (96 - qs.length) H e0 e1 V (.int st) V .unb [] qs hr hf (by simp; lia) hq qs.length (Nat.le_refl _)
    rw [show 96 - qs.length + qs.length = 96 by lia] at hL1
    have hgt : decide ((0 : Int) < 0) = false := by decide
    have hend : loopW (evT (cP 96) 96 w14_1t) (evS (cP 96) 96 w14_1b) (96 - qs.length) [.ref rd, V, .int st, V, .int 0, .unb] H = some (.nxt, [.ref rd, V, .int st, V, .int 0, .unb], H) := by
      rw [show 96 - qs.length = (95 - qs.length) + 1 by lia]
      clear hL1 hq
      refine w_end ?_
      exact eqv (t_and (t_cmp (r_loc rfl rfl) q_lit rfl) (i_f hgt rfl)) rfl rfl
    simp only [List.length_nil, Nat.zero_add] at hL1
    rw [show (((0 : Nat) : Int)) = 0 from rfl, hend] at hL1
    have hlen : (qrefs qs).length = qs.length := by simp
    rw [← hlen] at hL1
    have hlen2 : (qrefs qs).length ≤ 10000 := by rw [hlen]; lia
    have hne0 : decide ((0 : Int) = 0) = true := by decide
    rw [callF_code (fn := fn14) (ls := [.ref rd, V, .int st, .unb, .unb, .unb]) rfl rfl rfl]
    clear hend hq
    exact eqr (x_asg (r_loc rfl hV) rfl (x_asg (r_bi (r_cons (r_attr (r_loc rfl rfl) (a_r hr rfl)) q_nil) (ln_r hf hlen2)) rfl (s_whl hL1 (kr_n (s_ite (t_cmp (r_loc rfl rfl) q_lit rfl) (i_t hne0 (k_any (x_ret q_lit) kr_r))))))) rfl rfl
  · have hL := @l_last rd af e0 e1 V qs.length qs V H (95 - qs.length) rfl hr hf (by lia) hq hV
    rw [show 95 - qs.length + qs.length + 1 = 96 by lia] at hL
    have hUw := wrapQ_isU hV qs
    simp only [if_true]
    rw [callF_code (fn := fn8) (ls := [.ref rd, V, .unb]) rfl rfl rfl]
    clear hq
    exact eqr (x_asg (r_loc rfl hV) rfl (s_whl hL (kr_n (x_ret (r_loc rfl hUw))))) rfl rfl
end
section
theorem c_closed_vec {rd af f : Nat} {st st0 en : Int} {H : AH} {e0 e1 th tl : AV} {fr : List AV} (hr : H[rd]? = some (.inst 10 [e0, e1, .ref af])) (hf : H[af]? = some (.list (fr ++ [.ref f]))) (hl : fr.length ≤ 1000)
    (hff : H[f]? = some (frO wVec st0 th 0 tl)) (hth : isU th = false) :
    cP 97 12 [.ref rd, .rcd 6 [.str [41], .non, .int st, .int en]] H = some (.rcd 5 [th, .non], H.set af (.list fr)) := by
  have hz : cmpV H .eq (.ref af) (.lst []) = some false := z_cons hf (by simp) (by simp; lia)
  have hgl : (fr ++ [AV.ref f]).getLast? = some (.ref f) := by simp
  have n1 : af ≠ f := ne_of hf hff (by simp)
  have hf2 : (H.set af (.list fr))[f]? = some (frO wVec st0 th 0 tl) := by rw [List.getElem?_set_ne n1]; exact hff
  have hp : fr.length + 1 ≤ 10000 := by lia
  have d2 : decide ((0 : Int) = 1) = false := by decide
  have cv := @c_Vector 95 (H.set af (.list fr)) th hth
  rw [callF_code (fn := fn12) (ls := [.ref rd, .rcd 6 [.str [41], .non, .int st, .int en], .unb]) rfl rfl rfl]
  exact eqr (s_ite (t_cmp (r_attr (r_loc rfl rfl) (a_r hr rfl)) (r_lstF q_nil) hz) (i_f rfl (k_nil (x_asg (r_sub (r_attr (r_loc rfl rfl) (a_r hr rfl)) q_nint (u_m hf hgl)) rfl (s_ite (t_cmp (r_attr (r_loc rfl rfl) (a_r hff rfl)) q_lit rfl) (i_f rfl (k_nil (s_ite (t_cmp (r_attr (r_loc rfl rfl) (a_r hff rfl)) q_glb rfl) (i_f d2 (k_nil (s_expr (r_meth (r_attr (r_loc rfl rfl) (a_r hr rfl)) (rv_po hf) q_nil (po_r hf hp rfl)) (s_ite (t_cmp (r_attr (r_loc rfl rfl) (a_r hf2 rfl)) q_lit rfl) (i_t rfl (k_any (x_ret (r_call (r_cons (r_attr (r_loc rfl rfl) (a_r hf2 rfl)) q_nil) cv)) kr_r)))))))))))))) rfl rfl
theorem c_closed_list {rd af f : Nat} {st st0 en s : Int} {H : AH} {e0 e1 th tl V : AV} {fr : List AV} (hr : H[rd]? = some (.inst 10 [e0, e1, .ref af])) (hf : H[af]? = some (.list (fr ++ [.ref f]))) (hl : fr.length ≤ 1000)
    (hff : H[f]? = some (frO wList st0 th s tl)) (hs : s ≠ 1) (hth : isU th = false) (htl : isU tl = false)
    (hlo : cP 96 33 [th, tl] (H.set af (.list fr)) = some (V, H.set af (.list fr))) :
    cP 97 12 [.ref rd, .rcd 6 [.str [41], .non, .int st, .int en]] H = some (V, H.set af (.list fr)) := by
  have hz : cmpV H .eq (.ref af) (.lst []) = some false := z_cons hf (by simp) (by simp; lia)
  have hgl : (fr ++ [AV.ref f]).getLast? = some (.ref f) := by simp
  have n1 : af ≠ f := ne_of hf hff (by simp)
  have hf2 : (H.set af (.list fr))[f]? = some (frO wList st0 th s tl) := by rw [List.getElem?_set_ne n1]; exact hff
  have hp : fr.length + 1 ≤ 10000 := by lia
  have d2 : decide (s = 1) = false := by simp [hs]
  rw [callF_code (fn := fn12) (ls := [.ref rd, .rcd 6 [.str [41], .non, .int st, .int en], .unb]) rfl rfl rfl]
  exact eqr (s_ite (t_cmp (r_attr (r_loc rfl rfl) (a_r hr rfl)) (r_lstF q_nil) hz) (i_f rfl (k_nil (x_asg (r_sub (r_attr (r_loc rfl rfl) (a_r hr rfl)) q_nint (u_m hf hgl)) rfl (s_ite (t_cmp (r_attr (r_loc rfl rfl) (a_r hff rfl)) q_lit rfl) (i_f rfl (k_nil (s_ite (t_cmp (r_attr (r_loc rfl rfl) (a_r hff rfl)) q_glb rfl) (i_f d2 (k_nil (s_expr (r_meth (r_attr (r_loc rfl rfl) (a_r hr rfl)) (rv_po hf) q_nil (po_r hf hp rfl)) (s_ite (t_cmp (r_attr (r_loc rfl rfl) (a_r hf2 rfl)) q_lit rfl) (i_f rfl (k_nil (x_ret (r_call (r_cons (r_attr (r_loc rfl rfl) (a_r hf2 rfl)) (r_cons (r_attr (r_loc rfl rfl) (a_r hf2 rfl)) q_nil)) hlo)))))))))))))))) rfl rfl
theorem c_atom_val {rd : Nat} {u : List Nat} {x : AV} {st en : Int} {H : AH} (hu : u ≠ [115, 121, 109, 98, 111, 108]) (hx : isU x = false) :
    cP 97 13 [.ref rd, .rcd 6 [.str u, x, .int st, .int en]] H = some (x, H) := by
  rw [callF_code (fn := fn13) (ls := [.ref rd, .rcd 6 [.str u, x, .int st, .int en]]) rfl rfl rfl]
  exact eqr (x_ret (r_ifx (t_cmp (r_attr (r_loc rfl rfl) (a_c rfl)) q_lit rfl) (i_f (decide_eq_false hu) (r_attr (r_loc rfl rfl) (a_c rfl))))) rfl rfl
theorem c_atom_sym {rd tb rows dict a : Nat} {v : List Nat} {st en : Int} {H H' : AH} {e0 e2 : AV} (hr : H[rd]? = some (.inst 10 [e0, .ref tb, e2])) (ht : H[tb]? = some (.inst 1 [.ref rows, .ref dict])) (hc : cP 96 28 [.ref tb, .str v] H = some (.ref a, H')) :
    cP 97 13 [.ref rd, .rcd 6 [.str [115, 121, 109, 98, 111, 108], .str v, .int st, .int en]] H = some (.ref a, H') := by
  rw [callF_code (fn := fn13) (ls := [.ref rd, .rcd 6 [.str [115, 121, 109, 98, 111, 108], .str v, .int st, .int en]]) rfl rfl rfl]
  exact eqr (x_ret (r_ifx (t_cmp (r_attr (r_loc rfl rfl) (a_c rfl)) q_lit rfl) (i_t rfl (r_mown (r_attr (r_loc rfl rfl) (a_r hr rfl)) (q_r ht) (r_cons (r_attr (r_loc rfl rfl) (a_c rfl)) q_nil) hc)))) rfl rfl

inductive Dat where
  | sym (v : List Nat) (up : Bool) | num (i : Int) | txt
  | quo (d : Dat) | vec (a b : Dat) | lst (a b : Dat) | dot (a b : Dat)
noncomputable abbrev names5 : List (List Nat) := [[97], [98], [97, 98], sQuote, [120]]
noncomputable def Dat.ok : Dat → Prop
  | .sym v _ => v ∈ names5
  | .num i => -20 ≤ i ∧ i < 20
  | .txt => True
  | .quo d => d.ok
  | .vec a b => a.ok ∧ b.ok
  | .lst a b => a.ok ∧ b.ok
  | .dot a b => a.ok ∧ b.ok
noncomputable def symText (v : List Nat) (up : Bool) : List Nat := if up then strL (Txt.upper (strS v)) else v
noncomputable def numText (i : Int) : List Nat := strL (Str.ofString (toString i))
noncomputable def Dat.text : Dat → List Nat
  | .sym v up => symText v up
  | .num i => numText i
  | .txt => [34, 97, 32, 98, 34]
  | .quo d => 39 :: d.text
  | .vec a b => 35 :: 40 :: (a.text ++ (32 :: (b.text ++ [41])))
  | .lst a b => 40 :: (a.text ++ (10 :: 32 :: (b.text ++ [32, 41])))
  | .dot a b => 40 :: (a.text ++ (32 :: 46 :: 32 :: (b.text ++ [41])))
noncomputable def Dat.names : Dat → List (List Nat)
  | .sym v _ => [v]
  | .num _ => []
  | .txt => []
  | .quo d => sQuote :: d.names
  | .vec a b => a.names ++ b.names
  | .lst a b => a.names ++ b.names
  | .dot a b => a.names ++ b.names
noncomputable def Dat.toks : Dat → Nat
  | .sym _ _ => 1
  | .num _ => 1
  | .txt => 1
  | .quo d => d.toks + 1
  | .vec a b => a.toks + b.toks + 2
  | .lst a b => a.toks + b.toks + 2
  | .dot a b => a.toks + b.toks + 3
noncomputable def Dat.deep : Dat → Nat
  | .sym _ _ => 0
  | .num _ => 0
  | .txt => 0
  | .quo d => d.deep + 1
  | .vec a b => max a.deep b.deep + 1
  | .lst a b => max a.deep b.deep + 1
  | .dot a b => max a.deep b.deep + 1

theorem tok_sym {v : List Nat} {up : Bool} (h : v ∈ names5) : Tok (symText v up) [115, 121, 109, 98, 111, 108] (.str v) := by
  simp only [names5, List.mem_cons, List.not_mem_nil, or_false] at h
  rcases h with rfl | rfl | rfl | rfl | rfl <;> cases up <;> exact .sym (by decide +kernel) (fun H => by kernel_rfl)
theorem tok_own {w : List Nat} {i : Int} (hw : wordB w w = true) (hid : ∀ H, cP 95 26 [.str w] H = some (.bool false, H)) (hlike : ∀ H, cP 95 27 [.str w] H = some (.bool true, H)) (hnum : ∀ H, cP 94 34 [.int 53, .str w, .int 10] H = some (.int i, H)) : Tok w [110, 117, 109, 98, 101, 114] (.int i) := .num hw hid hlike hnum
theorem tok_at : ∀ k : Nat, k < 40 → Tok (numText ((k : Int) - 20)) [110, 117, 109, 98, 101, 114] (.int ((k : Int) - 20))
  | 0, _ => tok_own (by decide +kernel) (fun H => by kernel_rfl) (fun H => by kernel_rfl) (fun H => by kernel_rfl)
  | 1, _ => tok_own (by decide +kernel) (fun H => by kernel_rfl) (fun H => by kernel_rfl) (fun H => by kernel_rfl)
  | 2, _ => tok_own (by decide +kernel) (fun H => by kernel_rfl) (fun H => by kernel_rfl) (fun H => by kernel_rfl)
  | 3, _ => tok_own (by decide +kernel) (fun H => by kernel_rfl) (fun H => by kernel_rfl) (fun H => by kernel_rfl)
  | 4, _ => tok_own (by decide +kernel) (fun H => by kernel_rfl) (fun H => by kernel_rfl) (fun H => by kernel_rfl)
  | 5, _ => tok_own (by decide +kernel) (fun H => by kernel_rfl) (fun H => by kernel_rfl) (fun H => by kernel_rfl)
  | 6, _ => tok_own (by decide +kernel) (fun H => by kernel_rfl) (fun H => by kernel_rfl) (fun H => by kernel_rfl)
  | 7, _ => tok_own (by decide +kernel) (fun H => by kernel_rfl) (fun H => by kernel_rfl) (fun H => by kernel_rfl)
  | 8, _ => tok_own (by decide +kernel) (fun H => by kernel_rfl) (fun H => by kernel_rfl) (fun H => by kernel_rfl)
  | 9, _ => tok_own (by decide +kernel) (fun H => by kernel_rfl) (fun H => by kernel_rfl) (fun H => by kernel_rfl)
  | 10, _ => tok_own (by decide +kernel) (fun H => by kernel_rfl) (fun H => by kernel_rfl) (fun H => by kernel_rfl)
  | 11, _ => tok_own (by decide +kernel) (fun H => by kernel_rfl) (fun H => by kernel_rfl) (fun H => by kernel_rfl)
  | 12, _ => tok_own (by decide +kernel) (fun H => by kernel_rfl) (fun H => by kernel_rfl) (fun H => by kernel_rfl)
  | 13, _ => tok_own (by decide +kernel) (fun H => by kernel_rfl) (fun H => by kernel_rfl) (fun H => by kernel_rfl)
  | 14, _ => tok_own (by decide +kernel) (fun H => by kernel_rfl) (fun H => by kernel_rfl) (fun H => by kernel_rfl)
  | 15, _ => tok_own (by decide +kernel) (fun H => by kernel_rfl) (fun H => by kernel_rfl) (fun H => by kernel_rfl)
  | 16, _ => tok_own (by decide +kernel) (fun H => by kernel_rfl) (fun H => by kernel_rfl) (fun H => by kernel_rfl)
  | 17, _ => tok_own (by decide +kernel) (fun H => by kernel_rfl) (fun H => by kernel_rfl) (fun H => by kernel_rfl)
  | 18, _ => tok_own (by decide +kernel) (fun H => by kernel_rfl) (fun H => by kernel_rfl) (fun H => by kernel_rfl)
  | 19, _ => tok_own (by decide +kernel) (fun H => by kernel_rfl) (fun H => by kernel_rfl) (fun H => by kernel_rfl)
  | 20, _ => tok_own (by decide +kernel) (fun H => by kernel_rfl) (fun H => by kernel_rfl) (fun H => by kernel_rfl)
  | 21, _ => tok_own (by decide +kernel) (fun H => by kernel_rfl) (fun H => by kernel_rfl) (fun H => by kernel_rfl)
  | 22, _ => tok_own (by decide +kernel) (fun H => by kernel_rfl) (fun H => by kernel_rfl) (fun H => by kernel_rfl)
  | 23, _ => tok_own (by decide +kernel) (fun H => by kernel_rfl) (fun H => by kernel_rfl) (fun H => by kernel_rfl)
  | 24, _ => tok_own (by decide +kernel) (fun H => by kernel_rfl) (fun H => by kernel_rfl) (fun H => by kernel_rfl)
  | 25, _ => tok_own (by decide +kernel) (fun H => by kernel_rfl) (fun H => by kernel_rfl) (fun H => by kernel_rfl)
  | 26, _ => tok_own (by decide +kernel) (fun H => by kernel_rfl) (fun H => by kernel_rfl) (fun H => by kernel_rfl)
  | 27, _ => tok_own (by decide +kernel) (fun H => by kernel_rfl) (fun H => by kernel_rfl) (fun H => by kernel_rfl)
  | 28, _ => tok_own (by decide +kernel) (fun H => by kernel_rfl) (fun H => by kernel_rfl) (fun H => by kernel_rfl)
  | 29, _ => tok_own (by decide +kernel) (fun H => by kernel_rfl) (fun H => by kernel_rfl) (fun H => by kernel_rfl)
  | 30, _ => tok_own (by decide +kernel) (fun H => by kernel_rfl) (fun H => by kernel_rfl) (fun H => by kernel_rfl)
  | 31, _ => tok_own (by decide +kernel) (fun H => by kernel_rfl) (fun H => by kernel_rfl) (fun H => by kernel_rfl)
  | 32, _ => tok_own (by decide +kernel) (fun H => by kernel_rfl) (fun H => by kernel_rfl) (fun H => by kernel_rfl)
  | 33, _ => tok_own (by decide +kernel) (fun H => by kernel_rfl) (fun H => by kernel_rfl) (fun H => by kernel_rfl)
  | 34, _ => tok_own (by decide +kernel) (fun H => by kernel_rfl) (fun H => by kernel_rfl) (fun H => by kernel_rfl)
  | 35, _ => tok_own (by decide +kernel) (fun H => by kernel_rfl) (fun H => by kernel_rfl) (fun H => by kernel_rfl)
  | 36, _ => tok_own (by decide +kernel) (fun H => by kernel_rfl) (fun H => by kernel_rfl) (fun H => by kernel_rfl)
  | 37, _ => tok_own (by decide +kernel) (fun H => by kernel_rfl) (fun H => by kernel_rfl) (fun H => by kernel_rfl)
  | 38, _ => tok_own (by decide +kernel) (fun H => by kernel_rfl) (fun H => by kernel_rfl) (fun H => by kernel_rfl)
  | 39, _ => tok_own (by decide +kernel) (fun H => by kernel_rfl) (fun H => by kernel_rfl) (fun H => by kernel_rfl)
  | n + 40, h => absurd h (Nat.not_lt.mpr (Nat.le_add_left 40 n))
theorem tok_num {i : Int} (h : -20 ≤ i ∧ i < 20) : Tok (numText i) [110, 117, 109, 98, 101, 114] (.int i) := by
  have := tok_at (i + 20).toNat (by lia)
  rwa [show (((i + 20).toNat : Nat) : Int) - 20 = i by lia] at this

inductive DV (H : AH) (L : List (List Nat × Nat)) (B : Nat) : Dat → AV → Prop
  | sym {v : List Nat} {up : Bool} {a : Nat} (h : L.lookup v = some a) : DV H L B (.sym v up) (.ref a)
  | num {i : Int} : DV H L B (.num i) (.int i)
  | txt : DV H L B .txt (.rcd 4 [.lst [.int 97, .int 32, .int 98], .non])
  | quo {d : Dat} {a : Nat} {v : AV} (h : L.lookup sQuote = some a) (hd : DV H L B d v) : DV H L B (.quo d) (quoV a v)
  | vec {a b : Dat} {t : Nat} {va vb : AV} (hB : B ≤ t) (ht : H[t]? = some (.list [va, vb])) (ha : DV H L B a va) (hb : DV H L B b vb) : DV H L B (.vec a b) (.rcd 5 [.ref t, .non])
  | lst {a b : Dat} {va vb : AV} (ha : DV H L B a va) (hb : DV H L B b vb) : DV H L B (.lst a b) (pairV va (pairV vb (.spc 0)))
  | dot {a b : Dat} {va vb : AV} (ha : DV H L B a va) (hb : DV H L B b vb) : DV H L B (.dot a b) (pairV va vb)
noncomputable def Ab (B : Nat) (H H' : AH) : Prop := ∀ t o, B ≤ t → H[t]? = some o → H'[t]? = some o
theorem Ab.trans {B : Nat} {H H1 H2 : AH} (h : Ab B H H1) (h' : Ab B H1 H2) : Ab B H H2 := fun t o hb ho => h' t o hb (h t o hb ho)
theorem Ab.set {B a : Nat} {H : AH} {o : AO} (h : a < B) : Ab B H (H.set a o) := fun t p hb ho => by rw [List.getElem?_set_ne (by lia)]; exact ho
theorem Ab.fr {B : Nat} {S : List Nat} {H H' : AH} (h : Fr S H H') (hS : ∀ s ∈ S, s < B) : Ab B H H' := fun t o hb ho => h.get ho fun q => absurd (hS t q) (by lia)
theorem DV.mono {H H' : AH} {L L' : List (List Nat × Nat)} {B B' : Nat} {D : Dat} {V : AV} (h : DV H L B D V) (hE : Ext L L') (hB : B' ≤ B) (hA : Ab B H H') : DV H' L' B' D V := by
  induction h with
  | sym h => exact .sym (hE _ _ h)
  | num => exact .num
  | txt => exact .txt
  | quo h _ ih => exact .quo (hE _ _ h) ih
  | vec hb ht _ _ iha ihb => exact .vec (Nat.le_trans hB hb) (hA _ _ hb ht) iha ihb
  | lst _ _ iha ihb => exact .lst iha ihb
  | dot _ _ iha ihb => exact .dot iha ihb
theorem DV.isU {H : AH} {L : List (List Nat × Nat)} {B : Nat} {D : Dat} {V : AV} (h : DV H L B D V) : isU V = false := by cases h <;> rfl

section
variable {E : Env} {af p p' a : Nat} {H H' : AH} {L L' : List (List Nat × Nat)} {fr fr' : List AV} {o o' : AO} {X : List AO}
theorem TB.app {tb rows dict : Nat} (T : TB tb rows dict H L) : TB tb rows dict (H ++ X) L := T.keep (S := []) .app (by simp) (by simp) (by simp) (by simp)
theorem TB.set {tb rows dict : Nat} (T : TB tb rows dict H L) (ho : H[a]? = some o) (h1 : ∀ fs, o ≠ .inst 1 fs) (h2 : ∀ fs, o ≠ .inst 2 fs) (h3 : ∀ kv, o ≠ .dict kv) (h4 : a ≠ rows) : TB tb rows dict (H.set a o') L :=
  T.keep (S := [a]) (.set (by simp)) (by simpa using ne_of T.tb ho (fun q => h1 _ q.symm)) (by simpa using h4.symm) (by simpa using ne_of T.dict ho (fun q => h3 _ q.symm)) (by
    intro s hs i x q
    obtain rfl : s = a := by simpa using hs
    rw [ho] at q; exact h2 _ (Option.some.inj q))
theorem RD.app (R : RD E af H p L fr) : RD E af (H ++ X) p L fr :=
  ⟨R.T.app, by rw [List.getElem?_append_left (lt_of R.rd)]; exact R.rd, by rw [List.getElem?_append_left (lt_of R.lx)]; exact R.lx, by rw [List.getElem?_append_left (lt_of R.fs)]; exact R.fs, R.nr⟩
theorem RD.setLx (R : RD E af H p L fr) : RD E af (H.set E.lx (lexO E.tx p')) p' L fr := by
  have h := R.lx
  refine ⟨R.T.set h (by simp) (by simp) (by simp) (ne_of h R.T.rows (by simp)), ?_, ?_, ?_, R.nr⟩
  · rw [List.getElem?_set_ne (ne_of h R.rd (by simp))]; exact R.rd
  · rw [g_set, h]; rfl
  · rw [List.getElem?_set_ne (ne_of h R.fs (by simp))]; exact R.fs
theorem RD.setAf (R : RD E af H p L fr) : RD E af (H.set af (.list fr')) p L fr' := by
  have h := R.fs
  refine ⟨R.T.set h (by simp) (by simp) (by simp) R.nr.symm, ?_, ?_, ?_, R.nr⟩
  · rw [List.getElem?_set_ne (ne_of h R.rd (by simp))]; exact R.rd
  · rw [List.getElem?_set_ne (ne_of h R.lx (by simp))]; exact R.lx
  · rw [g_set, h]; rfl
theorem RD.setFrame (R : RD E af H p L fr) {fs : List AV} (h : H[a]? = some (.inst 9 fs)) : RD E af (H.set a o') p L fr := by
  refine ⟨R.T.set h (by simp) (by simp) (by simp) (ne_of h R.T.rows (by simp)), ?_, ?_, ?_, R.nr⟩
  · rw [List.getElem?_set_ne (ne_of h R.rd (by simp))]; exact R.rd
  · rw [List.getElem?_set_ne (ne_of h R.lx (by simp))]; exact R.lx
  · rw [List.getElem?_set_ne (ne_of h R.fs (by simp))]; exact R.fs
theorem RD.setList (R : RD E af H p L fr) {vs : List AV} (h : H[a]? = some (.list vs)) (h1 : a ≠ E.rows) (h2 : a ≠ af) : RD E af (H.set a o') p L fr := by
  refine ⟨R.T.set h (by simp) (by simp) (by simp) h1, ?_, ?_, ?_, R.nr⟩
  · rw [List.getElem?_set_ne (ne_of h R.rd (by simp))]; exact R.rd
  · rw [List.getElem?_set_ne (ne_of h R.lx (by simp))]; exact R.lx
  · rw [List.getElem?_set_ne h2]; exact R.fs
theorem RD.table (R : RD E af H p L fr) (T' : TB E.tb E.rows E.dict H' L') (F : Fr [E.rows, E.dict] H H') : RD E af H' p L' fr :=
  ⟨T', F.get R.rd (by simp [ne_of R.rd R.T.rows (by simp), ne_of R.rd R.T.dict (by simp)]), F.get R.lx (by simp [ne_of R.lx R.T.rows (by simp), ne_of R.lx R.T.dict (by simp)]), F.get R.fs (by simp [R.nr.symm, ne_of R.fs R.T.dict (by simp)]), R.nr⟩
end
end
section
noncomputable abbrev MS (E : Env) (af : Nat) : List Nat := [E.lx, E.rows, E.dict, af]
noncomputable def ReadsP (E : Env) (D : Dat) : Prop := ∀ {g r : List Nat} {kg af p : Nat} {H : AH} {L : List (List Nat × Nat)} {fr : List AV}, Gap g kg → kg ≤ 50 → RD E af H p L fr → E.tx.drop p = g ++ (D.text ++ r) → EndsW r → fr.length + D.deep ≤ 80 → L.length + D.toks ≤ 900 →
  ∃ H' L' V qs, RD E af H' (p + g.length + D.text.length) L' (fr ++ qrefs qs) ∧ (∀ q ∈ qs, QF H' q) ∧ qs.length ≤ D.deep ∧ isU V = false ∧ DV H' L' H.length D (wrapQ qs V) ∧ nms L' = grow (nms L) D.names ∧ Ext L L' ∧ Fr (MS E af) H H' ∧ L'.length ≤ L.length + D.toks ∧
    ∀ k R, After E.rd k V H' R → Runs E.rd (k + D.toks) H R

theorem grow_app (N a b : List (List Nat)) : grow N (a ++ b) = grow (grow N a) b := List.foldl_append ..

theorem tok_step {E : Env} {af p kg : Nat} {H : AH} {L : List (List Nat × Nat)} {fr : List AV} {g w u r : List Nat} {x : AV} (htx : E.tx.length ≤ 10000) (R : RD E af H p L fr) (hr0 : EndsW r ∨ w = [40] ∨ w = [41] ∨ w = [39] ∨ w = [35, 40] ∨ w = [34, 97, 32, 98, 34]) (hg : Gap g kg) (hk : kg ≤ 50) (hd : E.tx.drop p = g ++ (w ++ r)) (ht : Tok w u x) :
    ∃ H1, cP 97 16 [.ref E.lx] H = some (.rcd 6 [.str u, x, .int ((p + g.length : Nat) : Int), .int ((p + g.length + w.length : Nat) : Int)], H1) ∧ RD E af H1 (p + g.length + w.length) L fr ∧ Fr [E.lx] H H1 ∧ E.tx.drop (p + g.length + w.length) = r := by
  obtain ⟨X, e⟩ := c_token htx hr0 hg hk R.lx hd ht
  exact ⟨_, e, R.setLx.app, (Fr.set (by simp)).trans' .app, at_step (at_step hd)⟩

theorem mem_ms {E : Env} {af p a : Nat} {H : AH} {L : List (List Nat × Nat)} {fr : List AV} (R : RD E af H p L fr) (h : a ∈ MS E af) : a < H.length := by
  simp only [MS, List.mem_cons, List.not_mem_nil, or_false] at h
  rcases h with rfl | rfl | rfl | rfl
  · exact lt_of R.lx
  · exact lt_of R.T.rows
  · exact lt_of R.T.dict
  · exact lt_of R.fs
theorem fr_notin {E : Env} {af p f : Nat} {H : AH} {L : List (List Nat × Nat)} {fr : List AV} {fs : List AV} (R : RD E af H p L fr) (h : H[f]? = some (.inst 9 fs)) : f ∉ MS E af := by
  simp only [MS, List.mem_cons, List.not_mem_nil, or_false, not_or]
  exact ⟨ne_of h R.lx (by simp), ne_of h R.T.rows (by simp), ne_of h R.T.dict (by simp), ne_of h R.fs (by simp)⟩
theorem li_notin {E : Env} {af p t : Nat} {H : AH} {L : List (List Nat × Nat)} {fr : List AV} {fs : List AV} (R : RD E af H p L fr) (h : H[t]? = some (.list fs)) (h1 : t ≠ af) (h2 : t ≠ E.rows) : t ∉ MS E af := by
  simp only [MS, List.mem_cons, List.not_mem_nil, or_false, not_or]
  exact ⟨ne_of h R.lx (by simp), h2, ne_of h R.T.dict (by simp), h1⟩

theorem item_of {E : Env} {D : Dat} (hD : ReadsP E D) {g r w : List Nat} {kg af p f t : Nat} {H : AH} {L : List (List Nat × Nat)} {fr things : List AV} {st0 : Int} {tl : AV} (hg : Gap g kg) (hk : kg ≤ 50) (R : RD E af H p L (fr ++ [.ref f])) (hff : H[f]? = some (frO w st0 (.ref t) 0 tl)) (hw : w ≠ wQuot) (ht : H[t]? = some (.list things)) (hth : things.length ≤ 1000) (h1 : t ≠ af) (h2 : t ≠ E.rows)
    (hd : E.tx.drop p = g ++ (D.text ++ r)) (hr : EndsW r) (hl : fr.length + 1 + D.deep ≤ 80) (hL : L.length + D.toks ≤ 900) :
    ∃ H' L' A, RD E af H' (p + g.length + D.text.length) L' (fr ++ [.ref f]) ∧ H'[f]? = some (frO w st0 (.ref t) 0 tl) ∧ H'[t]? = some (.list (things ++ [A])) ∧ DV H' L' H.length D A ∧ nms L' = grow (nms L) D.names ∧ Ext L L' ∧ Fr (t :: MS E af) H H' ∧ L'.length ≤ L.length + D.toks ∧
      ∀ k R, Runs E.rd k H' R → Runs E.rd (k + D.toks) H R := by
  obtain ⟨H1, L1, V, qs, R1, hq, hql, hV, hDV, hn, hE, hF, hLl, hrun⟩ := hD hg hk R hd hr (by simp; lia) hL
  have hff1 := hF.get hff (fr_notin R hff)
  have ht1 := hF.get ht (li_notin R ht h1 h2)
  have naf : af < H.length := lt_of R.fs
  have nt : t < H.length := lt_of ht
  have hf1 := R1.fs
  have R2 := (R1.setAf (fr' := fr ++ [.ref f])).setList (a := t) (o' := .list (things ++ [wrapQ qs V])) (by rw [List.getElem?_set_ne h1.symm]; exact ht1) h2 h1
  refine ⟨_, L1, wrapQ qs V, R2, ?_, ?_, ?_, hn, hE, ?_, hLl, ?_⟩
  · rw [List.getElem?_set_ne (ne_of ht1 hff1 (by simp)), List.getElem?_set_ne (ne_of hf1 hff1 (by simp))]; exact hff1
  · rw [g_set, List.getElem?_set_ne h1.symm, ht1]; rfl
  · exact hDV.mono .refl (Nat.le_refl _) ((Ab.set naf).trans (Ab.set nt))
  · exact ((hF.mono (fun a h => List.mem_cons_of_mem _ h)).trans' (Fr.set (by simp))).trans' (Fr.set (by simp))
  · intro k R hR
    refine hrun k R (after_item R1.rd hf1 (by lia) hq hV hff1 hw ht1 hth h1.symm hR)

theorem tail_of {E : Env} {D : Dat} (hD : ReadsP E D) {g r w : List Nat} {kg af p f : Nat} {H : AH} {L : List (List Nat × Nat)} {fr : List AV} {st0 : Int} {tl th : AV} (hg : Gap g kg) (hk : kg ≤ 50) (R : RD E af H p L (fr ++ [.ref f])) (hff : H[f]? = some (frO w st0 th 1 tl)) (hw : w ≠ wQuot)
    (hd : E.tx.drop p = g ++ (D.text ++ r)) (hr : EndsW r) (hl : fr.length + 1 + D.deep ≤ 80) (hL : L.length + D.toks ≤ 900) :
    ∃ H' L' A, RD E af H' (p + g.length + D.text.length) L' (fr ++ [.ref f]) ∧ H'[f]? = some (frO w st0 th 2 A) ∧ DV H' L' H.length D A ∧ nms L' = grow (nms L) D.names ∧ Ext L L' ∧ Fr (f :: MS E af) H H' ∧ L'.length ≤ L.length + D.toks ∧
      ∀ k R, Runs E.rd k H' R → Runs E.rd (k + D.toks) H R := by
  obtain ⟨H1, L1, V, qs, R1, hq, hql, hV, hDV, hn, hE, hF, hLl, hrun⟩ := hD hg hk R hd hr (by simp; lia) hL
  have hff1 := hF.get hff (fr_notin R hff)
  have naf : af < H.length := lt_of R.fs
  have nt : f < H.length := lt_of hff
  have hf1 := R1.fs
  have R2 := (R1.setAf (fr' := fr ++ [.ref f])).setFrame (a := f) (o' := frO w st0 th 2 (wrapQ qs V)) (by rw [List.getElem?_set_ne (ne_of hf1 hff1 (by simp))]; exact hff1)
  refine ⟨_, L1, wrapQ qs V, R2, ?_, ?_, hn, hE, ?_, hLl, ?_⟩
  · rw [g_set, List.getElem?_set_ne (ne_of hf1 hff1 (by simp)), hff1]; rfl
  · exact hDV.mono .refl (Nat.le_refl _) ((Ab.set naf).trans (Ab.set nt))
  · exact ((hF.mono (fun a h => List.mem_cons_of_mem _ h)).trans' (Fr.set (by simp))).trans' (Fr.set (by simp))
  · intro k R hR
    refine hrun k R (after_tail R1.rd hf1 (by lia) hq hV hff1 hw hR)

theorem opens_not {rd : Nat} {x : AV} {st en : Int} {H : AH} : cP 97 10 [.ref rd, .rcd 6 [.str [115, 121, 109, 98, 111, 108], x, .int st, .int en]] H = some (.bool false, H) := by kernel_rfl
theorem opens_not2 {rd : Nat} {x : AV} {st en : Int} {H : AH} : cP 97 10 [.ref rd, .rcd 6 [.str [110, 117, 109, 98, 101, 114], x, .int st, .int en]] H = some (.bool false, H) := by kernel_rfl
theorem opens_not3 {rd : Nat} {x : AV} {st en : Int} {H : AH} : cP 97 10 [.ref rd, .rcd 6 [.str [115, 116, 114, 105, 110, 103], x, .int st, .int en]] H = some (.bool false, H) := by kernel_rfl

theorem reads_val {E : Env} (htx : E.tx.length ≤ 10000) {D : Dat} {u : List Nat} {V : AV} (ht : Tok D.text u V) (h0 : D.toks = 1) (h1 : D.names = []) (hV : isU V = false) (hu : u ≠ [101, 110, 100]) (hu1 : u ≠ [46]) (hu2 : u ≠ [41]) (hu3 : u ≠ [115, 121, 109, 98, 111, 108])
    (ho : ∀ rd st en H, cP 97 10 [.ref rd, .rcd 6 [.str u, V, .int st, .int en]] H = some (.bool false, H)) (hDV : ∀ H L B, DV H L B D V) : ReadsP E D := by
  intro g r kg af p H L fr hg hk R hd hr hl hL
  obtain ⟨H1, e, R1, F1, hd1⟩ := tok_step htx R (.inl hr) hg hk hd ht
  refine ⟨H1, L, V, [], by simpa using R1, by simp, Nat.zero_le _, hV, hDV _ _ _, by rw [h1]; rfl, .refl, F1.mono (by simp), Nat.le_add_right .., fun k Q hR => ?_⟩
  rw [h0]
  exact run_atom R.rd R.lx e hu hu1 hu2 R1.rd (ho _ _ _ _) (c_atom_val hu3 hV) R1.rd hV hR

theorem reads_sym {E : Env} (htx : E.tx.length ≤ 10000) {v : List Nat} {up : Bool} (hv : v ∈ names5) : ReadsP E (.sym v up) := by
  intro g r kg af p H L fr hg hk R hd hr hl hL
  simp only [Dat.toks] at hL
  obtain ⟨H1, e, R1, F1, hd1⟩ := tok_step htx R (.inl hr) hg hk hd (tok_sym (up := up) hv)
  obtain ⟨a, L', H2, ec, T2, q1, q2, q3, F2, q4⟩ := c_symbol (n := 94) R1.T v (by lia)
  have R2 := R1.table T2 F2
  refine ⟨H2, L', .ref a, [], by simpa using R2, by simp, Nat.zero_le _, rfl, .sym q1, q2, q3, ?_, q4, fun k Q hR => ?_⟩
  · exact (F1.mono (by simp)).trans' (F2.mono (by simp))
  · exact run_atom R.rd R.lx e (by decide) (by decide) (by decide) R1.rd opens_not (c_atom_sym R1.rd R1.T.tb ec) R2.rd rfl hR

theorem reads_quo {E : Env} (htx : E.tx.length ≤ 10000) {d : Dat} (hD : ReadsP E d) : ReadsP E (.quo d) := by
  intro g r kg af p H L fr hg hk R hd hr hl hL
  simp only [Dat.toks, Dat.deep] at hL hl
  obtain ⟨H1, e, R1, F1, hd1⟩ := tok_step htx R (w := [39]) (.inr (by simp)) hg hk hd (.punct (by decide))
  obtain ⟨a, L2, H2, T2, q1, q2, q3, F2, q4, ho⟩ := c_opens_quote (st := ((p + g.length : Nat) : Int)) (en := ((p + g.length + [39].length : Nat) : Int)) R1.T (by lia) R1.rd R1.fs R1.nr (by lia)
  have R3 := ((R1.table T2 F2).setAf (fr' := fr ++ [.ref H2.length])).app (X := [frO wQuot ((p + g.length : Nat) : Int) (.lst [.ref a]) 0 (.spc 0)])
  generalize hH3 : H2.set af (.list (fr ++ [.ref H2.length])) ++ [frO wQuot ((p + g.length : Nat) : Int) (.lst [.ref a]) 0 (.spc 0)] = H3 at R3 ho
  have hf3 : H3[H2.length]? = some (frO wQuot ((p + g.length : Nat) : Int) (.lst [.ref a]) 0 (.spc 0)) := by rw [← hH3]; simp
  have F3 : Fr (MS E af) H H3 := by
    rw [← hH3]
    exact (((F1.mono (by simp)).trans' (F2.mono (by simp))).trans' (Fr.set (by simp))).trans' .app
  obtain ⟨H4, L4, V, qs, R4, hq, hql, hV, hDV, hn, hE, hF, hLl, hrun⟩ := hD (g := []) (r := r) .nil (by lia) R3 hd1 hr (by simp; lia) (by lia)
  refine ⟨H4, L4, V, (H2.length, a) :: qs, ?_, ?_, ?_, hV, ?_, ?_, q3.trans hE, F3.trans' hF, ?_, fun k Q hQ => ?_⟩
  · have : p + g.length + (Dat.quo d).text.length = p + g.length + [39].length + ([] : List Nat).length + d.text.length := by simp [Dat.text]; lia
    rw [this]
    simpa [qrefs] using R4
  · intro q hq'
    rcases List.mem_cons.mp hq' with rfl | hq'
    · exact ⟨_, hF.get hf3 (fr_notin R3 hf3)⟩
    · exact hq q hq'
  · simp only [Dat.deep, List.length_cons]; lia
  · exact .quo (hE _ _ q1) (hDV.mono .refl F3.1 (fun _ _ _ h => h))
  · rw [hn, q2]; rfl
  · simp only [Dat.toks]; lia
  · have := run_open (k := k + d.toks) R.rd R.lx e (by decide) R1.rd ho (hrun k Q hQ)
    exact this

theorem reads_lst {E : Env} (htx : E.tx.length ≤ 10000) {a b : Dat} (hA : ReadsP E a) (hB : ReadsP E b) : ReadsP E (.lst a b) := by
  intro g r kg af p H L fr hg hk R hd hr hl hL
  simp only [Dat.toks, Dat.deep] at hL hl
  simp only [Dat.text, List.cons_append, List.append_assoc, List.nil_append] at hd
  obtain ⟨H1, e, R1, F1, hd1⟩ := tok_step htx R (w := [40]) (.inr (by simp)) hg hk hd (.punct (by decide))
  have ho := c_opens_list (st := ((p + g.length : Nat) : Int)) (en := ((p + g.length + [40].length : Nat) : Int)) R1.rd R1.fs (by lia)
  have R2 := (R1.setAf (fr' := fr ++ [.ref (H1.length + 1)])).app (X := [.list [], frO wList ((p + g.length : Nat) : Int) (.ref H1.length) 0 (.spc 0)])
  have nt1 : H1.length ≠ af := Nat.ne_of_gt (lt_of R1.fs)
  have nt2 : H1.length ≠ E.rows := Nat.ne_of_gt (lt_of R1.T.rows)
  generalize hH2 : H1.set af (.list (fr ++ [.ref (H1.length + 1)])) ++ [.list [], frO wList ((p + g.length : Nat) : Int) (.ref H1.length) 0 (.spc 0)] = H2 at R2 ho
  have hf2 : H2[H1.length + 1]? = some (frO wList ((p + g.length : Nat) : Int) (.ref H1.length) 0 (.spc 0)) := by rw [← hH2]; simp [List.getElem?_append]
  have ht2 : H2[H1.length]? = some (.list []) := by rw [← hH2]; simp [List.getElem?_append]
  have F2 : Fr (MS E af) H H2 := by
    rw [← hH2]
    exact ((F1.mono (by simp)).trans' (Fr.set (by simp))).trans' .app
  have l2 : H2.length = H1.length + 2 := by rw [← hH2]; simp
  obtain ⟨H3, L3, A, R3, hf3, ht3, dA, n3, E3, F3, k3, run3⟩ := item_of hA (g := []) (r := 10 :: 32 :: (b.text ++ (32 :: 41 :: r))) .nil (by lia) R2 hf2 (by decide) ht2 (by decide) nt1 nt2 (by rw [hd1]; simp) (by show delims.contains 10 = true; decide) (by lia) (by lia)
  have hd3 := at_step (at_step (g := []) hd1)
  obtain ⟨H4, L4, B, R4, hf4, ht4, dB, n4, E4, F4, k4, run4⟩ := item_of hB (g := [10, 32]) (r := 32 :: 41 :: r) (.blank (by decide) (.blank (by decide) .nil)) (by lia) R3 hf3 (by decide) ht3 (by simp) nt1 nt2 (by rw [hd3]; simp) (by show delims.contains 32 = true; decide) (by lia) (by lia)
  have hd4 := at_step (at_step (g := [10, 32]) hd3)
  obtain ⟨H5, e5, R5, F5, hd5⟩ := tok_step htx R4 (g := [32]) (w := [41]) (.inr (by simp)) (.blank (by decide) .nil) (by lia) hd4 (.punct (by decide))
  have hf5 := F5.get hf4 (by simpa using ne_of hf4 R4.lx (by simp))
  have ht5 := F5.get ht4 (by simpa using ne_of ht4 R4.lx (by simp))
  have l1 : af < H1.length := lt_of R1.fs
  have F25 : Fr (H1.length :: MS E af) H2 H5 := (F3.trans' F4).trans' (F5.mono (by simp))
  have ht6 : (H5.set af (.list fr))[H1.length]? = some (.list [A, B]) := by rw [List.getElem?_set_ne nt1.symm]; exact ht5
  have hlo := @c_list_of2 92 (H5.set af (.list fr)) (.ref H1.length) A B (.spc 0) rfl dA.isU dB.isU rfl (by rw [b_lenR, ht6]; rfl) (by rw [u_ref (by lia), ht6]; rfl) (by rw [u_ref (by lia), ht6]; rfl)
  have hc := c_closed_list (st := ((p + g.length + [40].length + ([] : List Nat).length + a.text.length + [10, 32].length + b.text.length + [32].length : Nat) : Int)) (en := ((p + g.length + [40].length + ([] : List Nat).length + a.text.length + [10, 32].length + b.text.length + [32].length + [41].length : Nat) : Int)) R5.rd R5.fs (by lia) hf5 (by decide) rfl rfl hlo
  have R6 := R5.setAf (fr' := fr)
  refine ⟨H5.set af (.list fr), L4, pairV A (pairV B (.spc 0)), [], ?_, by simp, Nat.zero_le _, rfl, ?_, ?_, E3.trans E4, ?_, ?_, fun k Q hQ => ?_⟩
  · have : p + g.length + (Dat.lst a b).text.length = p + g.length + [40].length + ([] : List Nat).length + a.text.length + [10, 32].length + b.text.length + [32].length + [41].length := by simp [Dat.text]; lia
    rw [this]
    simpa using R6
  · have b1 : af < H2.length := lt_of R2.fs
    have b2 : H1.length < H2.length := by lia
    have b3 : ∀ s ∈ H1.length :: MS E af, s < H2.length := by
      intro s hs
      rcases List.mem_cons.mp hs with rfl | hs
      · exact b2
      · exact mem_ms R2 hs
    have hle : H.length ≤ H2.length := F2.1
    refine .lst (dA.mono E4 hle ?_) (dB.mono .refl (Nat.le_trans hle F3.1) ?_)
    · exact ((Ab.fr F4 b3).trans (Ab.fr F5 (by simpa using lt_of R2.lx))).trans (Ab.set b1)
    · exact (Ab.fr F5 (by simpa using lt_of R3.lx)).trans (Ab.set (lt_of R3.fs))
  · rw [n4, n3]; simp only [Dat.names]; rw [grow_app]
  · exact (F2.trans F25 (fun _ h => h) (fun s hs => by
      rcases List.mem_cons.mp hs with rfl | hs
      · exact .inr F1.1
      · exact .inl hs)).trans' (Fr.set (by simp))
  · simp only [Dat.toks]; lia
  · have r1 := run_close (k := k) R4.rd R4.lx e5 R5.rd hc R6.rd rfl hQ
    have r2 := run3 _ Q (run4 _ Q r1)
    have := run_open R.rd R.lx e (by decide) R1.rd ho r2
    rw [show k + (Dat.lst a b).toks = k + 1 + b.toks + a.toks + 1 by simp only [Dat.toks]; lia]
    exact this
theorem reads_vec {E : Env} (htx : E.tx.length ≤ 10000) {a b : Dat} (hA : ReadsP E a) (hB : ReadsP E b) : ReadsP E (.vec a b) := by
  intro g r kg af p H L fr hg hk R hd hr hl hL
  simp only [Dat.toks, Dat.deep] at hL hl
  simp only [Dat.text, List.cons_append, List.append_assoc, List.nil_append] at hd
  obtain ⟨H1, e, R1, F1, hd1⟩ := tok_step htx R (w := [35, 40]) (.inr (by simp)) hg hk hd .sharp
  have ho := c_opens_vec (st := ((p + g.length : Nat) : Int)) (en := ((p + g.length + [35, 40].length : Nat) : Int)) R1.rd R1.fs (by lia)
  have R2 := (R1.setAf (fr' := fr ++ [.ref (H1.length + 1)])).app (X := [.list [], frO wVec ((p + g.length : Nat) : Int) (.ref H1.length) 0 (.spc 0)])
  have nt1 : H1.length ≠ af := Nat.ne_of_gt (lt_of R1.fs)
  have nt2 : H1.length ≠ E.rows := Nat.ne_of_gt (lt_of R1.T.rows)
  generalize hH2 : H1.set af (.list (fr ++ [.ref (H1.length + 1)])) ++ [.list [], frO wVec ((p + g.length : Nat) : Int) (.ref H1.length) 0 (.spc 0)] = H2 at R2 ho
  have hf2 : H2[H1.length + 1]? = some (frO wVec ((p + g.length : Nat) : Int) (.ref H1.length) 0 (.spc 0)) := by rw [← hH2]; simp [List.getElem?_append]
  have ht2 : H2[H1.length]? = some (.list []) := by rw [← hH2]; simp [List.getElem?_append]
  have F2 : Fr (MS E af) H H2 := by
    rw [← hH2]
    exact ((F1.mono (by simp)).trans' (Fr.set (by simp))).trans' .app
  have l2 : H2.length = H1.length + 2 := by rw [← hH2]; simp
  obtain ⟨H3, L3, A, R3, hf3, ht3, dA, n3, E3, F3, k3, run3⟩ := item_of hA (g := []) (r := 32 :: (b.text ++ (41 :: r))) .nil (by lia) R2 hf2 (by decide) ht2 (by decide) nt1 nt2 (by rw [hd1]; simp) (by show delims.contains 32 = true; decide) (by lia) (by lia)
  have hd3 := at_step (at_step (g := []) hd1)
  obtain ⟨H4, L4, B, R4, hf4, ht4, dB, n4, E4, F4, k4, run4⟩ := item_of hB (g := [32]) (r := 41 :: r) (.blank (by decide) .nil) (by lia) R3 hf3 (by decide) ht3 (by simp) nt1 nt2 (by rw [hd3]; simp) (by show delims.contains 41 = true; decide) (by lia) (by lia)
  have hd4 := at_step (at_step (g := [32]) hd3)
  obtain ⟨H5, e5, R5, F5, hd5⟩ := tok_step htx R4 (g := []) (w := [41]) (.inr (by simp)) .nil (by lia) hd4 (.punct (by decide))
  have hf5 := F5.get hf4 (by simpa using ne_of hf4 R4.lx (by simp))
  have ht5 := F5.get ht4 (by simpa using ne_of ht4 R4.lx (by simp))
  have l1 : af < H1.length := lt_of R1.fs
  have F25 : Fr (H1.length :: MS E af) H2 H5 := (F3.trans' F4).trans' (F5.mono (by simp))
  have ht6 : (H5.set af (.list fr))[H1.length]? = some (.list [A, B]) := by rw [List.getElem?_set_ne nt1.symm]; exact ht5
  have hc := c_closed_vec (st := ((p + g.length + [35, 40].length + ([] : List Nat).length + a.text.length + [32].length + b.text.length + ([] : List Nat).length : Nat) : Int)) (en := ((p + g.length + [35, 40].length + ([] : List Nat).length + a.text.length + [32].length + b.text.length + ([] : List Nat).length + [41].length : Nat) : Int)) R5.rd R5.fs (by lia) hf5 rfl
  have R6 := R5.setAf (fr' := fr)
  refine ⟨H5.set af (.list fr), L4, .rcd 5 [.ref H1.length, .non], [], ?_, by simp, Nat.zero_le _, rfl, ?_, ?_, E3.trans E4, ?_, ?_, fun k Q hQ => ?_⟩
  · have : p + g.length + (Dat.vec a b).text.length = p + g.length + [35, 40].length + ([] : List Nat).length + a.text.length + [32].length + b.text.length + ([] : List Nat).length + [41].length := by simp [Dat.text]; lia
    rw [this]
    simpa using R6
  · have b1 : af < H2.length := lt_of R2.fs
    have b2 : H1.length < H2.length := by lia
    have b3 : ∀ s ∈ H1.length :: MS E af, s < H2.length := by
      intro s hs
      rcases List.mem_cons.mp hs with rfl | hs
      · exact b2
      · exact mem_ms R2 hs
    have hle : H.length ≤ H2.length := F2.1
    refine .vec F1.1 ht6 (dA.mono E4 hle ?_) (dB.mono .refl (Nat.le_trans hle F3.1) ?_)
    · exact ((Ab.fr F4 b3).trans (Ab.fr F5 (by simpa using lt_of R2.lx))).trans (Ab.set b1)
    · exact (Ab.fr F5 (by simpa using lt_of R3.lx)).trans (Ab.set (lt_of R3.fs))
  · rw [n4, n3]; simp only [Dat.names]; rw [grow_app]
  · exact (F2.trans F25 (fun _ h => h) (fun s hs => by
      rcases List.mem_cons.mp hs with rfl | hs
      · exact .inr F1.1
      · exact .inl hs)).trans' (Fr.set (by simp))
  · simp only [Dat.toks]; lia
  · have r1 := run_close (k := k) R4.rd R4.lx e5 R5.rd hc R6.rd rfl hQ
    have r2 := run3 _ Q (run4 _ Q r1)
    have := run_open R.rd R.lx e (by decide) R1.rd ho r2
    rw [show k + (Dat.vec a b).toks = k + 1 + b.toks + a.toks + 1 by simp only [Dat.toks]; lia]
    exact this
theorem reads_dot {E : Env} (htx : E.tx.length ≤ 10000) {a b : Dat} (hA : ReadsP E a) (hB : ReadsP E b) : ReadsP E (.dot a b) := by
  intro g r kg af p H L fr hg hk R hd hr hl hL
  simp only [Dat.toks, Dat.deep] at hL hl
  simp only [Dat.text, List.cons_append, List.append_assoc, List.nil_append] at hd
  obtain ⟨H1, e, R1, F1, hd1⟩ := tok_step htx R (w := [40]) (.inr (by simp)) hg hk hd (.punct (by decide))
  have ho := c_opens_list (st := ((p + g.length : Nat) : Int)) (en := ((p + g.length + [40].length : Nat) : Int)) R1.rd R1.fs (by lia)
  have R2 := (R1.setAf (fr' := fr ++ [.ref (H1.length + 1)])).app (X := [.list [], frO wList ((p + g.length : Nat) : Int) (.ref H1.length) 0 (.spc 0)])
  have nt1 : H1.length ≠ af := Nat.ne_of_gt (lt_of R1.fs)
  have nt2 : H1.length ≠ E.rows := Nat.ne_of_gt (lt_of R1.T.rows)
  generalize hH2 : H1.set af (.list (fr ++ [.ref (H1.length + 1)])) ++ [.list [], frO wList ((p + g.length : Nat) : Int) (.ref H1.length) 0 (.spc 0)] = H2 at R2 ho
  have hf2 : H2[H1.length + 1]? = some (frO wList ((p + g.length : Nat) : Int) (.ref H1.length) 0 (.spc 0)) := by rw [← hH2]; simp [List.getElem?_append]
  have ht2 : H2[H1.length]? = some (.list []) := by rw [← hH2]; simp [List.getElem?_append]
  have F2 : Fr (MS E af) H H2 := by
    rw [← hH2]
    exact ((F1.mono (by simp)).trans' (Fr.set (by simp))).trans' .app
  have l2 : H2.length = H1.length + 2 := by rw [← hH2]; simp
  obtain ⟨H3, L3, A, R3, hf3, ht3, dA, n3, E3, F3, k3, run3⟩ := item_of hA (g := []) (r := 32 :: 46 :: 32 :: (b.text ++ (41 :: r))) .nil (by lia) R2 hf2 (by decide) ht2 (by decide) nt1 nt2 (by rw [hd1]; simp) (by show delims.contains 32 = true; decide) (by lia) (by lia)
  have hd3 := at_step (at_step (g := []) hd1)
  obtain ⟨Hd, ed, Rd, Fd, hdd⟩ := tok_step htx R3 (g := [32]) (w := [46]) (.inl (by show delims.contains 32 = true; decide)) (.blank (by decide) .nil) (by lia) hd3 .dot
  have hfd := Fd.get hf3 (by simpa using ne_of hf3 R3.lx (by simp))
  have htd := Fd.get ht3 (by simpa using ne_of ht3 R3.lx (by simp))
  have hdot := c_dot (th := .non) (st := ((p + g.length + [40].length + ([] : List Nat).length + a.text.length + [32].length : Nat) : Int)) (en := ((p + g.length + [40].length + ([] : List Nat).length + a.text.length + [32].length + [46].length : Nat) : Int)) Rd.rd Rd.fs (by lia) hfd htd (by simp)
  have Rd2 := Rd.setFrame (a := H1.length + 1) (o' := frO wList ((p + g.length : Nat) : Int) (.ref H1.length) 1 (.spc 0)) hfd
  have hfd2 : (Hd.set (H1.length + 1) (frO wList ((p + g.length : Nat) : Int) (.ref H1.length) 1 (.spc 0)))[H1.length + 1]? = some (frO wList ((p + g.length : Nat) : Int) (.ref H1.length) 1 (.spc 0)) := by rw [g_set, hfd]; rfl
  have htd2 : (Hd.set (H1.length + 1) (frO wList ((p + g.length : Nat) : Int) (.ref H1.length) 1 (.spc 0)))[H1.length]? = some (.list [A]) := by rw [List.getElem?_set_ne (by lia)]; exact htd
  have Fd2 : Fr ((H1.length + 1) :: MS E af) H3 (Hd.set (H1.length + 1) (frO wList ((p + g.length : Nat) : Int) (.ref H1.length) 1 (.spc 0))) := (Fd.mono (by simp)).trans' (Fr.set (by simp))
  generalize hHd2 : Hd.set (H1.length + 1) (frO wList ((p + g.length : Nat) : Int) (.ref H1.length) 1 (.spc 0)) = Hd2 at Rd2 hfd2 htd2 hdot Fd2
  obtain ⟨H4, L4, B, R4, hf4, dB, n4, E4, F4, k4, run4⟩ := tail_of hB (th := .ref H1.length) (tl := .spc 0) (w := wList) (g := [32]) (r := 41 :: r) (.blank (by decide) .nil) (by lia) Rd2 hfd2 (by decide) (by rw [hdd]; simp) (by show delims.contains 41 = true; decide) (by lia) (by lia)
  have hd4 := at_step (at_step (g := [32]) hdd)
  have ht4 := F4.get htd2 (by
    simp only [List.mem_cons, not_or]
    exact ⟨by lia, by simpa using li_notin Rd2 htd2 nt1 nt2⟩)
  obtain ⟨H5, e5, R5, F5, hd5⟩ := tok_step htx R4 (g := []) (w := [41]) (.inr (by simp)) .nil (by lia) hd4 (.punct (by decide))
  have hf5 := F5.get hf4 (by simpa using ne_of hf4 R4.lx (by simp))
  have ht5 := F5.get ht4 (by simpa using ne_of ht4 R4.lx (by simp))
  have l1 : af < H1.length := lt_of R1.fs
  have F25 : Fr (H1.length :: (H1.length + 1) :: MS E af) H2 H5 := (((F3.mono (by simp)).trans' (Fd2.mono (by simp))).trans' (F4.mono (by simp))).trans' (F5.mono (by simp))
  have ht6 : (H5.set af (.list fr))[H1.length]? = some (.list [A]) := by rw [List.getElem?_set_ne nt1.symm]; exact ht5
  have hlo := @c_list_of1 92 (H5.set af (.list fr)) (.ref H1.length) A B rfl dA.isU dB.isU (by rw [b_lenR, ht6]; rfl) (by rw [u_ref (by lia), ht6]; rfl)
  have hc := c_closed_list (st := ((p + g.length + [40].length + ([] : List Nat).length + a.text.length + [32].length + [46].length + [32].length + b.text.length + ([] : List Nat).length : Nat) : Int)) (en := ((p + g.length + [40].length + ([] : List Nat).length + a.text.length + [32].length + [46].length + [32].length + b.text.length + ([] : List Nat).length + [41].length : Nat) : Int)) R5.rd R5.fs (by lia) hf5 (by decide) rfl dB.isU hlo
  have R6 := R5.setAf (fr' := fr)
  refine ⟨H5.set af (.list fr), L4, pairV A B, [], ?_, by simp, Nat.zero_le _, rfl, ?_, ?_, E3.trans E4, ?_, ?_, fun k Q hQ => ?_⟩
  · have : p + g.length + (Dat.dot a b).text.length = p + g.length + [40].length + ([] : List Nat).length + a.text.length + [32].length + [46].length + [32].length + b.text.length + ([] : List Nat).length + [41].length := by simp [Dat.text]; lia
    rw [this]
    simpa using R6
  · have b1 : af < H2.length := lt_of R2.fs
    have b2 : H1.length < H2.length := by lia
    have b3 : ∀ s ∈ (H1.length + 1) :: MS E af, s < H2.length := by
      intro s hs
      rcases List.mem_cons.mp hs with rfl | hs
      · lia
      · exact mem_ms R2 hs
    have hle : H.length ≤ H2.length := F2.1
    refine .dot (dA.mono E4 hle ?_) (dB.mono .refl (Nat.le_trans (Nat.le_trans hle F3.1) Fd2.1) ?_)
    · exact (((Ab.fr Fd2 b3).trans (Ab.fr F4 b3)).trans (Ab.fr F5 (by simpa using lt_of R2.lx))).trans (Ab.set b1)
    · exact (Ab.fr F5 (by simpa using lt_of Rd2.lx)).trans (Ab.set (lt_of Rd2.fs))
  · rw [n4, n3]; simp only [Dat.names]; rw [grow_app]
  · exact (F2.trans F25 (fun _ h => h) (fun s hs => by
      rcases List.mem_cons.mp hs with rfl | hs
      · exact .inr F1.1
      rcases List.mem_cons.mp hs with rfl | hs
      · exact .inr (Nat.le_succ_of_le F1.1)
      · exact .inl hs)).trans' (Fr.set (by simp))
  · simp only [Dat.toks]; lia
  · have r1 := run_close (k := k) R4.rd R4.lx e5 R5.rd hc R6.rd rfl hQ
    have r2 := run3 _ Q (run_dot R3.rd R3.lx ed Rd.rd hdot (run4 _ Q r1))
    have := run_open R.rd R.lx e (by decide) R1.rd ho r2
    rw [show k + (Dat.dot a b).toks = k + 1 + b.toks + 1 + a.toks + 1 by simp only [Dat.toks]; lia]
    exact this

theorem reads {E : Env} (htx : E.tx.length ≤ 10000) : ∀ D : Dat, D.ok → ReadsP E D
  | .sym v up, h => reads_sym htx h
  | .num i, h => reads_val (D := .num i) htx (tok_num h) rfl rfl rfl (by decide) (by decide) (by decide) (by decide) (fun _ _ _ _ => opens_not2) (fun _ _ _ => .num)
  | .txt, h => reads_val (D := .txt) htx .str rfl rfl rfl (by decide) (by decide) (by decide) (by decide) (fun _ _ _ _ => opens_not3) (fun _ _ _ => .txt)
  | .quo d, h => reads_quo htx (reads htx d h)
  | .vec a b, h => reads_vec htx (reads htx a h.1) (reads htx b h.2)
  | .lst a b, h => reads_lst htx (reads htx a h.1) (reads htx b h.2)
  | .dot a b, h => reads_dot htx (reads htx a h.1) (reads htx b h.2)
end
section
structure RB (E : Env) (H : AH) (p : Nat) (L : List (List Nat × Nat)) : Prop where
  T : TB E.tb E.rows E.dict H L
  rd : ∃ af, H[E.rd]? = some (.inst 10 [.ref E.lx, .ref E.tb, .ref af])
  lx : H[E.lx]? = some (lexO E.tx p)

theorem RB.start {E : Env} {H : AH} {p : Nat} {L : List (List Nat × Nat)} (R : RB E H p L) : RD E H.length ((H ++ [AO.list []]).set E.rd (.inst 10 [.ref E.lx, .ref E.tb, .ref H.length])) p L [] := by
  obtain ⟨T, ⟨af, hr⟩, hl⟩ := R
  have b := lt_of hr
  refine ⟨T.app.set (o := .inst 10 [.ref E.lx, .ref E.tb, .ref af]) (by rw [List.getElem?_append_left b]; exact hr) (by simp) (by simp) (by simp) (ne_of hr T.rows (by simp)), ?_, ?_, ?_, ?_⟩
  · rw [g_set, List.getElem?_append_left b, hr]; rfl
  · rw [List.getElem?_set_ne (ne_of hr hl (by simp)), List.getElem?_append_left (lt_of hl)]; exact hl
  · rw [List.getElem?_set_ne (by lia)]; simp
  · exact Nat.ne_of_lt (lt_of T.rows)
theorem RB.startF {E : Env} {H : AH} : Fr [E.rd] H ((H ++ [AO.list []]).set E.rd (.inst 10 [.ref E.lx, .ref E.tb, .ref H.length])) := Fr.app.trans' (Fr.set (by simp))

theorem c_read0 {E : Env} {H : AH} {p : Nat} {L : List (List Nat × Nat)} {v : AV} {H' : AH} (R : RB E H p L) (h : Runs E.rd 97 ((H ++ [AO.list []]).set E.rd (.inst 10 [.ref E.lx, .ref E.tb, .ref H.length])) (v, H')) :
    cP 98 7 [.ref E.rd] H = some (v, H') := by
  have h := h .unb .unb
  obtain ⟨T, ⟨af, hr⟩, hl⟩ := R
  have b := lt_of hr
  have hr2 : (H ++ [AO.list []])[E.rd]? = some (.inst 10 [.ref E.lx, .ref E.tb, .ref af]) := by rw [List.getElem?_append_left b]; exact hr
  rw [callF_code (fn := fn7) (ls := [.ref E.rd, .unb, .unb]) rfl rfl rfl]
  generalize hX : loopW (evT (cP 97) 97 w7_1t) (evS (cP 97) 97 w7_1b) 97 [.ref E.rd, .unb, .unb] ((H ++ [AO.list []]).set E.rd (.inst 10 [.ref E.lx, .ref E.tb, .ref H.length])) = X at h
  have hg : outF (kRest (cP 97) 97 .nil X) = some (v, H') := by
    rcases X with _ | ⟨a, l, hh⟩
    · cases h
    · cases a with
      | nxt => exact h
      | ret w => exact h
      | cnt => cases h
  have e : evS (cP 97) 97 (.asgA 10 2 (.loc 0) (.list true .nil) (.whl w7_1t w7_1b .nil)) [.ref E.rd, .unb, .unb] H = kRest (cP 97) 97 .nil X := by
    rw [← hX]
    clear hX h hg T
    rw [q_asgA, q_list, q_nil]
    simp only [kList_1, if_true, kAA_1, q_loc, List.getElem?_cons_zero, kLoc_1, isU_ref, Bool.false_eq_true, if_false, kAA2_1, sa_ref, hr2, sa_some, List.length_cons, List.length_nil, List.set_cons_succ, List.set_cons_zero, Nat.reduceAdd, Nat.reduceLT, and_self, kH_1, q_whl]
  exact (congrArg outF e).trans hg

theorem c_read {E : Env} (htx : E.tx.length ≤ 10000) {D : Dat} (hD : D.ok) {g r : List Nat} {kg p : Nat} {H : AH} {L : List (List Nat × Nat)} (hg : Gap g kg) (hk : kg ≤ 50) (R : RB E H p L) (hd : E.tx.drop p = g ++ (D.text ++ r)) (hr : EndsW r) (hl : D.deep ≤ 80) (ht : D.toks ≤ 97) (hL : L.length + D.toks ≤ 900) :
    ∃ H' L' V, cP 98 7 [.ref E.rd] H = some (V, H') ∧ RB E H' (p + g.length + D.text.length) L' ∧ DV H' L' H.length D V ∧ nms L' = grow (nms L) D.names ∧ Ext L L' ∧ Fr [E.rd, E.lx, E.rows, E.dict] H H' ∧ L'.length ≤ L.length + D.toks := by
  obtain ⟨H1, L1, V, qs, R1, hq, hql, hV, hDV, hn, hE, hF, hLl, hrun⟩ := reads htx D hD hg hk R.start hd hr (by simpa using hl) hL
  simp only [List.nil_append] at R1
  have ha := after_top (k := 97 - D.toks) R1.rd R1.fs (by lia) hq hV
  have h := hrun _ _ ha
  rw [show 97 - D.toks + D.toks = 97 by lia] at h
  have R2 := R1.setAf (fr' := [])
  have hlen : ((H ++ [AO.list []]).set E.rd (.inst 10 [.ref E.lx, .ref E.tb, .ref H.length])).length = H.length + 1 := by simp
  refine ⟨_, L1, _, c_read0 R h, ⟨R2.T, ⟨_, R2.rd⟩, R2.lx⟩, hDV.mono .refl (by lia) (Ab.set (by lia)), hn, hE, ?_, hLl⟩
  refine Fr.trans (RB.startF (E := E)) (hF.trans' (Fr.set (by simp))) (by simp) ?_
  intro a ha
  simp only [MS, List.mem_cons, List.not_mem_nil, or_false] at ha
  rcases ha with rfl | rfl | rfl | rfl
  · simp
  · simp
  · simp
  · exact .inr (Nat.le_refl _)

theorem c_read_end {E : Env} (htx : E.tx.length ≤ 10000) {g : List Nat} {kg p : Nat} {H : AH} {L : List (List Nat × Nat)} (hg : Gap g kg) (hk : kg ≤ 50) (R : RB E H p L) (hd : E.tx.drop p = g) (hp : p ≤ E.tx.length) :
    ∃ H', cP 98 7 [.ref E.rd] H = some (.spc 1, H') ∧ RB E H' E.tx.length L ∧ Fr [E.rd, E.lx] H H' := by
  have R0 := R.start
  have e := c_token_end htx hg hk R0.lx hd hp
  have R1 := R0.setLx (p' := E.tx.length)
  have h := run_end (k := 96) R0.rd R0.lx e R1.rd R1.fs
  exact ⟨_, c_read0 R h, ⟨R1.T, ⟨_, R1.rd⟩, R1.lx⟩, ((RB.startF (E := E)).mono (by simp)).trans' (Fr.set (by simp))⟩
end
section
inductive Rep (H : AH) (B : Nat) : List AV → List AV → Prop
  | nil : Rep H B [] []
  | int {i : Int} {vs ws : List AV} (h : Rep H B vs ws) : Rep H B (.int i :: vs) (.int i :: ws)
  | str {s : List Nat} {vs ws : List AV} (h : Rep H B vs ws) : Rep H B (.str s :: vs) (.str s :: ws)
  | tup {us xs vs ws : List AV} (h : Rep H B us xs) (t : Rep H B vs ws) : Rep H B (.tup us :: vs) (.tup xs :: ws)
  | lst {us xs vs ws : List AV} (h : Rep H B us xs) (t : Rep H B vs ws) : Rep H B (.lst us :: vs) (.lst xs :: ws)
  | ref {a : Nat} {us xs vs ws : List AV} (hB : B ≤ a) (ha : H[a]? = some (.list us)) (h : Rep H B us xs) (t : Rep H B vs ws) : Rep H B (.ref a :: vs) (.lst xs :: ws)
theorem Rep.mono {H H' : AH} {B B' : Nat} {vs ws : List AV} (h : Rep H B vs ws) (hB : B' ≤ B) (hA : Ab B H H') : Rep H' B' vs ws := by
  induction h with
  | nil => exact .nil
  | int _ ih => exact .int ih
  | str _ ih => exact .str ih
  | tup _ _ ih jh => exact .tup ih jh
  | lst _ _ ih jh => exact .lst ih jh
  | ref hb ha _ _ ih jh => exact .ref (Nat.le_trans hB hb) (hA _ _ hb ha) ih jh
theorem Rep.append {H : AH} {B : Nat} {vs ws us xs : List AV} (h : Rep H B vs ws) (h' : Rep H B us xs) : Rep H B (vs ++ us) (ws ++ xs) := by
  induction h with
  | nil => exact h'
  | int _ ih => exact .int ih
  | str _ ih => exact .str ih
  | tup h _ _ jh => exact .tup h jh
  | lst h _ _ jh => exact .lst h jh
  | ref hb ha h _ _ jh => exact .ref hb ha h jh
theorem Rep.isU {H : AH} {B : Nat} {v w : AV} (h : Rep H B [v] [w]) : isU v = false := by cases h <;> rfl
theorem Rep.toPyL {H : AH} {B : Nat} {vs ws : List AV} (h : Rep H B vs ws) : ∀ n, toPyL n H vs = toPyL n H ws := by
  have key : ∀ {v w : AV} {vs ws : List AV}, (∀ n, toPy n H v = toPy n H w) → (∀ n, Mini.toPyL n H vs = Mini.toPyL n H ws) → ∀ n, Mini.toPyL n H (v :: vs) = Mini.toPyL n H (w :: ws) := by
    intro v w vs ws h1 h2 n
    cases n with
    | zero => rfl
    | succ n =>
      show (toPy n H v).bind _ = (toPy n H w).bind _
      rw [h1, h2]
  induction h with
  | nil => intro n; rfl
  | int _ ih => exact key (fun n => rfl) ih
  | str _ ih => exact key (fun n => rfl) ih
  | tup _ _ ih jh => exact key (fun n => match n with | 0 => rfl | n + 1 => congrArg (Option.bind · _) (ih n)) jh
  | lst _ _ ih jh => exact key (fun n => match n with | 0 => rfl | n + 1 => congrArg (Option.bind · _) (ih n)) jh
  | ref _ ha _ _ ih jh => exact key (fun n => match n with | 0 => rfl | n + 1 => (congrArg (Option.bind · _) (bs ha rfl)).trans (congrArg (Option.bind · _) (ih n))) jh

noncomputable abbrev sSym : List Nat := [115, 121, 109, 98, 111, 108]
noncomputable abbrev sWhole : List Nat := [119, 104, 111, 108, 101]
noncomputable abbrev sText : List Nat := [116, 101, 120, 116]
noncomputable abbrev sVector : List Nat := [118, 101, 99, 116, 111, 114]
noncomputable abbrev sList : List Nat := [108, 105, 115, 116]
noncomputable abbrev sEmpty : List Nat := [101, 109, 112, 116, 121]
structure FP where
  form : AV
  parts : List AV
  tail : AV
noncomputable abbrev symF (v : List Nat) : AV := .tup [.str sSym, .str v]
noncomputable abbrev emptyF : AV := .tup [.str sEmpty]
noncomputable def Dat.fp : Dat → FP
  | .sym v _ => ⟨symF v, [], symF v⟩
  | .num i => ⟨.tup [.str sWhole, .int i], [], .tup [.str sWhole, .int i]⟩
  | .txt => ⟨.tup [.str sText, .lst [.int 97, .int 32, .int 98]], [], .tup [.str sText, .lst [.int 97, .int 32, .int 98]]⟩
  | .quo d => ⟨.tup [.str sList, .lst [symF sQuote, d.fp.form], emptyF], [symF sQuote, d.fp.form], emptyF⟩
  | .vec a b => ⟨.tup [.str sVector, .lst [a.fp.form, b.fp.form]], [], .tup [.str sVector, .lst [a.fp.form, b.fp.form]]⟩
  | .lst a b => ⟨.tup [.str sList, .lst [a.fp.form, b.fp.form], emptyF], [a.fp.form, b.fp.form], emptyF⟩
  | .dot a b => ⟨.tup [.str sList, .lst (a.fp.form :: b.fp.parts), b.fp.tail], a.fp.form :: b.fp.parts, b.fp.tail⟩
theorem parts_len : ∀ D : Dat, D.fp.parts.length ≤ D.deep + 1
  | .sym _ _ => by simp [Dat.fp]
  | .num _ => by simp [Dat.fp]
  | .txt => by simp [Dat.fp]
  | .quo d => by simp [Dat.fp, Dat.deep]
  | .vec a b => by simp [Dat.fp]
  | .lst a b => by simp [Dat.fp, Dat.deep]
  | .dot a b => by have := parts_len b; simp [Dat.fp, Dat.deep]; lia

noncomputable def FormOk (tb rows dict : Nat) (H : AH) (L : List (List Nat × Nat)) (n : Nat) (V w : AV) : Prop :=
  ∃ H' v, cP n 3 [V, .ref tb] H = some (v, H') ∧ Fr [] H H' ∧ Rep H' H.length [v] [w]
noncomputable def FormP (tb rows dict : Nat) (D : Dat) : Prop := ∀ {n B : Nat} {H : AH} {L : List (List Nat × Nat)} {V : AV}, 2 * D.deep + 10 ≤ n ∧ n ≤ 200 → TB tb rows dict H L → DV H L B D V → FormOk tb rows dict H L n V D.fp.form
theorem form_atom_sym {tb rows dict n a : Nat} {H : AH} {L : List (List Nat × Nat)} {v : List Nat} (T : TB tb rows dict H L) (h : L.lookup v = some a) : cP (n + 2) 3 [.ref a, .ref tb] H = some (symF v, H) := by
  obtain ⟨i, hi⟩ := look_mem h
  have hs := T.syms i v a hi
  have ht := T.tb
  have hd := T.dict
  have lk := look_map AV.ref v L
  rw [h] at lk
  simp only [Option.map_some] at lk
  have hgd : ((L.map fun p => (p.1, AV.ref p.2)).lookup v).getD .non = .ref a := by rw [lk]; rfl
  have cf : cP (n + 1) 30 [.ref tb, .str v] H = some (.ref a, H) := by
    rw [callF_code (fn := fn30) (ls := [.ref tb, .str v]) rfl rfl rfl]
    clear T hs h hi
    exact eqr (x_ret (r_meth (r_attr (r_loc rfl rfl) (a_r ht rfl)) (rv_ge hd) (r_cons (r_loc rfl rfl) (r_cons q_lit q_nil)) (ge_r hd hgd))) rfl rfl
  rw [callF_code (fn := fn3) (ls := [.ref a, .ref tb, .unb]) rfl rfl rfl]
  clear T lk hgd h hi
  exact eqr (s_ite (t_val (r_isi (r_loc rfl rfl) (q_r hs))) (i_t rfl (k_any (x_ret (r_ifx (t_cmp (r_mown (r_loc rfl rfl) (q_r ht) (r_cons (r_attr (r_loc rfl rfl) (a_r hs rfl)) q_nil) cf) (r_loc rfl rfl) rfl) (i_t (decide_eq_true (by lia)) (r_tup (r_cons q_lit (r_cons (r_attr (r_loc rfl rfl) (a_r hs rfl)) q_nil)))))) kr_r))) rfl rfl
theorem form_int {tb n : Nat} {H : AH} {i : Int} : cP (n + 1) 3 [.int i, .ref tb] H = some (.tup [.str sWhole, .int i], H) := by
  rw [callF_code (fn := fn3) (ls := [.int i, .ref tb, .unb]) rfl rfl rfl]
  exact eqr (s_ite (t_val (r_isi (r_loc rfl rfl) s_int)) (i_f rfl (k_nil (s_ite (t_val (r_isi (r_loc rfl rfl) s_int)) (i_f rfl (k_nil (s_ite (t_val (r_isi (r_loc rfl rfl) s_int)) (i_f rfl (k_nil (s_ite (t_val (r_isi (r_loc rfl rfl) s_int)) (i_f rfl (k_nil (x_ret (r_ifx (t_cmp (r_loc rfl rfl) q_glb rfl) (i_f rfl (r_tup (r_cons q_lit (r_cons (r_loc rfl rfl) q_nil)))))))))))))))))) rfl rfl
theorem form_txt {tb n : Nat} {H : AH} : cP (n + 1) 3 [.rcd 4 [.lst [.int 97, .int 32, .int 98], .non], .ref tb] H = some (.tup [.str sText, .lst [.int 97, .int 32, .int 98]], H) := by
  rw [callF_code (fn := fn3) (ls := [.rcd 4 [.lst [.int 97, .int 32, .int 98], .non], .ref tb, .unb]) rfl rfl rfl]
  have hl : biV H .listF [.lst [.int 97, .int 32, .int 98]] = some (.lst [.int 97, .int 32, .int 98], H) := rfl
  exact eqr (s_ite (t_val (r_isi (r_loc rfl rfl) q_cd)) (i_f rfl (k_nil (s_ite (t_val (r_isi (r_loc rfl rfl) q_c)) (i_t rfl (k_any (x_ret (r_tup (r_cons q_lit (r_cons (r_bi (r_cons (r_attr (r_loc rfl rfl) (a_c rfl)) q_nil) hl) q_nil)))) kr_r)))))) rfl rfl
theorem form_empty {tb n : Nat} {H : AH} : cP (n + 1) 3 [.spc 0, .ref tb] H = some (emptyF, H) := by
  rw [callF_code (fn := fn3) (ls := [.spc 0, .ref tb, .unb]) rfl rfl rfl]
  exact eqr (s_ite (t_val (r_isi (r_loc rfl rfl) s_spc)) (i_f rfl (k_nil (s_ite (t_val (r_isi (r_loc rfl rfl) s_spc)) (i_f rfl (k_nil (s_ite (t_val (r_isi (r_loc rfl rfl) s_spc)) (i_f rfl (k_nil (s_ite (t_val (r_isi (r_loc rfl rfl) s_spc)) (i_f rfl (k_nil (x_ret (r_ifx (t_cmp (r_loc rfl rfl) q_glb rfl) (i_t rfl (r_tup (r_cons q_lit q_nil))))))))))))))))) rfl rfl

theorem Fr.get0 {H H' : AH} {a : Nat} {o : AO} (h : Fr [] H H') (hg : H[a]? = some o) : H'[a]? = some o := h.get hg (by simp)
theorem TB.fr0 {tb rows dict : Nat} {H H' : AH} {L : List (List Nat × Nat)} (T : TB tb rows dict H L) (h : Fr [] H H') : TB tb rows dict H' L := T.keep h (by simp) (by simp) (by simp) (by simp)
theorem DV.fr0 {H H' : AH} {L : List (List Nat × Nat)} {B : Nat} {D : Dat} {V : AV} (h : DV H L B D V) (hF : Fr [] H H') : DV H' L B D V := h.mono .refl (Nat.le_refl _) fun _ _ _ ho => hF.get0 ho
theorem Fr.setHigh {H H' : AH} {a : Nat} {o : AO} (h : Fr [] H H') (ha : H.length ≤ a) : Fr [] H (H'.set a o) := h.trans (Fr.set (S := [a]) (by simp)) (by simp) (by simp; exact ha)

noncomputable def ChainP (tb rows dict : Nat) (D : Dat) : Prop := ∀ {n B : Nat} {H0 : AH} {L : List (List Nat × Nat)} {V : AV}, (2 * D.deep + 10 ≤ n ∨ (D.fp.parts ≠ [] ∧ 2 * D.deep + 9 ≤ n)) ∧ n ≤ 200 → TB tb rows dict H0 L → DV H0 L B D V →
  ∀ {H : AH} {pa : Nat} {acc : List AV} (m : Nat), Fr [] H0 H → H0.length ≤ pa → H[pa]? = some (.list acc) → acc.length + D.fp.parts.length ≤ 1000 →
  ∃ H' ps Vt, loopW (evT (cP n) n w3_1t) (evS (cP n) n w3_1b) (m + D.fp.parts.length + 1) [V, .ref tb, .ref pa] H = some (.nxt, [Vt, .ref tb, .ref pa], H') ∧ Fr [] H0 H' ∧ Fr [pa] H H' ∧ H'[pa]? = some (.list (acc ++ ps)) ∧ Rep H' (pa + 1) ps D.fp.parts ∧ isU Vt = false ∧
    ∃ H'' v, cP n 3 [Vt, .ref tb] H' = some (v, H'') ∧ Fr [] H' H'' ∧ Rep H'' H'.length [v] [D.fp.tail]

theorem chain_of_form {tb rows dict : Nat} {D : Dat} (hF : FormP tb rows dict D) (hp : D.fp.parts = []) (ht : D.fp.tail = D.fp.form) (hi : ∀ {H L B V}, TB tb rows dict H L → DV H L B D V → isiV H 3 V = some false) : ChainP tb rows dict D := by
  intro n B H0 L V hn T hD H pa acc m F hpa ha hl
  have hn : 2 * D.deep + 10 ≤ n ∧ n ≤ 200 := ⟨hn.1.resolve_right fun q => q.1 hp, hn.2⟩
  have T' := T.fr0 F
  have hD' := hD.fr0 F
  obtain ⟨H', v, e, F', r⟩ := hF hn T' hD'
  have hi' := hi T' hD'
  have hU := hD.isU
  rw [hp]
  refine ⟨H, [], V, ?_, F, .refl, by simpa using ha, .nil, hU, H', v, e, F', ht ▸ r⟩
  clear T T' hF hi e F F' r hD hD' hl hn
  refine w_end ?_
  exact eqv (t_val (r_isi (r_loc rfl hU) hi')) rfl rfl

theorem chain_turn {tb n pa : Nat} {va vd v : AV} {acc : List AV} {H H1 : AH} (hU : isU va = false) (hUd : isU vd = false) (e : cP n 3 [va, .ref tb] H = some (v, H1)) (F : Fr [] H H1) (ha : H[pa]? = some (.list acc)) (hl : acc.length ≤ 1000) :
    evS (cP n) n w3_1b [pairV va vd, .ref tb, .ref pa] H = some (.nxt, [vd, .ref tb, .ref pa], H1.set pa (.list (acc ++ [v]))) := by
  have ha1 := F.get0 ha
  have hl' : acc.length ≤ 10000 := by lia
  clear F
  exact eqs (s_expr (r_meth (r_loc rfl rfl) (rv_ap ha) (r_cons (r_call (r_cons (r_attr (r_loc rfl rfl) (a_c rfl)) (r_cons (r_loc rfl rfl) q_nil)) e) q_nil) (ap_r ha1 hl' rfl rfl)) (x_asg (r_attr (r_loc rfl rfl) (a_c rfl)) rfl q_snil)) rfl rfl rfl
theorem chain_test {tb n pa : Nat} {va vd : AV} {H : AH} : evT (cP n) n w3_1t [pairV va vd, .ref tb, .ref pa] H = some (true, H) := by exact eqv (t_val (r_isi (r_loc rfl rfl) q_c)) rfl rfl
theorem chain_stop {tb n pa : Nat} {H : AH} : evT (cP n) n w3_1t [.spc 0, .ref tb, .ref pa] H = some (false, H) := by exact eqv (t_val (r_isi (r_loc rfl rfl) s_spc)) rfl rfl

theorem chain_step {tb rows dict : Nat} {a : Dat} (hF : FormP tb rows dict a) {n B : Nat} {H0 : AH} {L : List (List Nat × Nat)} {va vd : AV} (hn : 2 * a.deep + 10 ≤ n ∧ n ≤ 200) (T : TB tb rows dict H0 L) (hD : DV H0 L B a va) (hUd : isU vd = false) {H : AH} {pa : Nat} {acc : List AV} (F : Fr [] H0 H) (hpa : H0.length ≤ pa) (ha : H[pa]? = some (.list acc)) (hl : acc.length ≤ 1000) :
    ∃ H' v, evS (cP n) n w3_1b [pairV va vd, .ref tb, .ref pa] H = some (.nxt, [vd, .ref tb, .ref pa], H') ∧ Fr [] H0 H' ∧ Fr [pa] H H' ∧ H'[pa]? = some (.list (acc ++ [v])) ∧ Rep H' (pa + 1) [v] [a.fp.form] := by
  obtain ⟨H1, v, e, F1, r⟩ := hF hn (T.fr0 F) (hD.fr0 F)
  have hlt := lt_of ha
  refine ⟨_, v, chain_turn hD.isU hUd e F1 ha hl, (F.trans' F1).setHigh hpa, (F1.mono (by simp)).trans' (Fr.set (by simp)), ?_, r.mono (by lia) (Ab.set hlt)⟩
  rw [g_set, F1.get0 ha]; rfl

theorem form_of_chain {tb rows dict : Nat} {D : Dat} (hC : ChainP tb rows dict D) (hp : D.fp.parts ≠ []) (hf : D.fp.form = .tup [.str sList, .lst D.fp.parts, D.fp.tail]) (hV : ∀ {H L B V}, DV H L B D V → ∃ va vb, V = pairV va vb) : FormP tb rows dict D := by
  intro n B H L V hn T hD
  obtain ⟨k, rfl⟩ : ∃ k, n = k + 1 := ⟨n - 1, by lia⟩
  obtain ⟨va, vb, rfl⟩ := hV hD
  have hpl := parts_len D
  obtain ⟨H', ps, Vt, e, F1, F2, ha, r, hU, H'', v, e2, F3, r2⟩ := @hC k B H L _ ⟨.inr ⟨hp, by lia⟩, by lia⟩ T hD (H ++ [.list []]) H.length [] (k - D.fp.parts.length - 1) .app (Nat.le_refl _) (by simp) (by simp; lia)
  rw [show k - D.fp.parts.length - 1 + D.fp.parts.length + 1 = k by lia] at e
  have ha2 := F3.get0 ha
  have hlt : H.length < H'.length := lt_of ha
  refine ⟨H'', .tup [.str sList, .ref H.length, v], ?_, F1.trans' F3, ?_⟩
  · rw [callF_code (fn := fn3) (ls := [pairV va vb, .ref tb, .unb]) rfl rfl rfl]
    clear hC hp hf hV T hD F1 F2 F3 r r2 ha ha2 hpl
    exact eqr (s_ite (t_val (r_isi (r_loc rfl rfl) q_cd)) (i_f rfl (k_nil (s_ite (t_val (r_isi (r_loc rfl rfl) q_cd)) (i_f rfl (k_nil (s_ite (t_val (r_isi (r_loc rfl rfl) q_cd)) (i_f rfl (k_nil (s_ite (t_val (r_isi (r_loc rfl rfl) q_c)) (i_t rfl (k_any (x_asg (r_lstT q_nil) rfl (s_whl e (kr_n (x_ret (r_tup (r_cons q_lit (r_cons (r_loc rfl rfl) (r_cons (r_call (r_cons (r_loc rfl hU) (r_cons (r_loc rfl rfl) q_nil)) e2) q_nil)))))))) kr_r)))))))))))) rfl rfl
  · rw [hf]
    refine .tup (.str (.ref (Nat.le_refl _) (by simpa using ha2) (r.mono (by lia) ?_) (r2.mono (by lia) fun _ _ _ h => h))) .nil
    exact fun _ _ _ h => F3.get0 h

theorem turn_kt {cf : CF} {n : Nat} {names : List Str} {caps : List (Nat × Nat)} {t : Tgt} {elt : IE} {ls lc : List AV} {v y : AV} {H H' : AH} (hc : bindT t v (capture names.length caps ls) = some lc) (he : evE cf n elt lc H = some (y, H')) : turnC cf n names caps t .kt elt ls v H = some (some y, H') := by
  refine bs hc ?_
  show (evE cf n elt lc H).bind _ = _
  rw [he]; rfl
theorem form_vec {tb rows dict : Nat} {a b : Dat} (hA : FormP tb rows dict a) (hB : FormP tb rows dict b) : FormP tb rows dict (.vec a b) := by
  intro n B H L V hn T hD
  simp only [Dat.deep] at hn
  obtain ⟨k, rfl⟩ : ∃ k, n = k + 1 := ⟨n - 1, by lia⟩
  cases hD with
  | @vec _ _ t va vb hBt ht hda hdb =>
  obtain ⟨H1, v1, e1, F1, r1⟩ := hA (n := k) (by lia) T hda
  obtain ⟨H2, v2, e2, F2, r2⟩ := hB (n := k) (by lia) (T.fr0 F1) (hdb.fr0 F1)
  have ht1 := F1.get0 ht
  have ht2 := F2.get0 ht1
  have u1 := hda.isU
  have u2 := hdb.isU
  have s1 : turnC (cP k) k ["part", "table"] [(1, 1)] (.one 0) c3_1t c3_1e [.rcd 5 [.ref t, .non], .ref tb, .unb] va H = some (some v1, H1) :=
    turn_kt (lc := [va, .ref tb]) rfl (by
      clear hA hB T hda hdb F1 F2 r1 r2 ht1 ht2 e2
      exact eqv (r_call (r_cons (r_loc rfl u1) (r_cons (r_loc rfl rfl) q_nil)) e1) rfl rfl)
  have s2 : turnC (cP k) k ["part", "table"] [(1, 1)] (.one 0) c3_1t c3_1e [.rcd 5 [.ref t, .non], .ref tb, .unb] vb H1 = some (some v2, H2) :=
    turn_kt (lc := [vb, .ref tb]) rfl (by
      clear hA hB T hda hdb F1 F2 r1 r2 ht1 ht2 e1
      exact eqv (r_call (r_cons (r_loc rfl u2) (r_cons (r_loc rfl rfl) q_nil)) e2) rfl rfl)
  have hL : loopC (.heap t) (turnC (cP k) k ["part", "table"] [(1, 1)] (.one 0) c3_1t c3_1e [.rcd 5 [.ref t, .non], .ref tb, .unb]) k 0 [] H = some ([v1, v2], H2) := by
    obtain ⟨j, rfl⟩ : ∃ j, k = j + 3 := ⟨k - 3, by lia⟩
    exact l_turn (n_heap ht) s1 (l_turn (n_heap ht1) s2 (l_end (n_heap ht2)))
  refine ⟨H2, .tup [.str sVector, .lst [v1, v2]], ?_, F1.trans' F2, ?_⟩
  · have hsr : srcOf (.ref t) = some (.heap t) := rfl
    rw [callF_code (fn := fn3) (ls := [.rcd 5 [.ref t, .non], .ref tb, .unb]) rfl rfl rfl]
    clear hA hB T hda hdb F1 F2 r1 r2 s1 s2 ht ht1 ht2 e1 e2
    exact eqr (s_ite (t_val (r_isi (r_loc rfl rfl) q_cd)) (i_f rfl (k_nil (s_ite (t_val (r_isi (r_loc rfl rfl) q_cd)) (i_f rfl (k_nil (s_ite (t_val (r_isi (r_loc rfl rfl) q_c)) (i_t rfl (k_any (x_ret (r_tup (r_cons q_lit (r_cons (r_compF (r_attr (r_loc rfl rfl) (a_c rfl)) (i_f rfl hsr) hL) q_nil)))) kr_r))))))))) rfl rfl
  · refine .tup (.str (.lst (Rep.append (vs := [v1]) (ws := [a.fp.form]) (r1.mono (Nat.le_refl _) fun _ _ _ h => F2.get0 h) (r2.mono F1.1 fun _ _ _ h => h)) .nil)) .nil

theorem chain_two {tb rows dict : Nat} {D a b : Dat} (hA : FormP tb rows dict a) (hB : FormP tb rows dict b) (hda : a.deep < D.deep) (hdb : b.deep < D.deep) (hp : D.fp.parts = [a.fp.form, b.fp.form]) (ht : D.fp.tail = emptyF) (hV : ∀ {H L B V}, DV H L B D V → ∃ va vb, V = pairV va (pairV vb (.spc 0)) ∧ DV H L B a va ∧ DV H L B b vb) : ChainP tb rows dict D := by
  intro n B H0 L V hn T hD H pa acc m F hpa ha hl
  obtain ⟨va, vb, rfl, da, db⟩ := hV hD
  have hn2 : 2 * D.deep + 9 ≤ n := hn.1.elim (fun q => by lia) (fun q => q.2)
  have hn3 := hn.2
  clear hn
  rw [hp] at hl ⊢
  simp only [List.length_cons, List.length_nil] at hl ⊢
  obtain ⟨H1, v1, s1, F1, G1, ha1, r1⟩ := chain_step hA (n := n) (vd := pairV vb (.spc 0)) (by lia) T da rfl F hpa ha (by lia)
  obtain ⟨H2, v2, s2, F2, G2, ha2, r2⟩ := chain_step hB (n := n) (vd := .spc 0) (by lia) T db rfl F1 hpa ha1 (by simp; lia)
  refine ⟨H2, [v1, v2], .spc 0, w_turn chain_test s1 (w_turn chain_test s2 (w_end chain_stop)), F2, G1.trans' G2, by simpa using ha2, ?_, rfl, H2, emptyF, ?_, .refl, ?_⟩
  · exact Rep.append (vs := [v1]) (ws := [a.fp.form]) (r1.mono (Nat.le_refl _) (Ab.fr G2 (by simp))) r2
  · obtain ⟨j, rfl⟩ : ∃ j, n = j + 1 := ⟨n - 1, by lia⟩
    exact form_empty
  · rw [ht]; exact .tup (.str .nil) .nil

theorem chain_dot {tb rows dict : Nat} {a b : Dat} (hA : FormP tb rows dict a) (hB : ChainP tb rows dict b) : ChainP tb rows dict (.dot a b) := by
  intro n B H0 L V hn T hD H pa acc m F hpa ha hl
  simp only [Dat.deep] at hn
  have hn2 : 2 * (max a.deep b.deep + 1) + 9 ≤ n := hn.1.elim (fun q => by lia) (fun q => q.2)
  have hn3 := hn.2
  clear hn
  simp only [Dat.fp, List.length_cons] at hl ⊢
  cases hD with
  | @dot _ _ va vb da db =>
  obtain ⟨H1, v1, s1, F1, G1, ha1, r1⟩ := chain_step hA (n := n) (vd := vb) (by lia) T da db.isU F hpa ha (by lia)
  obtain ⟨H2, ps, Vt, e, F2, G2, ha2, r2, hU, H3, v, e3, F3, r3⟩ := hB ⟨.inl (by lia), hn3⟩ T db m F1 hpa ha1 (by simp; lia)
  refine ⟨H2, v1 :: ps, Vt, ?_, F2, G1.trans' G2, by simpa using ha2, ?_, hU, H3, v, e3, F3, r3⟩
  · rw [show m + (b.fp.parts.length + 1) + 1 = (m + b.fp.parts.length + 1) + 1 by lia]
    exact w_turn chain_test s1 e
  · exact Rep.append (vs := [v1]) (ws := [a.fp.form]) (r1.mono (Nat.le_refl _) (Ab.fr G2 (by simp))) r2

theorem form_simple {tb rows dict : Nat} {D : Dat} (h : ∀ {n H L B V}, TB tb rows dict H L → DV H L B D V → cP (n + 2) 3 [V, .ref tb] H = some (D.fp.form, H)) (hr : ∀ {H B}, Rep H B [D.fp.form] [D.fp.form]) : FormP tb rows dict D := by
  intro n B H L V hn T hD
  obtain ⟨k, rfl⟩ : ∃ k, n = k + 2 := ⟨n - 2, by lia⟩
  exact ⟨H, _, h T hD, .refl, hr⟩

theorem form_sym {tb rows dict : Nat} {v : List Nat} {up : Bool} : FormP tb rows dict (.sym v up) := form_simple (fun T hD => by cases hD with | sym h => exact form_atom_sym T h) (.tup (.str (.str .nil)) .nil)
theorem forms {tb rows dict : Nat} : ∀ D : Dat, D.ok → FormP tb rows dict D ∧ ChainP tb rows dict D
  | .sym v up, _ => by
    have h : FormP tb rows dict (.sym v up) := form_sym
    refine ⟨h, chain_of_form h rfl rfl fun T hD => ?_⟩
    cases hD with
    | sym h =>
      obtain ⟨i, hi⟩ := look_mem h
      rw [s_ref, T.syms i _ _ hi]; rfl
  | .num i, _ => by
    have h : FormP tb rows dict (.num i) := form_simple (fun T hD => by cases hD; exact form_int) (.tup (.str (.int .nil)) .nil)
    exact ⟨h, chain_of_form h rfl rfl fun T hD => by cases hD; rfl⟩
  | .txt, _ => by
    have h : FormP tb rows dict .txt := form_simple (fun T hD => by cases hD; exact form_txt) (.tup (.str (.lst (.int (.int (.int .nil))) .nil)) .nil)
    exact ⟨h, chain_of_form h rfl rfl fun T hD => by cases hD; rfl⟩
  | .vec a b, h => by
    have h : FormP tb rows dict (.vec a b) := form_vec (forms a h.1).1 (forms b h.2).1
    exact ⟨h, chain_of_form h rfl rfl fun T hD => by cases hD; rfl⟩
  | .quo d, h => by
    have hs : FormP tb rows dict (.sym sQuote false) := form_sym
    have c : ChainP tb rows dict (.quo d) := chain_two hs (forms d h).1 (by simp [Dat.deep]) (by simp [Dat.deep]) rfl rfl fun hD => by
      cases hD with | quo h hd => exact ⟨_, _, rfl, .sym h, hd⟩
    exact ⟨form_of_chain c (by simp [Dat.fp]) rfl fun hD => by cases hD; exact ⟨_, _, rfl⟩, c⟩
  | .lst a b, h => by
    have c : ChainP tb rows dict (.lst a b) := chain_two (forms a h.1).1 (forms b h.2).1 (by simp [Dat.deep]; lia) (by simp [Dat.deep]; lia) rfl rfl fun hD => by
      cases hD with | lst ha hb => exact ⟨_, _, rfl, ha, hb⟩
    exact ⟨form_of_chain c (by simp [Dat.fp]) rfl fun hD => by cases hD; exact ⟨_, _, rfl⟩, c⟩
  | .dot a b, h => by
    have c : ChainP tb rows dict (.dot a b) := chain_dot (forms a h.1).1 (forms b h.2).2
    exact ⟨form_of_chain c (by simp [Dat.fp]) rfl fun hD => by cases hD; exact ⟨_, _, rfl⟩, c⟩
end
section
noncomputable def up {α : Type} (f : Nat → α) (t : Nat) (x : α) : Nat → α := fun s => if s = t then x else f s
theorem up_self {α : Type} (f : Nat → α) (t : Nat) (x : α) : up f t x t = x := by simp [up]
theorem up_ne {α : Type} (f : Nat → α) {t s : Nat} (x : α) (h : s ≠ t) : up f t x s = f s := by simp [up, h]

noncomputable abbrev Item := Dat × List Nat
noncomputable def txtI : List Item → List Nat
  | [] => []
  | (d, g) :: r => d.text ++ (g ++ txtI r)
structure ItemOk (i : Item) : Prop where
  ok : i.1.ok
  deep : i.1.deep ≤ 2
  toks : i.1.toks ≤ 20
  ne : i.1.text ≠ []
  gap : ∃ k, Gap i.2 k ∧ k ≤ 50
  ends : ∃ c r, i.2 = c :: r ∧ delims.contains c = true

structure LR where
  (b tb rows dict : Nat) (tx : Nat → List Nat)
namespace LR
noncomputable abbrev rdA (S : LR) (t : Nat) : Nat := S.b + 3 * t + 2
noncomputable abbrev lxA (S : LR) (t : Nat) : Nat := S.b + 3 * t
noncomputable abbrev foA (S : LR) (t : Nat) : Nat := S.b + 6 + t
noncomputable abbrev laA (S : LR) : Nat := S.b + 8
noncomputable abbrev E (S : LR) (t : Nat) : Env := ⟨S.rdA t, S.lxA t, S.tb, S.rows, S.dict, S.tx t⟩
end LR
structure Inv (S : LR) (Hin H : AH) (p : Nat → Nat) (ps : Nat → List Item) (done : Nat → List AV) (N : List (List Nat)) : Prop where
  tab : ∃ L, TB S.tb S.rows S.dict H L ∧ nms L = N ∧ L.length + 20 * (ps 0).length + 20 * (ps 1).length ≤ 400
  rd : ∀ t, t < 2 → ∃ af, H[S.rdA t]? = some (.inst 10 [.ref (S.lxA t), .ref S.tb, .ref af])
  lx : ∀ t, t < 2 → H[S.lxA t]? = some (lexO (S.tx t) (p t))
  txt : ∀ t, t < 2 → ∃ g k, Gap g k ∧ k ≤ 50 ∧ (S.tx t).drop (p t) = g ++ txtI (ps t)
  le : ∀ t, t < 2 → p t ≤ (S.tx t).length ∧ (S.tx t).length ≤ 10000
  ok : ∀ t, t < 2 → ∀ i ∈ ps t, ItemOk i
  fo : ∀ t, t < 2 → ∃ vs, H[S.foA t]? = some (.list vs) ∧ Rep H (S.b + 9) vs (done t) ∧ vs.length + (ps t).length ≤ 100
  la : H[S.laA]? = some (.list [.int (p 0 : Nat), .int (p 1 : Nat)])
  fr : Fr [S.rows, S.dict] Hin H
  hb : S.b + 9 ≤ H.length ∧ Hin.length = S.b ∧ S.tb < S.b ∧ S.rows < S.b ∧ S.dict < S.b

noncomputable abbrev lrLs (S : LR) (tv x y z : AV) : List AV := [.ref S.tb, .lst [.str (S.tx 0), .str (S.tx 1)], tv, .lst [.ref (S.rdA 0), .ref (S.rdA 1)], .lst [.ref (S.foA 0), .ref (S.foA 1)], .ref S.laA, x, y, z]

theorem c_place {n rd lx p : Nat} {tx : List Nat} {H : AH} {e1 e2 : AV} (hr : H[rd]? = some (.inst 10 [.ref lx, e1, e2])) (hl : H[lx]? = some (lexO tx p)) : cP (n + 1) 6 [.ref rd] H = some (.int (p : Nat), H) := by
  rw [callF_code (fn := fn6) (ls := [.ref rd]) rfl rfl rfl]
  exact eqr (x_ret (r_attr (r_attr (r_loc rfl rfl) (a_r hr rfl)) (a_r hl rfl))) rfl rfl
theorem dv_not_eof {H : AH} {L : List (List Nat × Nat)} {B : Nat} {D : Dat} {V : AV} (h : DV H L B D V) : isV V (.spc 1) = some false := by cases h <;> rfl

@[elab_as_elim] theorem two {C : Nat → Prop} {t : Nat} (ht : t < 2) (h0 : C 0) (h1 : C 1) : C t := (Nat.le_one_iff_eq_zero_or_eq_one.mp (Nat.le_of_lt_succ ht)).elim (fun h => h ▸ h0) (fun h => h ▸ h1)
theorem each {C : Nat → Prop} {t : Nat} (h1 : C t) (h2 : ∀ s, s < 2 → s ≠ t → C s) : ∀ s, s < 2 → C s := fun s hs => if q : s = t then q ▸ h1 else h2 s hs q
theorem up_len {α : Type} {ps : Nat → List α} {t : Nat} {rest : List α} (ht : t < 2) (hh : (ps t).length = rest.length + 1) : (up ps t rest 0).length + (up ps t rest 1).length + 1 = (ps 0).length + (ps 1).length := by
  revert hh
  exact two ht (fun hh => by rw [up_self, up_ne _ _ (by decide), hh]; lia) (fun hh => by rw [up_self, up_ne _ _ (by decide), hh]; lia)
theorem lr_turn {S : LR} {Hin H : AH} {p : Nat → Nat} {ps : Nat → List Item} {done : Nat → List AV} {N : List (List Nat)} (I : Inv S Hin H p ps done N) {t : Nat} (ht : t < 2) {d : Dat} {g : List Nat} {rest : List Item} (hps : ps t = (d, g) :: rest) (tv x y : AV) :
    ∃ H' p' V, evS (cP 98) 98 f5_1b (lrLs S tv (.int (t : Nat)) x y) H = some (.nxt, lrLs S tv (.int (t : Nat)) V (.int (p' : Nat)), H') ∧ Inv S Hin H' (up p t p') (up ps t rest) (up done t (done t ++ [d.fp.form])) (grow N d.names) := by
  obtain ⟨⟨L, T, hN, hL⟩, hrd, hlx, htxt, hle, hok, hfo, hla, hfr, hb1, hb2, hb3, hb4, hb5⟩ := I
  obtain ⟨af, hr⟩ := hrd t ht
  have hl := hlx t ht
  obtain ⟨g0, k0, hg, hk, hd⟩ := htxt t ht
  rw [hps] at hd
  simp only [txtI] at hd
  have hit := hok t ht (d, g) (by rw [hps]; simp)
  obtain ⟨c, cr, hgc, hgd⟩ := hit.ends
  obtain ⟨kg, hgg, hkg⟩ := hit.gap
  simp only at hgc hgg
  have hsum : 20 + 20 * rest.length ≤ 20 * (ps 0).length + 20 * (ps 1).length := by
    have hh : (ps t).length = rest.length + 1 := by rw [hps]; rfl
    rcases (by lia : t = 0 ∨ t = 1) with e | e <;> rw [e] at hh <;> lia
  have htk := hit.toks
  have hdp := hit.deep
  simp only at htk hdp
  obtain ⟨H1, L1, V, e1, R1, dv, hn, hE, F1, hLl⟩ := c_read (E := S.E t) (D := d) (hle t ht).2 hit.ok hg hk ⟨T, ⟨af, hr⟩, hl⟩ hd (by rw [hgc]; exact hgd) (by lia) (by lia) (by lia)
  have hd1 := at_step (at_step hd)
  obtain ⟨T1, ⟨af1, hr1⟩, hl1⟩ := R1
  have hlt := at_lt (hd1.trans (by rw [hgc]; rfl))
  have hle2 := (hle t ht).2
  have hr1 : H1[S.rdA t]? = some (.inst 10 [.ref (S.lxA t), .ref S.tb, .ref af1]) := hr1
  have hl1 : H1[S.lxA t]? = some (lexO (S.tx t) (p t + g0.length + d.text.length)) := hl1
  have ep := c_place (n := 97) hr1 hl1
  have hdl : 0 < d.text.length := List.length_pos_iff.mpr hit.ne
  generalize hp' : p t + g0.length + d.text.length = p' at hl1 ep hlt hd1
  have hpp : p t < p' := by lia
  have hbl : (S.E t).rd = S.rdA t ∧ (S.E t).lx = S.lxA t ∧ (S.E t).rows = S.rows ∧ (S.E t).dict = S.dict := ⟨rfl, rfl, rfl, rfl⟩
  have ni : ∀ a, a ≠ S.rdA t → a ≠ S.lxA t → a ≠ S.rows → a ≠ S.dict → a ∉ [(S.E t).rd, (S.E t).lx, (S.E t).rows, (S.E t).dict] := by
    intro a h1 h2 h3 h4
    simp only [List.mem_cons, List.not_mem_nil, or_false, not_or]
    exact ⟨h1, h2, h3, h4⟩
  have la1 := F1.get hla (ni _ (by simp only [LR.rdA, LR.lxA, LR.foA, LR.laA]; lia) (by simp only [LR.rdA, LR.lxA, LR.foA, LR.laA]; lia) (by simp only [LR.rdA, LR.lxA, LR.foA, LR.laA]; lia) (by simp only [LR.rdA, LR.lxA, LR.foA, LR.laA]; lia))
  have hset : [AV.int (p 0 : Nat), AV.int (p 1 : Nat)].set ((t : Nat) : Int).toNat (.int (p' : Nat)) = [.int ((up p t p' 0 : Nat) : Int), .int ((up p t p' 1 : Nat) : Int)] := two ht rfl rfl
  have nla : ∀ L, TB S.tb S.rows S.dict H1 L → TB S.tb S.rows S.dict (H1.set S.laA (.list [.int ((up p t p' 0 : Nat) : Int), .int ((up p t p' 1 : Nat) : Int)])) L := fun L T => T.set la1 (by simp) (by simp) (by simp) (by simp only [LR.rdA, LR.lxA, LR.foA, LR.laA]; lia)
  have T2 := nla _ T1
  have dv2 : DV (H1.set S.laA (.list [.int ((up p t p' 0 : Nat) : Int), .int ((up p t p' 1 : Nat) : Int)])) L1 H.length d V := dv.mono .refl (Nat.le_refl _) (Ab.set (by simp only [LR.rdA, LR.lxA, LR.foA, LR.laA]; lia))
  obtain ⟨H3, v, e3, F3, r3⟩ := (forms d hit.ok).1 (n := 98) ⟨by lia, by lia⟩ T2 dv2
  obtain ⟨vs, hf0, rep0, hvl⟩ := hfo t ht
  have hll1 : H.length ≤ H1.length := F1.1
  have foN : S.foA t ≠ S.laA := by simp only [LR.rdA, LR.lxA, LR.foA, LR.laA]; lia
  have hf1 := F1.get hf0 (ni _ (by simp only [LR.rdA, LR.lxA, LR.foA, LR.laA]; lia) (by simp only [LR.rdA, LR.lxA, LR.foA, LR.laA]; lia) (by simp only [LR.rdA, LR.lxA, LR.foA, LR.laA]; lia) (by simp only [LR.rdA, LR.lxA, LR.foA, LR.laA]; lia))
  have hf2 : (H1.set S.laA (.list [.int ((up p t p' 0 : Nat) : Int), .int ((up p t p' 1 : Nat) : Int)]))[S.foA t]? = some (.list vs) := by rw [List.getElem?_set_ne foN.symm]; exact hf1
  have hf3 := F3.get0 hf2
  have la2 : (H1.set S.laA (.list [.int ((up p t p' 0 : Nat) : Int), .int ((up p t p' 1 : Nat) : Int)]))[S.laA]? = some (.list [.int ((up p t p' 0 : Nat) : Int), .int ((up p t p' 1 : Nat) : Int)]) := by rw [g_set, la1]; rfl
  refine ⟨H3.set (S.foA t) (.list (vs ++ [v])), p', V, ?_, ?_⟩
  · have hx3 : [AV.ref (S.rdA 0), AV.ref (S.rdA 1)][t]? = some (.ref (S.rdA t)) := two ht rfl rfl
    have hx4 : [AV.ref (S.foA 0), AV.ref (S.foA 1)][t]? = some (.ref (S.foA t)) := two ht rfl rfl
    have hx1 : [AV.str (S.tx 0), AV.str (S.tx 1)][t]? = some (.str (S.tx t)) := two ht rfl rfl
    have hx5 : [AV.int (p 0 : Nat), AV.int (p 1 : Nat)][t]? = some (.int (p t : Nat)) := two ht rfl rfl
    have hne : cmpV H1 .is V (.spc 1) = some false := dv_not_eof dv
    have hVU := dv.isU
    have hc1 : decide ((p t : Int) < (p' : Int)) = true := decide_eq_true (by lia)
    have hc2 : decide ((p' : Int) ≤ ((S.tx t).length : Int)) = true := decide_eq_true (by have : p' < (S.tx t).length := hlt; lia)
    have hvU : isU v = false := r3.isU
    have hvl' : vs.length ≤ 10000 := by lia
    have e1' : cP 98 7 [.ref (S.rdA t)] H = some (V, H1) := e1
    have ep' : cP 98 6 [.ref (S.rdA t)] H1 = some (.int (p' : Nat), H1) := ep
    have hr' : H[S.rdA t]? = some (.inst 10 [.ref (S.lxA t), .ref S.tb, .ref af]) := hr
    have hr1' : H1[S.rdA t]? = some (.inst 10 [.ref (S.lxA t), .ref S.tb, .ref af1]) := hr1
    clear T T1 T2 nla ni hN hL hrd hlx htxt hle hok hfo hfr hps hd hd1 F1 F3 r3 rep0 dv dv2 hE hn e1 ep hr hr1 hl hl1 hit hg hgg hf0 hf1
    exact eqs (x_asg (r_mown (r_sub (r_loc rfl rfl) (r_loc rfl rfl) (u_l hx3 ⟨(by lia), (by lia)⟩)) (q_r hr') q_nil e1') rfl (x_asg (r_mown (r_sub (r_loc rfl rfl) (r_loc rfl rfl) (u_l hx3 ⟨(by lia), (by lia)⟩)) (q_r hr1') q_nil ep') rfl (s_ite (t_or (t_cmp (r_loc rfl hVU) q_glb hne) (i_f rfl (t_or (t_not (t_cm2 (r_sub (r_loc rfl rfl) (r_loc rfl rfl) (u_r la1 hx5 ⟨(by lia), (by lia)⟩)) (r_loc rfl rfl) rfl (i_t hc1 (t_cm3 (r_bi (r_cons (r_sub (r_loc rfl rfl) (r_loc rfl rfl) (u_l hx1 ⟨(by lia), (by lia)⟩)) q_nil) (b_lenS hle2)) rfl)))) (i_f (not_t hc2) q_kf)))) (i_f rfl (k_nil (s_asgS (r_loc rfl rfl) (r_loc rfl rfl) (r_loc rfl rfl) (si_r la1 ⟨(by lia), ⟨(by simp; lia), (of_decide_eq_true rfl)⟩⟩ hset rfl) (s_expr (r_meth (r_sub (r_loc rfl rfl) (r_loc rfl rfl) (u_l hx4 ⟨(by lia), (by lia)⟩)) (rv_ap hf2) (r_cons (r_call (r_cons (r_loc rfl hVU) (r_cons (r_loc rfl rfl) q_nil)) e3) q_nil) (ap_r hf3 hvl' rfl rfl)) q_snil))))))) rfl rfl rfl
  · have keep1 : ∀ a o, H1[a]? = some o → a ≠ S.laA → a ≠ S.foA t → (H3.set (S.foA t) (.list (vs ++ [v])))[a]? = some o := by
      intro a o h h1 h2
      rw [List.getElem?_set_ne h2.symm]
      exact F3.get0 (by rw [List.getElem?_set_ne h1.symm]; exact h)
    have keep : ∀ a o, H[a]? = some o → a ≠ S.rdA t → a ≠ S.lxA t → a ≠ S.rows → a ≠ S.dict → a ≠ S.laA → a ≠ S.foA t → (H3.set (S.foA t) (.list (vs ++ [v])))[a]? = some o := fun a o h h1 h2 h3 h4 h5 h6 => keep1 a o (F1.get h (ni a h1 h2 h3 h4)) h5 h6
    have ab : Ab (S.b + 9) H (H3.set (S.foA t) (.list (vs ++ [v]))) := by
      intro a o h1 h
      exact keep a o h (by simp only [LR.rdA, LR.lxA, LR.foA, LR.laA]; lia) (by simp only [LR.rdA, LR.lxA, LR.foA, LR.laA]; lia) (by lia) (by lia) (by simp only [LR.rdA, LR.lxA, LR.foA, LR.laA]; lia) (by simp only [LR.rdA, LR.lxA, LR.foA, LR.laA]; lia)
    have l3 : H1.length ≤ H3.length := by have := F3.1; simpa using this
    refine ⟨⟨L1, (T2.fr0 F3).set hf3 (by simp) (by simp) (by simp) (by simp only [LR.rdA, LR.lxA, LR.foA, LR.laA]; lia), by rw [hn, hN], ?_⟩, ?_, ?_, ?_, ?_, ?_, ?_, ?_, ?_, ?_⟩
    · have hh : (ps t).length = rest.length + 1 := by rw [hps]; rfl
      have h0 : (up ps t rest 0).length + (up ps t rest 1).length + 1 = (ps 0).length + (ps 1).length := up_len ht hh
      lia
    · refine each (t := t) ?_ fun s hs q => ?_
      · exact ⟨af1, keep1 _ _ hr1 (by simp only [LR.rdA, LR.lxA, LR.foA, LR.laA]; lia) (by simp only [LR.rdA, LR.lxA, LR.foA, LR.laA]; lia)⟩
      · obtain ⟨a2, h2⟩ := hrd s hs
        exact ⟨a2, keep _ _ h2 (by simp only [LR.rdA, LR.lxA, LR.foA, LR.laA]; lia) (by simp only [LR.rdA, LR.lxA, LR.foA, LR.laA]; lia) (by simp only [LR.rdA, LR.lxA, LR.foA, LR.laA]; lia) (by simp only [LR.rdA, LR.lxA, LR.foA, LR.laA]; lia) (by simp only [LR.rdA, LR.lxA, LR.foA, LR.laA]; lia) (by simp only [LR.rdA, LR.lxA, LR.foA, LR.laA]; lia)⟩
    · refine each (t := t) ?_ fun s hs q => ?_
      · rw [up_self]
        exact keep1 _ _ hl1 (by simp only [LR.rdA, LR.lxA, LR.foA, LR.laA]; lia) (by simp only [LR.rdA, LR.lxA, LR.foA, LR.laA]; lia)
      · rw [up_ne _ _ q]
        exact keep _ _ (hlx s hs) (by simp only [LR.rdA, LR.lxA, LR.foA, LR.laA]; lia) (by simp only [LR.rdA, LR.lxA, LR.foA, LR.laA]; lia) (by simp only [LR.rdA, LR.lxA, LR.foA, LR.laA]; lia) (by simp only [LR.rdA, LR.lxA, LR.foA, LR.laA]; lia) (by simp only [LR.rdA, LR.lxA, LR.foA, LR.laA]; lia) (by simp only [LR.rdA, LR.lxA, LR.foA, LR.laA]; lia)
    · refine each (t := t) ?_ fun s hs q => ?_
      · rw [up_self, up_self]
        exact ⟨g, kg, hgg, hkg, hd1⟩
      · rw [up_ne _ _ q, up_ne _ _ q]
        exact htxt s hs
    · refine each (t := t) ?_ fun s hs q => ?_
      · rw [up_self]
        exact ⟨Nat.le_of_lt hlt, hle2⟩
      · rw [up_ne _ _ q]
        exact hle s hs
    · refine each (t := t) ?_ fun s hs q => ?_
      · rw [up_self]
        exact fun i hi => hok t ht i (by rw [hps]; exact List.mem_cons_of_mem _ hi)
      · rw [up_ne _ _ q]
        exact hok s hs
    · refine each (t := t) ?_ fun s hs q => ?_
      · rw [up_self, up_self]
        refine ⟨vs ++ [v], by rw [g_set, hf3]; rfl, (rep0.mono (Nat.le_refl _) ab).append (r3.mono (by simp; lia) (Ab.set (lt_of hf2))), ?_⟩
        rw [hps] at hvl
        simp at hvl ⊢
        lia
      · rw [up_ne _ _ q, up_ne _ _ q]
        obtain ⟨ws, h1, h2, h3⟩ := hfo s hs
        exact ⟨ws, keep _ _ h1 (by simp only [LR.rdA, LR.lxA, LR.foA, LR.laA]; lia) (by simp only [LR.rdA, LR.lxA, LR.foA, LR.laA]; lia) (by simp only [LR.rdA, LR.lxA, LR.foA, LR.laA]; lia) (by simp only [LR.rdA, LR.lxA, LR.foA, LR.laA]; lia) (by simp only [LR.rdA, LR.lxA, LR.foA, LR.laA]; lia) (by simp only [LR.rdA, LR.lxA, LR.foA, LR.laA]; lia), h2.mono (Nat.le_refl _) ab, h3⟩
    · rw [List.getElem?_set_ne foN]
      exact F3.get0 la2
    · have G1 : Fr [S.rows, S.dict] Hin H1 := hfr.trans F1 (fun _ h => h) (by
        intro a h
        simp only [List.mem_cons, List.not_mem_nil, or_false] at h ⊢
        rcases h with rfl | rfl | rfl | rfl
        · right; simp only [LR.rdA, LR.lxA, LR.foA, LR.laA]; lia
        · right; simp only [LR.rdA, LR.lxA, LR.foA, LR.laA]; lia
        · left; left; rfl
        · left; right; rfl)
      have G2 : Fr [S.rows, S.dict] Hin (H1.set S.laA (.list [.int ((up p t p' 0 : Nat) : Int), .int ((up p t p' 1 : Nat) : Int)])) := G1.trans (Fr.set (S := [S.laA]) (by simp)) (fun _ h => h) (by simp only [List.mem_cons, List.not_mem_nil, or_false]; rintro a rfl; right; simp only [LR.rdA, LR.lxA, LR.foA, LR.laA]; lia)
      exact (G2.trans' (F3.mono (by simp))).trans (Fr.set (S := [S.foA t]) (by simp)) (fun _ h => h) (by simp only [List.mem_cons, List.not_mem_nil, or_false]; rintro a rfl; right; simp only [LR.rdA, LR.lxA, LR.foA, LR.laA]; lia)
    · refine ⟨?_, hb2, hb3, hb4, hb5⟩
      simp
      lia
end
section
theorem Inv.congr {S : LR} {Hin H : AH} {p : Nat → Nat} {ps ps' : Nat → List Item} {done done' : Nat → List AV} {N : List (List Nat)} (I : Inv S Hin H p ps done N) (h : ∀ t, t < 2 → ps t = ps' t) (h' : ∀ t, t < 2 → done t = done' t) : Inv S Hin H p ps' done' N := by
  obtain ⟨⟨L, T, hN, hL⟩, hrd, hlx, htxt, hle, hok, hfo, hla, hfr, hb⟩ := I
  refine ⟨⟨L, T, hN, by rw [← h 0 (by decide), ← h 1 (by decide)]; exact hL⟩, hrd, hlx, ?_, hle, ?_, ?_, hla, hfr, hb⟩
  · intro t ht; rw [← h t ht]; exact htxt t ht
  · intro t ht; rw [← h t ht]; exact hok t ht
  · intro t ht; rw [← h t ht, ← h' t ht]; exact hfo t ht

noncomputable def namesOrd : List Nat → (Nat → List Item) → List (List Nat)
  | [], _ => []
  | t :: ts, ps => match ps t with
    | [] => namesOrd ts ps
    | i :: r => i.1.names ++ namesOrd ts (up ps t r)

theorem l_lr {S : LR} {Hin : AH} {sr : Src} {full : List Nat} (hsr : ∀ H j, Fr [S.rows, S.dict] Hin H → nextOf H j sr = some ((full[j]?).map fun (t : Nat) => .int (t : Nat))) :
    ∀ (ts pre : List Nat), full = pre ++ ts → ∀ {H : AH} {p : Nat → Nat} {ps : Nat → List Item} {done : Nat → List AV} {N : List (List Nat)}, Inv S Hin H p ps done N → (∀ t ∈ ts, t < 2) → (∀ t, t < 2 → ts.count t = (ps t).length) → ∀ (tv x y z : AV) (m : Nat),
    ∃ H' p' x' y' z', loopF sr (.one 6) (evS (cP 98) 98 f5_1b) (m + ts.length + 1) pre.length (lrLs S tv x y z) H = some (.nxt, lrLs S tv x' y' z', H') ∧ Inv S Hin H' p' (fun _ => []) (fun t => done t ++ (ps t).map fun i => i.1.fp.form) (grow N (namesOrd ts ps)) := by
  intro ts
  induction ts with
  | nil =>
    intro pre hfull H p ps done N I h2 hc tv x y z m
    have hp : ∀ t, t < 2 → ps t = [] := fun t ht => List.length_eq_zero_iff.mp (by rw [← hc t ht]; rfl)
    refine ⟨H, p, x, y, z, f_end ?_, I.congr hp fun t ht => by rw [hp t ht]; simp⟩
    rw [hsr H _ I.fr, hfull]; simp
  | cons t ts ih =>
    intro pre hfull H p ps done N I h2 hc tv x y z m
    have ht : t < 2 := h2 t (by simp)
    have hct := hc t ht
    rw [List.count_cons_self] at hct
    rcases hps : ps t with _ | ⟨⟨d, g⟩, rest⟩
    · rw [hps] at hct; simp at hct
    obtain ⟨H1, p1, V, e1, I1⟩ := lr_turn I ht hps tv y z
    obtain ⟨H2, p2, x', y', z', e2, I2⟩ := ih (pre ++ [t]) (by rw [hfull]; simp) I1 (fun s hs => h2 s (List.mem_cons_of_mem _ hs)) (by
      intro s hs
      have := hc s hs
      by_cases q : s = t
      · subst q
        rw [up_self]
        rw [hps] at hct
        simpa using hct
      · rw [up_ne _ _ q, ← this, List.count_cons_of_ne (fun w => q w.symm)]) tv (.int (t : Nat)) V (.int (p1 : Nat)) m
    refine ⟨H2, p2, x', y', z', ?_, ?_⟩
    · rw [show m + (t :: ts).length + 1 = (m + ts.length + 1) + 1 by simp; lia]
      rw [show (pre ++ [t]).length = pre.length + 1 by simp] at e2
      refine f_turn (v := .int (t : Nat)) ?_ rfl e1 e2
      rw [hsr H _ I.fr, hfull]; simp
    · rw [show grow N (namesOrd (t :: ts) ps) = grow (grow N d.names) (namesOrd ts (up ps t rest)) by simp only [namesOrd, hps]; rw [grow_app]]
      refine I2.congr (fun _ _ => rfl) fun s hs => ?_
      by_cases q : s = t
      · subst q; rw [up_self, up_self, hps]; simp
      · rw [up_ne _ _ q, up_ne _ _ q]

theorem c_Lexer {n : Nat} {tx : List Nat} {H : AH} : cP (n + 1) 53 [.str tx, .int 53, .bool true] H = some (.ref H.length, H ++ [lexO tx 0]) := by
  rw [callF_newE (fn := fn53) rfl rfl rfl]; exact eqN (r_cons (r_loc rfl rfl) (r_cons (r_loc rfl rfl) (r_cons q_lit (r_cons (r_loc rfl rfl) q_nil)))) rfl rfl
theorem c_Reader {n tb : Nat} {tx : List Nat} {H : AH} : cP (n + 2) 55 [.str tx, .ref tb] H = some (.ref (H.length + 2), H ++ [lexO tx 0, .list [], .inst 10 [.ref H.length, .ref tb, .ref (H.length + 1)]]) := by
  rw [callF_newE (fn := fn55) (ls := [.unb, .str tx, .ref tb, .int 53, .bool true]) rfl rfl rfl]
  have e := @c_Lexer n tx H
  have hv : AV.ref (H ++ [lexO tx 0] ++ [AO.list []]).length = .ref (H.length + 2) := by simp
  have hw : H ++ [lexO tx 0] ++ [AO.list []] ++ [.inst 10 [.ref H.length, .ref tb, .ref (H ++ [lexO tx 0]).length]] = H ++ [lexO tx 0, .list [], .inst 10 [.ref H.length, .ref tb, .ref (H.length + 1)]] := by simp
  exact eqN (r_cons (r_call (r_cons (r_loc rfl rfl) (r_cons (r_loc rfl rfl) (r_cons (r_loc rfl rfl) q_nil))) e) (r_cons (r_loc rfl rfl) (r_cons (r_lstT q_nil) q_nil))) hv hw
theorem turn_f {cf : CF} {n : Nat} {names : List Str} {caps : List (Nat × Nat)} {t : Tgt} {cond : IT} {elt : IE} {ls lc : List AV} {v : AV} {H H' : AH} (hc : bindT t v (capture names.length caps ls) = some lc) (he : evT cf n cond lc H = some (false, H')) : turnC cf n names caps t cond elt ls v H = some (none, H') := by
  refine bs hc ?_
  show (evT cf n cond lc H).bind _ = _
  rw [he]; rfl

structure InvE (S : LR) (Hin H : AH) (p : Nat → Nat) (done : Nat → List AV) (N : List (List Nat)) : Prop where
  tab : ∃ L, TB S.tb S.rows S.dict H L ∧ nms L = N
  rd : ∀ t, t < 2 → ∃ af, H[S.rdA t]? = some (.inst 10 [.ref (S.lxA t), .ref S.tb, .ref af])
  lx : ∀ t, t < 2 → H[S.lxA t]? = some (lexO (S.tx t) (p t))
  txt : ∀ t, t < 2 → ∃ g k, Gap g k ∧ k ≤ 50 ∧ (S.tx t).drop (p t) = g
  le : ∀ t, t < 2 → p t ≤ (S.tx t).length ∧ (S.tx t).length ≤ 10000
  fo : ∀ t, t < 2 → ∃ vs, H[S.foA t]? = some (.list vs) ∧ Rep H (S.b + 9) vs (done t)
  fr : Fr [S.rows, S.dict] Hin H
  hb : S.b + 9 ≤ H.length ∧ Hin.length = S.b ∧ S.tb < S.b ∧ S.rows < S.b ∧ S.dict < S.b
theorem Inv.toE {S : LR} {Hin H : AH} {p : Nat → Nat} {done : Nat → List AV} {N : List (List Nat)} (I : Inv S Hin H p (fun _ => []) done N) : InvE S Hin H p done N := by
  obtain ⟨⟨L, T, hN, hL⟩, hrd, hlx, htxt, hle, hok, hfo, hla, hfr, hb⟩ := I
  refine ⟨⟨L, T, hN⟩, hrd, hlx, ?_, hle, ?_, hfr, hb⟩
  · intro t ht
    obtain ⟨g, k, h1, h2, h3⟩ := htxt t ht
    exact ⟨g, k, h1, h2, by rw [h3]; simp [txtI]⟩
  · intro t ht
    obtain ⟨vs, h1, h2, _⟩ := hfo t ht
    exact ⟨vs, h1, h2⟩
theorem InvE.eof {S : LR} {Hin H : AH} {p : Nat → Nat} {done : Nat → List AV} {N : List (List Nat)} (I : InvE S Hin H p done N) {t : Nat} (ht : t < 2) :
    ∃ H', cP 98 7 [.ref (S.rdA t)] H = some (.spc 1, H') ∧ H'[S.rdA t]? ≠ none ∧ InvE S Hin H' (up p t (S.tx t).length) done N ∧ (∃ fs, H[S.rdA t]? = some (.inst 10 fs)) := by
  obtain ⟨⟨L, T, hN⟩, hrd, hlx, htxt, hle, hfo, hfr, hb1, hb2, hb3, hb4, hb5⟩ := I
  obtain ⟨af, hr⟩ := hrd t ht
  obtain ⟨g, k, hg, hk, hd⟩ := htxt t ht
  obtain ⟨H1, e, R1, F1⟩ := c_read_end (E := S.E t) (hle t ht).2 hg hk ⟨T, ⟨af, hr⟩, hlx t ht⟩ hd (hle t ht).1
  obtain ⟨T1, ⟨af1, hr1⟩, hl1⟩ := R1
  have hr1 : H1[S.rdA t]? = some (.inst 10 [.ref (S.lxA t), .ref S.tb, .ref af1]) := hr1
  have hl1 : H1[S.lxA t]? = some (lexO (S.tx t) (S.tx t).length) := hl1
  have keep : ∀ a o, H[a]? = some o → a ≠ S.rdA t → a ≠ S.lxA t → H1[a]? = some o := fun a o h h1 h2 => F1.get h (by
    simp only [List.mem_cons, List.not_mem_nil, or_false, not_or]
    exact ⟨h1, h2⟩)
  have ab : Ab (S.b + 9) H H1 := fun a o h1 h => keep a o h (by simp only [LR.rdA]; lia) (by simp only [LR.lxA]; lia)
  refine ⟨H1, e, by rw [hr1]; simp, ⟨⟨L, T1, hN⟩, ?_, ?_, ?_, ?_, ?_, ?_, ?_⟩, ⟨_, hr⟩⟩
  · refine each (t := t) ⟨af1, hr1⟩ fun s hs q => ?_
    · obtain ⟨a2, h2⟩ := hrd s hs
      exact ⟨a2, keep _ _ h2 (by simp only [LR.rdA]; lia) (by simp only [LR.rdA, LR.lxA]; lia)⟩
  · refine each (t := t) (by rw [up_self]; exact hl1) fun s hs q => ?_
    · rw [up_ne _ _ q]
      exact keep _ _ (hlx s hs) (by simp only [LR.rdA, LR.lxA]; lia) (by simp only [LR.rdA, LR.lxA]; lia)
  · refine each (t := t) ?_ fun s hs q => ?_
    · rw [up_self]
      exact ⟨[], 0, .nil, by lia, by simp⟩
    · rw [up_ne _ _ q]; exact htxt s hs
  · refine each (t := t) (by rw [up_self]; exact ⟨Nat.le_refl _, (hle t ht).2⟩) fun s hs q => ?_
    · rw [up_ne _ _ q]; exact hle s hs
  · intro s hs
    obtain ⟨ws, h1, h2⟩ := hfo s hs
    exact ⟨ws, keep _ _ h1 (by simp only [LR.rdA, LR.foA]; lia) (by simp only [LR.lxA, LR.foA]; lia), h2.mono (Nat.le_refl _) ab⟩
  · exact hfr.trans F1 (fun _ h => h) (by
      intro a h
      simp only [List.mem_cons, List.not_mem_nil, or_false] at h ⊢
      rcases h with rfl | rfl
      · right; simp only [LR.rdA]; lia
      · right; simp only [LR.lxA]; lia)
  · exact ⟨Nat.le_trans hb1 F1.1, hb2, hb3, hb4, hb5⟩

theorem eqNilNil {H : AH} : cmpV H .eq (.lst []) (.lst []) = some true := by kernel_rfl

theorem loopC_2 {turn : AV → AH → Option (Option AV × AH)} {n : Nat} {v0 v1 y0 y1 : AV} {H H1 H2 : AH} (h0 : turn v0 H = some (some y0, H1)) (h1 : turn v1 H1 = some (some y1, H2)) : loopC (.items [v0, v1]) turn (n + 3) 0 [] H = some ([y0, y1], H2) := l_turn rfl h0 (l_turn rfl h1 (l_end rfl))
theorem loopC_2n {turn : AV → AH → Option (Option AV × AH)} {n : Nat} {v0 v1 : AV} {H H1 H2 : AH} (h0 : turn v0 H = some (none, H1)) (h1 : turn v1 H1 = some (none, H2)) : loopC (.items [v0, v1]) turn (n + 3) 0 [] H = some ([], H2) := l_none rfl h0 (l_none rfl h1 (l_end rfl))
theorem ev_reader {tb : Nat} {tx : List Nat} {H : AH} : evE (cP 98) 98 c5_1e [.str tx, .ref tb] H = some (.ref (H.length + 2), H ++ [lexO tx 0, .list [], .inst 10 [.ref H.length, .ref tb, .ref (H.length + 1)]]) := by
  have r := @c_Reader 96 tb tx H
  exact eqv (r_call (r_cons (r_loc rfl rfl) (r_cons (r_loc rfl rfl) q_nil)) r) rfl rfl
theorem c_lr {tb rows dict : Nat} {Hin : AH} {tx : Nat → List Nat} {ps : Nat → List Item} {ts : List Nat} {tv : AV} {sr : Src} (T : TB tb rows dict Hin []) (htx : ∀ t, t < 2 → tx t = txtI (ps t) ∧ (tx t).length ≤ 10000) (hok : ∀ t, t < 2 → ∀ i ∈ ps t, ItemOk i) (hl : (ps 0).length + (ps 1).length ≤ 20) (hU : isU tv = false) (hs : srcOf tv = some sr)
    (hsr : ∀ H j, Fr [rows, dict] Hin H → nextOf H j sr = some ((ts[j]?).map fun (t : Nat) => .int (t : Nat))) (h2 : ∀ t ∈ ts, t < 2) (hc : ∀ t, t < 2 → ts.count t = (ps t).length) (htl : ts.length ≤ 90) :
    ∃ H' f0 f1 L, cP 99 5 [.ref tb, .lst [.str (tx 0), .str (tx 1)], tv] Hin = some (.lst [.ref f0, .ref f1], H') ∧ Rep H' Hin.length [.lst [.ref f0, .ref f1]] [.lst [.lst ((ps 0).map fun i => i.1.fp.form), .lst ((ps 1).map fun i => i.1.fp.form)]] ∧ TB tb rows dict H' L ∧ nms L = grow [] (namesOrd ts ps) ∧ Fr [rows, dict] Hin H' := by
  let S : LR := ⟨Hin.length, tb, rows, dict, tx⟩
  have b1 := lt_of T.tb; have b2 := lt_of T.rows; have b3 := lt_of T.dict
  let X : List AO := [lexO (tx 0) 0, .list [], .inst 10 [.ref Hin.length, .ref tb, .ref (Hin.length + 1)], lexO (tx 1) 0, .list [], .inst 10 [.ref (Hin.length + 3), .ref tb, .ref (Hin.length + 4)], .list [], .list [], .list [.int 0, .int 0]]
  have gx : ∀ k o, X[k]? = some o → (Hin ++ X)[Hin.length + k]? = some o := fun k o h => by rw [List.getElem?_append_right (by lia)]; simpa using h
  have I0 : Inv S Hin (Hin ++ X) (fun _ => 0) ps (fun _ => []) [] := by
    refine ⟨⟨[], T.app, rfl, by simp; lia⟩, ?_, ?_, ?_, ?_, hok, ?_, gx 8 _ rfl, .app, ?_⟩
    · intro t ht
      obtain rfl | rfl : t = 0 ∨ t = 1 := by lia
      · exact ⟨_, gx 2 _ rfl⟩
      · exact ⟨_, gx 5 _ rfl⟩
    · intro t ht
      obtain rfl | rfl : t = 0 ∨ t = 1 := by lia
      · exact gx 0 _ rfl
      · exact gx 3 _ rfl
    · intro t ht
      exact ⟨[], 0, .nil, by lia, (htx t ht).1⟩
    · intro t ht
      exact ⟨Nat.zero_le _, (htx t ht).2⟩
    · intro t ht
      obtain rfl | rfl : t = 0 ∨ t = 1 := by lia
      · exact ⟨[], gx 6 _ rfl, .nil, by simp; lia⟩
      · exact ⟨[], gx 7 _ rfl, .nil, by simp; lia⟩
    · exact ⟨by simp [S, X], rfl, b1, b2, b3⟩
  obtain ⟨H1, p1, x', y', z', eL, I1⟩ := l_lr (S := S) hsr ts [] rfl I0 h2 hc tv .unb .unb .unb (98 - ts.length - 1)
  rw [show 98 - ts.length - 1 + ts.length + 1 = 98 by lia] at eL
  obtain ⟨H2, e2, _, I2, ⟨fs0, k0⟩⟩ := I1.toE.eof (t := 0) (by decide)
  obtain ⟨H3, e3, _, I3, ⟨fs1, k1⟩⟩ := I2.eof (t := 1) (by decide)
  obtain ⟨L, T3, hN⟩ := I3.tab
  obtain ⟨v0, g0, r0⟩ := I3.fo 0 (by decide)
  obtain ⟨v1, g1, r1⟩ := I3.fo 1 (by decide)
  simp only [List.nil_append] at r0 r1
  refine ⟨H3, S.foA 0, S.foA 1, L, ?_, ?_, T3, hN, I3.fr⟩
  · let ls0 : List AV := [.ref tb, .lst [.str (tx 0), .str (tx 1)], tv, .unb, .unb, .unb, .unb, .unb, .unb]
    have C1 : loopC (.items [.str (tx 0), .str (tx 1)]) (turnC (cP 98) 98 ["text", "table"] [(1, 0)] (.one 0) c5_1t c5_1e ls0) 98 0 [] Hin = some ([.ref (S.rdA 0), .ref (S.rdA 1)], Hin ++ X.take 6) := by
      refine (loopC_2 (n := 95) (turn_kt (lc := [.str (tx 0), .ref tb]) rfl ev_reader) (turn_kt (lc := [.str (tx 1), .ref tb]) rfl ev_reader)).trans ?_
      simp [S, X]
    have ln : ∀ ls H, evE (cP 98) 98 c5_2e ls H = some (.ref H.length, H ++ [.list []]) := by
      intro ls H
      rw [q_list, q_nil]; rfl
    have C2 : loopC (.items [.str (tx 0), .str (tx 1)]) (turnC (cP 98) 98 ["text"] [] (.one 0) c5_2t c5_2e ls0) 98 0 [] (Hin ++ X.take 6) = some ([.ref (S.foA 0), .ref (S.foA 1)], Hin ++ X.take 8) := by
      refine (loopC_2 (n := 95) (turn_kt (lc := [.str (tx 0)]) rfl (ln _ _)) (turn_kt (lc := [.str (tx 1)]) rfl (ln _ _))).trans ?_
      simp [S, X]
    have C3 : loopC (.items [.str (tx 0), .str (tx 1)]) (turnC (cP 98) 98 ["text"] [] (.one 0) c5_3t c5_3e ls0) 98 0 [] (Hin ++ X.take 8) = some ([.int 0, .int 0], Hin ++ X.take 8) := by
      exact loopC_2 (n := 95) (turn_kt (lc := [.str (tx 0)]) rfl q_lit) (turn_kt (lc := [.str (tx 1)]) rfl q_lit)
    have hx8 : Hin ++ X.take 8 ++ [AO.list [.int 0, .int 0]] = Hin ++ X := by simp [X]
    have hl8 : (Hin ++ X.take 8).length = S.laA := by simp [X, S]
    have rr0 : cP 98 7 [.ref (S.rdA 0)] H1 = some (.spc 1, H2) := e2
    have d1 : decide ((1 : Nat) = 1) = true := rfl
    have t0 : turnC (cP 98) 98 ["reader"] [] (.one 0) c5_4t c5_4e (lrLs S tv x' y' z') (.ref (S.rdA 0)) H1 = some (none, H2) :=
      turn_f (lc := [.ref (S.rdA 0)]) rfl (by
        clear T I0 I1 I2 I3 T3 hok htx hsr eL e3 k1 C1 C2 C3 ln gx
        exact eqv (t_and (t_cmp (r_mown (r_loc rfl rfl) (q_r k0) q_nil rr0) q_glb rfl) (i_f rfl rfl)) rfl rfl)
    have t1 : turnC (cP 98) 98 ["reader"] [] (.one 0) c5_4t c5_4e (lrLs S tv x' y' z') (.ref (S.rdA 1)) H2 = some (none, H3) :=
      turn_f (lc := [.ref (S.rdA 1)]) rfl (by
        clear T I0 I1 I2 I3 T3 hok htx hsr eL e2 rr0 k0 C1 C2 C3 ln gx
        exact eqv (t_and (t_cmp (r_mown (r_loc rfl rfl) (q_r k1) q_nil e3) q_glb rfl) (i_f rfl rfl)) rfl rfl)
    have C4 : loopC (.items [.ref (S.rdA 0), .ref (S.rdA 1)]) (turnC (cP 98) 98 ["reader"] [] (.one 0) c5_4t c5_4e (lrLs S tv x' y' z')) 98 0 [] H1 = some ([], H3) := loopC_2n (n := 95) t0 t1
    have hs1 : srcOf (.lst [.str (tx 0), .str (tx 1)]) = some (.items [.str (tx 0), .str (tx 1)]) := rfl
    have hs2 : srcOf (.lst [.ref (S.rdA 0), .ref (S.rdA 1)]) = some (.items [.ref (S.rdA 0), .ref (S.rdA 1)]) := rfl
    have he := @eqNilNil H3
    rw [callF_code (fn := fn5) (ls := ls0) rfl rfl rfl]
    clear T I0 I1 I2 I3 T3 hok htx hsr ln gx t0 t1 e2 e3 rr0 k0 k1 h2 hc
    simp only [ls0] at C1 C2 C3 ⊢
    have eL' : loopF sr (.one 6) (evS (cP 98) 98 f5_1b) 98 0 [.ref tb, .lst [.str (tx 0), .str (tx 1)], tv, .lst [.ref (S.rdA 0), .ref (S.rdA 1)], .lst [.ref (S.foA 0), .ref (S.foA 1)], .ref S.laA, .unb, .unb, .unb] (Hin ++ X) = some (.nxt, [.ref tb, .lst [.str (tx 0), .str (tx 1)], tv, .lst [.ref (S.rdA 0), .ref (S.rdA 1)], .lst [.ref (S.foA 0), .ref (S.foA 1)], .ref S.laA, x', y', z'], H1) := eL
    have C4' : loopC (.items [.ref (S.rdA 0), .ref (S.rdA 1)]) (turnC (cP 98) 98 ["reader"] [] (.one 0) c5_4t c5_4e [.ref tb, .lst [.str (tx 0), .str (tx 1)], tv, .lst [.ref (S.rdA 0), .ref (S.rdA 1)], .lst [.ref (S.foA 0), .ref (S.foA 1)], .ref S.laA, x', y', z']) 98 0 [] H1 = some ([], H3) := C4
    clear eL C4
    rw [← hl8, ← hx8] at eL'
    rw [← hl8] at C4'
    exact eqr (x_asg (r_tup (r_cons (r_compF (r_loc rfl rfl) (i_f rfl hs1) C1) (r_cons (r_compF (r_loc rfl rfl) (i_f rfl hs1) C2) (r_cons (r_compT (r_loc rfl rfl) (i_f rfl hs1) C3) q_nil)))) rfl (s_for (r_loc rfl hU) hs eL' (kr_n (x_ret (r_ifx (t_cmp (r_compF (r_loc rfl rfl) (i_f rfl hs2) C4') (r_lstF q_nil) he) (i_t rfl (r_loc rfl rfl))))))) rfl rfl
  · exact .lst (.ref (by simp only [LR.foA, S]; lia) g0 (r0.mono (by simp only [S]; lia) fun _ _ _ h => h) (.ref (by simp only [LR.foA, S]; lia) g1 (r1.mono (by simp only [S]; lia) fun _ _ _ h => h) .nil)) .nil
end
section
theorem num_len {i : Int} (h : -20 ≤ i ∧ i < 20) : (numText i).length ≤ 5 ∧ numText i ≠ [] := by
  obtain ⟨k, hk, rfl⟩ : ∃ k : Nat, k < 40 ∧ i = (k : Int) - 20 := ⟨(i + 20).toNat, by lia, by lia⟩
  have : ∀ k : Fin 40, (numText ((k.val : Int) - 20)).length ≤ 5 ∧ numText ((k.val : Int) - 20) ≠ [] := by decide +kernel
  exact this ⟨k, hk⟩
theorem sym_len {v : List Nat} {up : Bool} (h : v ∈ names5) : (symText v up).length ≤ 5 ∧ symText v up ≠ [] := by
  have : ∀ v ∈ names5, ∀ b : Bool, (symText v b).length ≤ 5 ∧ symText v b ≠ [] := by decide +kernel
  exact this v h up
theorem text_len : ∀ D : Dat, D.ok → D.text.length + 6 ≤ 11 * 2 ^ D.deep
  | .sym v up, h => by have := (sym_len (up := up) h).1; simp only [Dat.text, Dat.deep]; lia
  | .num i, h => by have := (num_len h).1; simp only [Dat.text, Dat.deep]; lia
  | .txt, _ => by simp [Dat.text, Dat.deep]
  | .quo d, h => by have := text_len d h; simp only [Dat.text, Dat.deep, List.length_cons, Nat.pow_succ]; lia
  | .vec a b, h => by
    have h1 := text_len a h.1; have h2 := text_len b h.2
    have p1 : 2 ^ a.deep ≤ 2 ^ max a.deep b.deep := Nat.pow_le_pow_right (by decide) (Nat.le_max_left ..)
    have p2 : 2 ^ b.deep ≤ 2 ^ max a.deep b.deep := Nat.pow_le_pow_right (by decide) (Nat.le_max_right ..)
    simp only [Dat.text, Dat.deep, List.length_cons, List.length_append, List.length_nil, Nat.pow_succ]; lia
  | .lst a b, h => by
    have h1 := text_len a h.1; have h2 := text_len b h.2
    have p1 : 2 ^ a.deep ≤ 2 ^ max a.deep b.deep := Nat.pow_le_pow_right (by decide) (Nat.le_max_left ..)
    have p2 : 2 ^ b.deep ≤ 2 ^ max a.deep b.deep := Nat.pow_le_pow_right (by decide) (Nat.le_max_right ..)
    simp only [Dat.text, Dat.deep, List.length_cons, List.length_append, List.length_nil, Nat.pow_succ]; lia
  | .dot a b, h => by
    have h1 := text_len a h.1; have h2 := text_len b h.2
    have p1 : 2 ^ a.deep ≤ 2 ^ max a.deep b.deep := Nat.pow_le_pow_right (by decide) (Nat.le_max_left ..)
    have p2 : 2 ^ b.deep ≤ 2 ^ max a.deep b.deep := Nat.pow_le_pow_right (by decide) (Nat.le_max_right ..)
    simp only [Dat.text, Dat.deep, List.length_cons, List.length_append, List.length_nil, Nat.pow_succ]; lia
theorem toks_le : ∀ D : Dat, D.toks + 3 ≤ 4 * 2 ^ D.deep
  | .sym v up => by simp [Dat.toks, Dat.deep]
  | .num i => by simp [Dat.toks, Dat.deep]
  | .txt => by simp [Dat.toks, Dat.deep]
  | .quo d => by have := toks_le d; simp only [Dat.toks, Dat.deep, Nat.pow_succ]; lia
  | .vec a b => by
    have h1 := toks_le a; have h2 := toks_le b
    have p1 : 2 ^ a.deep ≤ 2 ^ max a.deep b.deep := Nat.pow_le_pow_right (by decide) (Nat.le_max_left ..)
    have p2 : 2 ^ b.deep ≤ 2 ^ max a.deep b.deep := Nat.pow_le_pow_right (by decide) (Nat.le_max_right ..)
    simp only [Dat.toks, Dat.deep, Nat.pow_succ]; lia
  | .lst a b => by
    have h1 := toks_le a; have h2 := toks_le b
    have p1 : 2 ^ a.deep ≤ 2 ^ max a.deep b.deep := Nat.pow_le_pow_right (by decide) (Nat.le_max_left ..)
    have p2 : 2 ^ b.deep ≤ 2 ^ max a.deep b.deep := Nat.pow_le_pow_right (by decide) (Nat.le_max_right ..)
    simp only [Dat.toks, Dat.deep, Nat.pow_succ]; lia
  | .dot a b => by
    have h1 := toks_le a; have h2 := toks_le b
    have p1 : 2 ^ a.deep ≤ 2 ^ max a.deep b.deep := Nat.pow_le_pow_right (by decide) (Nat.le_max_left ..)
    have p2 : 2 ^ b.deep ≤ 2 ^ max a.deep b.deep := Nat.pow_le_pow_right (by decide) (Nat.le_max_right ..)
    simp only [Dat.toks, Dat.deep, Nat.pow_succ]; lia
theorem names_len : ∀ D : Dat, D.names.length + 1 ≤ 2 * 2 ^ D.deep
  | .sym v up => by simp [Dat.names, Dat.deep]
  | .num i => by simp [Dat.names, Dat.deep]
  | .txt => by simp [Dat.names, Dat.deep]
  | .quo d => by have := names_len d; simp only [Dat.names, Dat.deep, Nat.pow_succ, List.length_cons]; lia
  | .vec a b => by
    have h1 := names_len a; have h2 := names_len b
    have p1 : 2 ^ a.deep ≤ 2 ^ max a.deep b.deep := Nat.pow_le_pow_right (by decide) (Nat.le_max_left ..)
    have p2 : 2 ^ b.deep ≤ 2 ^ max a.deep b.deep := Nat.pow_le_pow_right (by decide) (Nat.le_max_right ..)
    simp only [Dat.names, Dat.deep, Nat.pow_succ, List.length_append]; lia
  | .lst a b => by
    have h1 := names_len a; have h2 := names_len b
    have p1 : 2 ^ a.deep ≤ 2 ^ max a.deep b.deep := Nat.pow_le_pow_right (by decide) (Nat.le_max_left ..)
    have p2 : 2 ^ b.deep ≤ 2 ^ max a.deep b.deep := Nat.pow_le_pow_right (by decide) (Nat.le_max_right ..)
    simp only [Dat.names, Dat.deep, Nat.pow_succ, List.length_append]; lia
  | .dot a b => by
    have h1 := names_len a; have h2 := names_len b
    have p1 : 2 ^ a.deep ≤ 2 ^ max a.deep b.deep := Nat.pow_le_pow_right (by decide) (Nat.le_max_left ..)
    have p2 : 2 ^ b.deep ≤ 2 ^ max a.deep b.deep := Nat.pow_le_pow_right (by decide) (Nat.le_max_right ..)
    simp only [Dat.names, Dat.deep, Nat.pow_succ, List.length_append]; lia
theorem text_ne : ∀ D : Dat, D.ok → D.text ≠ []
  | .sym v up, h => (sym_len (up := up) h).2
  | .num i, h => (num_len h).2
  | .txt, _ => by simp [Dat.text]
  | .quo d, h => by simp [Dat.text]
  | .vec a b, h => by simp [Dat.text]
  | .lst a b, h => by simp [Dat.text]
  | .dot a b, h => by simp [Dat.text]
theorem kinds : ∀ D : Dat, D.fp.form = .tup [.str sList, .lst D.fp.parts, D.fp.tail] ∨ ∃ s rest, D.fp.form = .tup (.str s :: rest) ∧ s ≠ sList ∧ D.fp.parts = [] ∧ D.fp.tail = D.fp.form
  | .sym v up => .inr ⟨_, _, rfl, by decide, rfl, rfl⟩
  | .num i => .inr ⟨_, _, rfl, by decide, rfl, rfl⟩
  | .txt => .inr ⟨_, _, rfl, by decide, rfl, rfl⟩
  | .quo d => .inl rfl
  | .vec a b => .inr ⟨_, _, rfl, by decide, rfl, rfl⟩
  | .lst a b => .inl rfl
  | .dot a b => .inl rfl

noncomputable abbrev datV (D : Dat) : AV := .tup [.str D.text, D.fp.form, .lst (D.names.map .str)]
theorem c_upper {v : List Nat} {H : AH} (h : v ∈ names5) : methV H .upper (.str v) [] = some (.str (symText v true), H) := by
  simp only [names5, List.mem_cons, List.not_mem_nil, or_false] at h
  rcases h with rfl | rfl | rfl | rfl | rfl <;> kernel_rfl
theorem c_str {i : Int} {H : AH} (h : -20 ≤ i ∧ i < 20) : biV H .str [.int i] = some (.str (numText i), H) := by
  have : i.natAbs < 2 ^ 30 := by lia
  exact if_pos (decide_eq_true this)

noncomputable abbrev wayE : IE := (.ifx (.cmp .gt (.loc 1) (.lit (.int 0))) (.call 1 (.cons (.loc 0) (.cons (.lit (.int 8)) .nil))) (.call 1 (.cons (.loc 0) (.cons (.lit (.int 4)) .nil))))
noncomputable abbrev dLs (a : Nat) (dd : Nat) : List AV := [.ref a, .int (dd : Nat), .unb, .unb, .unb, .unb, .unb, .unb, .unb]
theorem drawN (cells : List Int) (k m : Nat) (hm : 0 < m) : ∃ w : Nat, drawV cells k m = (w : Nat) ∧ w < m := by
  have := drawV_range cells k m hm
  exact ⟨(drawV cells k m).toNat, by lia, by lia⟩

theorem datum_leaf {n a dd k w : Nat} {cells : List Int} {H H1 : AH} (hway : evE (cP (n + 1)) (n + 1) wayE (dLs a dd) H = some (.int (w : Nat), H1)) (hw : w < 4) (hH : H1[a]? = some (deckO cells k)) (hk : k < 1000) (hc : cells.length < 100) :
    ∃ D k', cP (n + 2) 2 [.ref a, .int (dd : Nat)] H = some (datV D, H1.set a (deckO cells k')) ∧ D.ok ∧ D.deep = 0 ∧ k ≤ k' ∧ k' ≤ k + 1 := by
  have hset : H1.set a (deckO cells k) = H1 := set_same hH
  rw [callF_code (fn := fn2) (ls := dLs a dd) rfl rfl rfl]
  obtain rfl | rfl | rfl | rfl : w = 0 ∨ w = 1 ∨ w = 2 ∨ w = 3 := by lia
  · obtain ⟨j, hj, hj5⟩ := drawN cells k 5 (by decide)
    have e : cP (n + 1) 1 [.ref a, .int 5] H1 = some (.int (j : Nat), H1.set a (deckO cells (k + 1))) := hj ▸ c_draw (n := n) hH hk hc (m := 5) (by decide)
    obtain ⟨v, hv, hv5⟩ : ∃ v, [AV.str [97], AV.str [98], AV.str [97, 98], AV.str sQuote, AV.str [120]][j]? = some (.str v) ∧ v ∈ names5 := by
      obtain rfl | rfl | rfl | rfl | rfl : j = 0 ∨ j = 1 ∨ j = 2 ∨ j = 3 ∨ j = 4 := by lia
      all_goals exact ⟨_, rfl, by simp⟩
    have hu := c_upper (H := H1.set a (deckO cells (k + 1))) hv5
    refine ⟨.sym v false, k + 1, ?_, hv5, rfl, by lia, by lia⟩
    have hc0 : decide (((0 : Nat) : Int) < 2) = true := by decide
    clear hset hv5
    exact eqr (x_asg hway rfl (s_ite (t_cmp (r_loc rfl rfl) q_lit rfl) (i_t hc0 (k_any (x_asg (r_sub (r_lstF (r_cons q_lit (r_cons q_lit (r_cons q_lit (r_cons q_lit (r_cons q_lit q_nil)))))) (r_call (r_cons (r_loc rfl rfl) (r_cons q_lit q_nil)) e) (u_l hv ⟨(by lia), (by lia)⟩)) rfl (x_ret (r_tup (r_cons (r_sub (r_lstF (r_cons (r_loc rfl rfl) (r_cons (r_meth (r_loc rfl rfl) rfl q_nil hu) q_nil))) (r_loc rfl rfl) (u_l rfl ⟨(by decide), (by decide)⟩)) (r_cons (r_tup (r_cons q_lit (r_cons (r_loc rfl rfl) q_nil))) (r_cons (r_lstF (r_cons (r_loc rfl rfl) q_nil)) q_nil)))))) kr_r)))) rfl rfl
  · obtain ⟨j, hj, hj5⟩ := drawN cells k 5 (by decide)
    have e : cP (n + 1) 1 [.ref a, .int 5] H1 = some (.int (j : Nat), H1.set a (deckO cells (k + 1))) := hj ▸ c_draw (n := n) hH hk hc (m := 5) (by decide)
    obtain ⟨v, hv, hv5⟩ : ∃ v, [AV.str [97], AV.str [98], AV.str [97, 98], AV.str sQuote, AV.str [120]][j]? = some (.str v) ∧ v ∈ names5 := by
      obtain rfl | rfl | rfl | rfl | rfl : j = 0 ∨ j = 1 ∨ j = 2 ∨ j = 3 ∨ j = 4 := by lia
      all_goals exact ⟨_, rfl, by simp⟩
    have hu := c_upper (H := H1.set a (deckO cells (k + 1))) hv5
    refine ⟨.sym v true, k + 1, ?_, hv5, rfl, by lia, by lia⟩
    have hc0 : decide (((1 : Nat) : Int) < 2) = true := by decide
    clear hset hv5
    exact eqr (x_asg hway rfl (s_ite (t_cmp (r_loc rfl rfl) q_lit rfl) (i_t hc0 (k_any (x_asg (r_sub (r_lstF (r_cons q_lit (r_cons q_lit (r_cons q_lit (r_cons q_lit (r_cons q_lit q_nil)))))) (r_call (r_cons (r_loc rfl rfl) (r_cons q_lit q_nil)) e) (u_l hv ⟨(by lia), (by lia)⟩)) rfl (x_ret (r_tup (r_cons (r_sub (r_lstF (r_cons (r_loc rfl rfl) (r_cons (r_meth (r_loc rfl rfl) rfl q_nil hu) q_nil))) (r_loc rfl rfl) (u_l rfl ⟨(by decide), (by decide)⟩)) (r_cons (r_tup (r_cons q_lit (r_cons (r_loc rfl rfl) q_nil))) (r_cons (r_lstF (r_cons (r_loc rfl rfl) q_nil)) q_nil)))))) kr_r)))) rfl rfl
  · obtain ⟨j, hj, hj5⟩ := drawN cells k 40 (by decide)
    have e : cP (n + 1) 1 [.ref a, .int 40] H1 = some (.int (j : Nat), H1.set a (deckO cells (k + 1))) := hj ▸ c_draw (n := n) hH hk hc (m := 40) (by decide)
    have hr : -20 ≤ (j : Int) - 20 ∧ (j : Int) - 20 < 20 := by lia
    have hu := c_str (H := H1.set a (deckO cells (k + 1))) hr
    refine ⟨.num ((j : Int) - 20), k + 1, ?_, hr, rfl, by lia, by lia⟩
    have hc0 : decide (((2 : Nat) : Int) < 2) = false := by decide
    have hc1 : decide (((2 : Nat) : Int) = 2) = true := by decide
    clear hset
    exact eqr (x_asg hway rfl (s_ite (t_cmp (r_loc rfl rfl) q_lit rfl) (i_f hc0 (k_nil (s_ite (t_cmp (r_loc rfl rfl) q_lit rfl) (i_t hc1 (k_any (x_asg (r_bin (r_call (r_cons (r_loc rfl rfl) (r_cons q_lit q_nil)) e) q_lit (p_sb rfl)) rfl (x_ret (r_tup (r_cons (r_bi (r_cons (r_loc rfl rfl) q_nil) hu) (r_cons (r_tup (r_cons q_lit (r_cons (r_loc rfl rfl) q_nil))) (r_cons (r_lstF q_nil) q_nil)))))) kr_r))))))) rfl rfl
  · refine ⟨.txt, k, ?_, trivial, rfl, by lia, by lia⟩
    rw [hset]
    have hc0 : decide (((3 : Nat) : Int) < 2) = false := by decide
    have hc1 : decide (((3 : Nat) : Int) = 2) = false := by decide
    have hc2 : decide (((3 : Nat) : Int) = 3) = true := by decide
    clear hset
    exact eqr (x_asg hway rfl (s_ite (t_cmp (r_loc rfl rfl) q_lit rfl) (i_f hc0 (k_nil (s_ite (t_cmp (r_loc rfl rfl) q_lit rfl) (i_f hc1 (k_nil (s_ite (t_cmp (r_loc rfl rfl) q_lit rfl) (i_t hc2 (k_any (x_ret (r_tup (r_cons q_lit (r_cons (r_tup (r_cons q_lit (r_cons (r_lstF (r_cons q_lit (r_cons q_lit (r_cons q_lit q_nil)))) q_nil))) (r_cons (r_lstF q_nil) q_nil))))) kr_r)))))))))) rfl rfl

noncomputable def DatumP (dd b : Nat) : Prop := ∀ {n a k : Nat} {cells : List Int} {H : AH}, H[a]? = some (deckO cells k) → k + b < 1000 → cells.length < 100 →
  ∃ D k', cP (n + dd + 2) 2 [.ref a, .int (dd : Nat)] H = some (datV D, H.set a (deckO cells k')) ∧ D.ok ∧ D.deep ≤ dd ∧ k ≤ k' ∧ k' ≤ k + b
theorem datum0 : DatumP 0 2 := by
  intro n a k cells H hH hk hc
  obtain ⟨w, hw, hw4⟩ := drawN cells k 4 (by decide)
  have e : cP (n + 1) 1 [.ref a, .int 4] H = some (.int (w : Nat), H.set a (deckO cells (k + 1))) := hw ▸ c_draw (n := n) hH (by lia) hc (m := 4) (by decide)
  have hway : evE (cP (n + 1)) (n + 1) wayE (dLs a 0) H = some (.int (w : Nat), H.set a (deckO cells (k + 1))) := by
    have hd : decide ((0 : Int) < ((0 : Nat) : Int)) = false := by decide
    exact eqv (r_ifx (t_cmp (r_loc rfl rfl) q_lit rfl) (i_f hd (r_call (r_cons (r_loc rfl rfl) (r_cons q_lit q_nil)) e))) rfl rfl
  obtain ⟨D, k', h1, h2, h3, h4, h5⟩ := datum_leaf hway hw4 (by rw [g_set, hH]; rfl) (by lia) hc
  rw [List.set_set] at h1
  exact ⟨D, k', h1, h2, by lia, by lia, by lia⟩
noncomputable def datB : IS :=
    (.ite (.cmp .eq (.loc 2) (.lit (.int 4)))
      (.ret (.tup (.cons (.bin .add (.lit (.str [39])) (.sub (.loc 5) (.lit (.int 0)))) (.cons (.tup (.cons (.lit (.str [108, 105, 115, 116])) (.cons (.list false (.cons (.tup (.cons (.lit (.str [115, 121, 109, 98, 111, 108])) (.cons (.lit (.str [113, 117, 111, 116, 101])) .nil))) (.cons (.sub (.loc 5) (.lit (.int 1))) .nil))) (.cons (.tup (.cons (.lit (.str [101, 109, 112, 116, 121])) .nil)) .nil)))) (.cons (.bin .add (.list false (.cons (.lit (.str [113, 117, 111, 116, 101])) .nil)) (.sub (.loc 5) (.lit (.int 2)))) .nil)))))
      .nil
    (.ite (.cmp .eq (.loc 2) (.lit (.int 5)))
      (.ret (.tup (.cons (.bin .add (.bin .add (.bin .add (.bin .add (.lit (.str [35, 40])) (.sub (.loc 5) (.lit (.int 0)))) (.lit (.str [32]))) (.sub (.loc 6) (.lit (.int 0)))) (.lit (.str [41]))) (.cons (.tup (.cons (.lit (.str [118, 101, 99, 116, 111, 114])) (.cons (.list false (.cons (.sub (.loc 5) (.lit (.int 1))) (.cons (.sub (.loc 6) (.lit (.int 1))) .nil))) .nil))) (.cons (.loc 7) .nil)))))
      .nil
    (.ite (.cmp .eq (.loc 2) (.lit (.int 6)))
      (.ret (.tup (.cons (.bin .add (.bin .add (.bin .add (.bin .add (.lit (.str [40])) (.sub (.loc 5) (.lit (.int 0)))) (.lit (.str [10, 32]))) (.sub (.loc 6) (.lit (.int 0)))) (.lit (.str [32, 41]))) (.cons (.tup (.cons (.lit (.str [108, 105, 115, 116])) (.cons (.list false (.cons (.sub (.loc 5) (.lit (.int 1))) (.cons (.sub (.loc 6) (.lit (.int 1))) .nil))) (.cons (.tup (.cons (.lit (.str [101, 109, 112, 116, 121])) .nil)) .nil)))) (.cons (.loc 7) .nil)))))
      .nil
    (.asg (.one 8) (.sub (.loc 6) (.lit (.int 1)))
    (.ite (.cmp .eq (.sub (.loc 8) (.lit (.int 0))) (.lit (.str [108, 105, 115, 116])))
      (.ret (.tup (.cons (.bin .add (.bin .add (.bin .add (.bin .add (.lit (.str [40])) (.sub (.loc 5) (.lit (.int 0)))) (.lit (.str [32, 46, 32]))) (.sub (.loc 6) (.lit (.int 0)))) (.lit (.str [41]))) (.cons (.tup (.cons (.lit (.str [108, 105, 115, 116])) (.cons (.bin .add (.list false (.cons (.sub (.loc 5) (.lit (.int 1))) .nil)) (.sub (.loc 8) (.lit (.int 1)))) (.cons (.sub (.loc 8) (.lit (.int 2))) .nil)))) (.cons (.loc 7) .nil)))))
      .nil
    (.ret (.tup (.cons (.bin .add (.bin .add (.bin .add (.bin .add (.lit (.str [40])) (.sub (.loc 5) (.lit (.int 0)))) (.lit (.str [32, 46, 32]))) (.sub (.loc 6) (.lit (.int 0)))) (.lit (.str [41]))) (.cons (.tup (.cons (.lit (.str [108, 105, 115, 116])) (.cons (.list false (.cons (.sub (.loc 5) (.lit (.int 1))) .nil)) (.cons (.loc 8) .nil)))) (.cons (.loc 7) .nil))))))))))
theorem dat_front {n w dd a : Nat} {m : Int} {x y : List Nat} {fx fy v v' : AV} {nx ny ls : List AV} {H H1 H2 H3 H4 : AH} (hw : evE (cP n) n wayE (dLs a (dd + 1)) H = some (.int (w : Nat), H1)) (h4 : ¬ w < 4) (hs : ((dd + 1 : Nat) : Int) - 1 = m) (e1 : cP n 2 [.ref a, .int m] H1 = some (.tup [.str x, fx, .lst nx], H2)) (e2 : cP n 2 [.ref a, .int m] H2 = some (.tup [.str y, fy, .lst ny], H3)) (hnl : nx.length + ny.length ≤ 10000)
    (h : evS (cP n) n datB [.ref a, .int ((dd + 1 : Nat) : Int), .int (w : Nat), .unb, .unb, .tup [.str x, fx, .lst nx], .tup [.str y, fy, .lst ny], .lst (nx ++ ny), .unb] H3 = some (.ret v, ls, H4)) (hv : v = v') : cP (n + 1) 2 [.ref a, .int ((dd + 1 : Nat) : Int)] H = some (v', H4) := by
  have c1 : decide (((w : Nat) : Int) < 2) = false := decide_eq_false (by lia)
  have c2 : decide (((w : Nat) : Int) = 2) = false := decide_eq_false (by lia)
  have c3 : decide (((w : Nat) : Int) = 3) = false := decide_eq_false (by lia)
  exact (callF_code (fn := fn2) (ls := dLs a (dd + 1)) rfl rfl rfl).trans (eqr (x_asg hw rfl (s_ite (t_cmp (r_loc rfl rfl) q_lit rfl) (i_f c1 (k_nil (s_ite (t_cmp (r_loc rfl rfl) q_lit rfl) (i_f c2 (k_nil (s_ite (t_cmp (r_loc rfl rfl) q_lit rfl) (i_f c3 (k_nil (x_asg (r_tup (r_cons (r_call (r_cons (r_loc rfl rfl) (r_cons (r_bin (r_loc rfl rfl) q_lit (p_sb hs)) q_nil)) e1) (r_cons (r_call (r_cons (r_loc rfl rfl) (r_cons (r_bin (r_loc rfl rfl) q_lit (p_sb hs)) q_nil)) e2) q_nil))) rfl (x_asg (r_bin (r_sub (r_loc rfl rfl) q_lit (u_t rfl ⟨(by decide), (by decide)⟩)) (r_sub (r_loc rfl rfl) q_lit (u_t rfl ⟨(by decide), (by decide)⟩)) (p_addL hnl)) rfl (h))))))))))))) hv rfl)
theorem datumS {dd b : Nat} (hdd : dd ≤ 1) (hP : DatumP dd b) : DatumP (dd + 1) (2 * b + 2) := by
  intro n a k cells H hH hk hc
  obtain ⟨w, hw, hw8⟩ := drawN cells k 8 (by decide)
  have e : cP (n + dd + 1 + 1) 1 [.ref a, .int 8] H = some (.int (w : Nat), H.set a (deckO cells (k + 1))) := hw ▸ c_draw (n := n + dd + 1) hH (by lia) hc (m := 8) (by decide)
  have hway : evE (cP (n + dd + 1 + 1)) (n + dd + 1 + 1) wayE (dLs a (dd + 1)) H = some (.int (w : Nat), H.set a (deckO cells (k + 1))) := by
    have hd : decide ((0 : Int) < ((dd + 1 : Nat) : Int)) = true := decide_eq_true (by lia)
    exact eqv (r_ifx (t_cmp (r_loc rfl rfl) q_lit rfl) (i_t hd (r_call (r_cons (r_loc rfl rfl) (r_cons q_lit q_nil)) e))) rfl rfl
  have hH1 : (H.set a (deckO cells (k + 1)))[a]? = some (deckO cells (k + 1)) := by rw [g_set, hH]; rfl
  by_cases hw4 : w < 4
  · obtain ⟨D, k', h1, h2, h3, h4, h5⟩ := datum_leaf hway hw4 hH1 (by lia) hc
    rw [List.set_set] at h1
    exact ⟨D, k', h1, h2, by lia, by lia, by lia⟩
  obtain ⟨A, k1, e1, okA, dA, ka, kb⟩ := @hP n a (k + 1) cells (H.set a (deckO cells (k + 1))) hH1 (by lia) hc
  rw [List.set_set] at e1
  have hH2 : (H.set a (deckO cells k1))[a]? = some (deckO cells k1) := by rw [g_set, hH]; rfl
  obtain ⟨B, k2, e2, okB, dB, kc, kd⟩ := @hP n a k1 cells (H.set a (deckO cells k1)) hH2 (by lia) hc
  rw [List.set_set] at e2
  have hsub : ((dd + 1 : Nat) : Int) - 1 = (dd : Nat) := by lia
  have pA : 2 ^ A.deep ≤ 2 ^ 1 := Nat.pow_le_pow_right (by decide) (by lia)
  have pB : 2 ^ B.deep ≤ 2 ^ 1 := Nat.pow_le_pow_right (by decide) (by lia)
  have tA := text_len A okA; have tB := text_len B okB
  have nA := names_len A; have nB := names_len B
  have hnl : (A.names.map AV.str).length + (B.names.map AV.str).length ≤ 10000 := by simp; lia
  have hnq : [AV.str sQuote].length + (A.names.map AV.str).length ≤ 10000 := by simp; lia
  have hmap : A.names.map AV.str ++ B.names.map AV.str = (A.names ++ B.names).map AV.str := by simp
  clear hP hH hH1 hH2
  rcases (by lia : w = 4 ∨ w = 5 ∨ w = 6 ∨ w = 7) with q | q | q | q
  · refine ⟨.quo A, k2, ?_, okA, by simp only [Dat.deep]; lia, by lia, by lia⟩
    have c4 : decide (((w : Nat) : Int) = 4) = true := by rw [q]; rfl
    have l1 : [39].length + A.text.length ≤ 10000 := by simp; lia
    exact dat_front hway hw4 hsub e1 e2 hnl (s_ite (t_cmp (r_loc rfl rfl) q_lit rfl) (i_t c4 (k_any (x_ret (r_tup (r_cons (r_bin q_lit (r_sub (r_loc rfl rfl) q_lit (u_t rfl ⟨(by decide), (by decide)⟩)) (p_addS l1)) (r_cons (r_tup (r_cons q_lit (r_cons (r_lstF (r_cons (r_tup (r_cons q_lit (r_cons q_lit q_nil))) (r_cons (r_sub (r_loc rfl rfl) q_lit (u_t rfl ⟨(by decide), (by decide)⟩)) q_nil))) (r_cons (r_tup (r_cons q_lit q_nil)) q_nil)))) (r_cons (r_bin (r_lstF (r_cons q_lit q_nil)) (r_sub (r_loc rfl rfl) q_lit (u_t rfl ⟨(by decide), (by decide)⟩)) (p_addL hnq)) q_nil))))) kr_r))) rfl
  · refine ⟨.vec A B, k2, ?_, ⟨okA, okB⟩, by simp only [Dat.deep]; lia, by lia, by lia⟩
    have c4 : decide (((w : Nat) : Int) = 4) = false := by rw [q]; rfl
    have c5 : decide (((w : Nat) : Int) = 5) = true := by rw [q]; rfl
    have hv : AV.tup [AV.str ([35, 40] ++ A.text ++ [32] ++ B.text ++ [41]), AV.tup [AV.str [118, 101, 99, 116, 111, 114], AV.lst [A.fp.form, B.fp.form]], AV.lst (A.names.map AV.str ++ B.names.map AV.str)] = datV (A.vec B) := by simp [datV, Dat.text, Dat.names, Dat.fp]
    exact dat_front hway hw4 hsub e1 e2 hnl (s_ite (t_cmp (r_loc rfl rfl) q_lit rfl) (i_f c4 (k_nil (s_ite (t_cmp (r_loc rfl rfl) q_lit rfl) (i_t c5 (k_any (x_ret (r_tup (r_cons (r_bin (r_bin (r_bin (r_bin q_lit (r_sub (r_loc rfl rfl) q_lit (u_t rfl ⟨(by decide), (by decide)⟩)) (p_addS (by simp; lia))) q_lit (p_addS (by simp; lia))) (r_sub (r_loc rfl rfl) q_lit (u_t rfl ⟨(by decide), (by decide)⟩)) (p_addS (by simp; lia))) q_lit (p_addS (by simp; lia))) (r_cons (r_tup (r_cons q_lit (r_cons (r_lstF (r_cons (r_sub (r_loc rfl rfl) q_lit (u_t rfl ⟨(by decide), (by decide)⟩)) (r_cons (r_sub (r_loc rfl rfl) q_lit (u_t rfl ⟨(by decide), (by decide)⟩)) q_nil))) q_nil))) (r_cons (r_loc rfl rfl) q_nil))))) kr_r)))))) hv
  · refine ⟨.lst A B, k2, ?_, ⟨okA, okB⟩, by simp only [Dat.deep]; lia, by lia, by lia⟩
    have c4 : decide (((w : Nat) : Int) = 4) = false := by rw [q]; rfl
    have c5 : decide (((w : Nat) : Int) = 5) = false := by rw [q]; rfl
    have c6 : decide (((w : Nat) : Int) = 6) = true := by rw [q]; rfl
    have hv : AV.tup [AV.str ([40] ++ A.text ++ [10, 32] ++ B.text ++ [32, 41]), AV.tup [AV.str [108, 105, 115, 116], AV.lst [A.fp.form, B.fp.form], AV.tup [AV.str [101, 109, 112, 116, 121]]], AV.lst (A.names.map AV.str ++ B.names.map AV.str)] = datV (A.lst B) := by simp [datV, Dat.text, Dat.names, Dat.fp]
    exact dat_front hway hw4 hsub e1 e2 hnl (s_ite (t_cmp (r_loc rfl rfl) q_lit rfl) (i_f c4 (k_nil (s_ite (t_cmp (r_loc rfl rfl) q_lit rfl) (i_f c5 (k_nil (s_ite (t_cmp (r_loc rfl rfl) q_lit rfl) (i_t c6 (k_any (x_ret (r_tup (r_cons (r_bin (r_bin (r_bin (r_bin q_lit (r_sub (r_loc rfl rfl) q_lit (u_t rfl ⟨(by decide), (by decide)⟩)) (p_addS (by simp; lia))) q_lit (p_addS (by simp; lia))) (r_sub (r_loc rfl rfl) q_lit (u_t rfl ⟨(by decide), (by decide)⟩)) (p_addS (by simp; lia))) q_lit (p_addS (by simp; lia))) (r_cons (r_tup (r_cons q_lit (r_cons (r_lstF (r_cons (r_sub (r_loc rfl rfl) q_lit (u_t rfl ⟨(by decide), (by decide)⟩)) (r_cons (r_sub (r_loc rfl rfl) q_lit (u_t rfl ⟨(by decide), (by decide)⟩)) q_nil))) (r_cons (r_tup (r_cons q_lit q_nil)) q_nil)))) (r_cons (r_loc rfl rfl) q_nil))))) kr_r))))))))) hv
  · refine ⟨.dot A B, k2, ?_, ⟨okA, okB⟩, by simp only [Dat.deep]; lia, by lia, by lia⟩
    have c4 : decide (((w : Nat) : Int) = 4) = false := by rw [q]; rfl
    have c5 : decide (((w : Nat) : Int) = 5) = false := by rw [q]; rfl
    have c6 : decide (((w : Nat) : Int) = 6) = false := by rw [q]; rfl
    have pl := parts_len B
    rcases kinds B with hk | ⟨s, rest, hk, hs, hp, htl⟩
    · have c7 : [A.fp.form].length + B.fp.parts.length ≤ 10000 := by simp; lia
      have e2' : cP (n + dd + 2) 2 [.ref a, .int (dd : Nat)] (H.set a (deckO cells k1)) = some (.tup [.str B.text, .tup [.str sList, .lst B.fp.parts, B.fp.tail], .lst (B.names.map .str)], H.set a (deckO cells k2)) := by rw [← hk]; exact e2
      clear e2
      have hv : AV.tup [AV.str ([40] ++ A.text ++ [32, 46, 32] ++ B.text ++ [41]), AV.tup [AV.str [108, 105, 115, 116], AV.lst ([A.fp.form] ++ B.fp.parts), B.fp.tail], AV.lst (A.names.map AV.str ++ B.names.map AV.str)] = datV (A.dot B) := by simp [datV, Dat.text, Dat.names, Dat.fp]
      exact dat_front hway hw4 hsub e1 e2' hnl (s_ite (t_cmp (r_loc rfl rfl) q_lit rfl) (i_f c4 (k_nil (s_ite (t_cmp (r_loc rfl rfl) q_lit rfl) (i_f c5 (k_nil (s_ite (t_cmp (r_loc rfl rfl) q_lit rfl) (i_f c6 (k_nil (x_asg (r_sub (r_loc rfl rfl) q_lit (u_t rfl ⟨(by decide), (by decide)⟩)) rfl (s_ite (t_cmp (r_sub (r_loc rfl rfl) q_lit (u_t rfl ⟨(by decide), (by decide)⟩)) q_lit rfl) (i_t rfl (k_any (x_ret (r_tup (r_cons (r_bin (r_bin (r_bin (r_bin q_lit (r_sub (r_loc rfl rfl) q_lit (u_t rfl ⟨(by decide), (by decide)⟩)) (p_addS (by simp; lia))) q_lit (p_addS (by simp; lia))) (r_sub (r_loc rfl rfl) q_lit (u_t rfl ⟨(by decide), (by decide)⟩)) (p_addS (by simp; lia))) q_lit (p_addS (by simp; lia))) (r_cons (r_tup (r_cons q_lit (r_cons (r_bin (r_lstF (r_cons (r_sub (r_loc rfl rfl) q_lit (u_t rfl ⟨(by decide), (by decide)⟩)) q_nil)) (r_sub (r_loc rfl rfl) q_lit (u_t rfl ⟨(by decide), (by decide)⟩)) (p_addL c7)) (r_cons (r_sub (r_loc rfl rfl) q_lit (u_t rfl ⟨(by decide), (by decide)⟩)) q_nil)))) (r_cons (r_loc rfl rfl) q_nil))))) kr_r))))))))))))) hv
    · have e2' : cP (n + dd + 2) 2 [.ref a, .int (dd : Nat)] (H.set a (deckO cells k1)) = some (.tup [.str B.text, .tup (.str s :: rest), .lst (B.names.map .str)], H.set a (deckO cells k2)) := by rw [← hk]; exact e2
      have hs' : decide (s = sList) = false := decide_eq_false hs
      clear e2
      have hv : AV.tup [AV.str ([40] ++ A.text ++ [32, 46, 32] ++ B.text ++ [41]), AV.tup [AV.str [108, 105, 115, 116], AV.lst [A.fp.form], AV.tup (AV.str s :: rest)], AV.lst (A.names.map AV.str ++ B.names.map AV.str)] = datV (A.dot B) := by simp [datV, Dat.text, Dat.names, Dat.fp, hp, htl, hk]
      exact dat_front hway hw4 hsub e1 e2' hnl (s_ite (t_cmp (r_loc rfl rfl) q_lit rfl) (i_f c4 (k_nil (s_ite (t_cmp (r_loc rfl rfl) q_lit rfl) (i_f c5 (k_nil (s_ite (t_cmp (r_loc rfl rfl) q_lit rfl) (i_f c6 (k_nil (x_asg (r_sub (r_loc rfl rfl) q_lit (u_t rfl ⟨(by decide), (by decide)⟩)) rfl (s_ite (t_cmp (r_sub (r_loc rfl rfl) q_lit (u_t rfl ⟨(by decide), (by decide)⟩)) q_lit rfl) (i_f hs' (k_nil (x_ret (r_tup (r_cons (r_bin (r_bin (r_bin (r_bin q_lit (r_sub (r_loc rfl rfl) q_lit (u_t rfl ⟨(by decide), (by decide)⟩)) (p_addS (by simp; lia))) q_lit (p_addS (by simp; lia))) (r_sub (r_loc rfl rfl) q_lit (u_t rfl ⟨(by decide), (by decide)⟩)) (p_addS (by simp; lia))) q_lit (p_addS (by simp; lia))) (r_cons (r_tup (r_cons q_lit (r_cons (r_lstF (r_cons (r_sub (r_loc rfl rfl) q_lit (u_t rfl ⟨(by decide), (by decide)⟩)) q_nil)) (r_cons (r_loc rfl rfl) q_nil)))) (r_cons (r_loc rfl rfl) q_nil)))))))))))))))))) hv
theorem datum2 : DatumP 2 14 := datumS (b := 6) (by decide) (datumS (b := 2) (by decide) datum0)
end
section
noncomputable def pyS (x : List Nat) : PyData := .str ⟨x.toArray⟩
theorem ok5 {x : List Nat} (h : x ∈ names5) : PyData.strOk ⟨x.toArray⟩ = true := by
  have : ∀ x ∈ names5, PyData.strOk ⟨x.toArray⟩ = true := by decide +kernel
  exact this x h
theorem pyL_strs {H : AH} : ∀ {xs : List (List Nat)} {n : Nat}, xs.length < n → toPyL n H (xs.map .str) = some (xs.map pyS)
  | [], n + 1, _ => rfl
  | x :: xs, n + 1, h => by
    have h' : xs.length < n := by simpa using h
    obtain ⟨k, rfl⟩ : ∃ k, n = k + 1 := ⟨n - 1, by lia⟩
    exact (bs (pyL_strs h') rfl : (toPyL (k + 1) H (xs.map .str)).bind (fun ds => some (pyS x :: ds)) = _)
theorem lay_strs : ∀ {xs : List (List Nat)}, (∀ x ∈ xs, x ∈ names5) → PyData.canLayAll0 (xs.map pyS) = true
  | [], _ => rfl
  | x :: xs, h => by
    simp only [List.map_cons, PyData.canLayAll0, Bool.and_eq_true]
    exact ⟨by simp only [pyS, PyData.canLay0]; exact ok5 (h x (by simp)), lay_strs fun y hy => h y (List.mem_cons_of_mem _ hy)⟩
theorem dep_strs : ∀ {xs : List (List Nat)}, PyData.depthAll (xs.map pyS) = 0
  | [] => rfl
  | x :: xs => by simp only [List.map_cons, PyData.depthAll, dep_strs, pyS, PyData.depth]; rfl
theorem shaped_strs {xs : List (List Nat)} (h : ∀ x ∈ xs, x ∈ names5) : SeqAt.shaped (.list (xs.map pyS)) = true := by
  simp only [SeqAt.shaped, PyData.canLay0, PyData.depth, lay_strs h, dep_strs]; rfl
theorem shaped_str {x : List Nat} (h : x ∈ names5) : SeqAt.shaped (pyS x) = true := by
  simp only [SeqAt.shaped, pyS, PyData.canLay0, PyData.depth, ok5 h]; rfl
theorem eqv_str {x y : List Nat} : (pyS x).eqv (pyS y) = decide (x = y) := by
  simp only [pyS, PyData.eqv]
  by_cases h : x = y
  · subst h; simp
  · simp only [h, decide_false, beq_eq_false_iff_ne, ne_eq]
    intro q
    have := congrArg (fun s : Str => s.cps.toList) q
    exact h (by simpa using this)
theorem any_strs {s : List Nat} : ∀ {xs : List (List Nat)}, ((xs.map pyS).any fun y => y.eqv (pyS s)) = decide (s ∈ xs)
  | [] => by simp
  | x :: xs => by
    simp only [List.map_cons, List.any_cons, any_strs, eqv_str, List.mem_cons]
    by_cases h : x = s
    · subst h; simp
    · have : ¬ s = x := fun q => h q.symm
      simp [h, this]
theorem in_strs {H : AH} {a : Nat} {s : List Nat} {xs : List (List Nat)} (h : H[a]? = some (.list (xs.map .str))) (hl : xs.length < 90) (h5 : ∀ x ∈ xs, x ∈ names5) (hs : s ∈ names5) : inV H (.str s) (.ref a) = some (decide (s ∈ xs)) := by
  have e1 : toPy pyFuel H (.str s) = some (pyS s) := rfl
  have e2 : toPyL pyFuel H (xs.map .str) = some (xs.map pyS) := pyL_strs (by simp only [pyFuel]; lia)
  have e0 : items? H (.ref a) = some (xs.map .str) := bs h rfl
  exact (z_inD e0 e1 e2 (shaped_str hs) (shaped_strs h5)).trans (congrArg some any_strs)

theorem grow_sub {N xs : List (List Nat)} (h : ∀ x ∈ N, x ∈ names5) (h' : ∀ x ∈ xs, x ∈ names5) : ∀ x ∈ grow N xs, x ∈ names5 := by
  induction xs generalizing N with
  | nil => exact h
  | cons y ys ih =>
    refine ih ?_ fun x hx => h' x (List.mem_cons_of_mem _ hx)
    intro x hx
    simp only [grow1] at hx
    split at hx
    · exact h x hx
    · rcases List.mem_append.mp hx with q | q
      · exact h x q
      · simp at q; subst q; exact h' x (by simp)
theorem grow_len {N xs : List (List Nat)} : (grow N xs).length ≤ N.length + xs.length := by
  induction xs generalizing N with
  | nil => exact Nat.le_refl _
  | cons y ys ih =>
    refine Nat.le_trans ih ?_
    simp only [grow1, List.length_cons]
    split <;> simp <;> lia

theorem l_first {cf : CF} {n a : Nat} {nv : AV} : ∀ {suf pre acc : List (List Nat)} {x : AV} {H : AH} (m : Nat), H[a]? = some (.list (acc.map .str)) → acc.length + suf.length < 90 → (∀ x ∈ acc, x ∈ names5) → (∀ x ∈ suf, x ∈ names5) →
    ∃ x', loopF (.items ((pre ++ suf).map .str)) (.one 2) (evS cf n f4_1b) (m + suf.length + 1) pre.length [nv, .ref a, x] H = some (.nxt, [nv, .ref a, x'], H.set a (.list ((grow acc suf).map .str))) := by
  intro suf
  induction suf with
  | nil =>
    intro pre acc x H m ha hl h1 h2
    rw [show H.set a (AO.list ((grow acc []).map .str)) = H from set_same ha]
    exact ⟨x, f_end (by simp [nextOf])⟩
  | cons s suf ih =>
    intro pre acc x H m ha hl h1 h2
    have hs := h2 s (by simp)
    have hin := in_strs ha (by simp at hl; lia) h1 hs
    have hx : nextOf H pre.length (.items ((pre ++ s :: suf).map .str)) = some (some (.str s)) := by simp [nextOf]
    have hll : (acc.map AV.str).length ≤ 10000 := by simp at hl ⊢; lia
    have hset : H.set a (.list (acc.map .str)) = H := set_same ha
    by_cases hm : s ∈ acc
    · have hd : decide (s ∈ acc) = true := by simpa using hm
      have hni : cmpV H .nin (.str s) (.ref a) = some false := by rw [p_nin, hin, hd]; rfl
      obtain ⟨x', e⟩ := ih (pre := pre ++ [s]) (acc := acc) (x := .str s) m ha (by simp at hl; lia) h1 fun y hy => h2 y (List.mem_cons_of_mem _ hy)
      refine ⟨x', ?_⟩
      rw [show m + (s :: suf).length + 1 = (m + suf.length + 1) + 1 by simp; lia, show grow acc (s :: suf) = grow acc suf by simp only [grow, List.foldl_cons, grow1, hm, if_true]]
      simp only [List.append_assoc, List.singleton_append, List.length_append, List.length_singleton] at e
      refine f_turn hx rfl ?_ e
      clear ih e h1 h2
      exact eqs (s_ite (t_cmp (r_loc rfl rfl) (r_loc rfl rfl) hni) (i_f rfl (k_nil q_snil))) rfl rfl rfl
    · have hd : decide (s ∈ acc) = false := by simpa using hm
      have hni : cmpV H .nin (.str s) (.ref a) = some true := by rw [p_nin, hin, hd]; rfl
      have hmap : acc.map AV.str ++ [.str s] = (acc ++ [s]).map AV.str := by simp
      obtain ⟨x', e⟩ := ih (pre := pre ++ [s]) (acc := acc ++ [s]) (x := .str s) (H := H.set a (.list ((acc ++ [s]).map .str))) m (by rw [g_set, ha]; rfl) (by simp at hl ⊢; lia) (fun y hy => by
        rcases List.mem_append.mp hy with q | q
        · exact h1 y q
        · simp at q; subst q; exact hs) fun y hy => h2 y (List.mem_cons_of_mem _ hy)
      refine ⟨x', ?_⟩
      rw [List.set_set] at e
      rw [show m + (s :: suf).length + 1 = (m + suf.length + 1) + 1 by simp; lia, show grow acc (s :: suf) = grow (acc ++ [s]) suf by simp only [grow, List.foldl_cons, grow1, hm, if_false]]
      simp only [List.append_assoc, List.singleton_append, List.length_append, List.length_singleton] at e
      refine f_turn hx rfl ?_ e
      clear ih e h1 h2
      exact eqs (s_ite (t_cmp (r_loc rfl rfl) (r_loc rfl rfl) hni) (i_t rfl (k_any (s_expr (r_meth (r_loc rfl rfl) (rv_ap ha) (r_cons (r_loc rfl rfl) q_nil) (ap_r ha hll hmap rfl)) q_snil) (kr_n q_snil)))) rfl rfl rfl
theorem c_first {names : List (List Nat)} {H : AH} (hl : names.length < 90) (h5 : ∀ x ∈ names, x ∈ names5) : cP 99 4 [.lst (names.map .str)] H = some (.ref H.length, H ++ [.list ((grow [] names).map .str)]) := by
  have ha : (H ++ [AO.list []])[H.length]? = some (.list (([] : List (List Nat)).map .str)) := by simp
  obtain ⟨x', e⟩ := @l_first (cP 98) 98 H.length (.lst (names.map .str)) names [] [] .unb (H ++ [.list []]) (97 - names.length) ha (by simpa using hl) (by simp) h5
  rw [show 97 - names.length + names.length + 1 = 98 by lia] at e
  simp only [List.nil_append, List.length_nil] at e
  have hset : (H ++ [AO.list []]).set H.length (.list ((grow [] names).map .str)) = H ++ [.list ((grow [] names).map .str)] := by simp [List.set_append]
  rw [hset] at e
  have hs : srcOf (.lst (names.map .str)) = some (.items (names.map .str)) := rfl
  rw [callF_code (fn := fn4) (ls := [.lst (names.map .str), .unb, .unb]) rfl rfl rfl]
  clear h5 hset
  exact eqr (x_asg (r_lstT q_nil) rfl (s_for (r_loc rfl rfl) hs e (kr_n (x_ret (r_loc rfl rfl))))) rfl rfl

noncomputable def PyOk (H : AH) (n dp : Nat) (w : AV) : Prop := ∃ d, (∀ m, n ≤ m → toPy m H w = some d) ∧ d.canLay0 = true ∧ d.depth ≤ dp
noncomputable def PyOkL (H : AH) (n dp : Nat) (ws : List AV) : Prop := ∃ ds, (∀ m, n ≤ m → toPyL m H ws = some ds) ∧ PyData.canLayAll0 ds = true ∧ PyData.depthAll ds ≤ dp
section
variable {H : AH} {n n' dp dp' : Nat} {w : AV} {ws : List AV}
theorem PyOk.mono (h : PyOk H n dp w) (h1 : n ≤ n') (h2 : dp ≤ dp') : PyOk H n' dp' w := by
  obtain ⟨d, a, b, c⟩ := h
  exact ⟨d, fun m hm => a m (by lia), b, by lia⟩
theorem PyOkL.mono (h : PyOkL H n dp ws) (h1 : n ≤ n') (h2 : dp ≤ dp') : PyOkL H n' dp' ws := by
  obtain ⟨d, a, b, c⟩ := h
  exact ⟨d, fun m hm => a m (by lia), b, by lia⟩
theorem PyOkL.nil : PyOkL H 1 dp [] := ⟨[], fun m hm => by obtain ⟨k, rfl⟩ : ∃ k, m = k + 1 := ⟨m - 1, by lia⟩; rfl, rfl, Nat.zero_le _⟩
theorem PyOkL.cons (h : PyOk H n dp w) (t : PyOkL H n dp ws) : PyOkL H (n + 1) dp (w :: ws) := by
  obtain ⟨d, a, b, c⟩ := h
  obtain ⟨ds, a', b', c'⟩ := t
  refine ⟨d :: ds, fun m hm => ?_, by simp only [PyData.canLayAll0, b, b', Bool.and_self], by simp only [PyData.depthAll]; lia⟩
  obtain ⟨k, rfl⟩ : ∃ k, m = k + 1 := ⟨m - 1, by lia⟩
  exact bs (a k (by lia)) (bs (a' k (by lia)) rfl)
theorem PyOk.tup (h : PyOkL H n dp ws) : PyOk H (n + 1) (dp + 1) (.tup ws) := by
  obtain ⟨ds, a, b, c⟩ := h
  refine ⟨.tuple ds, fun m hm => ?_, by simp only [PyData.canLay0, b], by simp only [PyData.depth]; lia⟩
  obtain ⟨k, rfl⟩ : ∃ k, m = k + 1 := ⟨m - 1, by lia⟩
  exact bs (a k (by lia)) rfl
theorem PyOk.lst (h : PyOkL H n dp ws) : PyOk H (n + 1) (dp + 1) (.lst ws) := by
  obtain ⟨ds, a, b, c⟩ := h
  refine ⟨.list ds, fun m hm => ?_, by simp only [PyData.canLay0, b], by simp only [PyData.depth]; lia⟩
  obtain ⟨k, rfl⟩ : ∃ k, m = k + 1 := ⟨m - 1, by lia⟩
  exact bs (a k (by lia)) rfl
theorem PyOk.int {i : Int} : PyOk H 1 dp (.int i) := ⟨.int i, fun m hm => by obtain ⟨k, rfl⟩ : ∃ k, m = k + 1 := ⟨m - 1, by lia⟩; rfl, rfl, Nat.zero_le _⟩
theorem PyOk.str {s : List Nat} (h : PyData.strOk ⟨s.toArray⟩ = true) : PyOk H 1 dp (.str s) := ⟨.str ⟨s.toArray⟩, fun m hm => by obtain ⟨k, rfl⟩ : ∃ k, m = k + 1 := ⟨m - 1, by lia⟩; rfl, by simp only [PyData.canLay0, h], Nat.zero_le _⟩
theorem PyOkL.one (h : PyOk H n dp w) (hn : 1 ≤ n) : PyOkL H (n + 1) dp [w] := .cons h ((PyOkL.nil (dp := dp)).mono hn (Nat.le_refl _))
theorem PyOkL.two {v : AV} (h : PyOk H n dp w) (h' : PyOk H n dp v) (hn : 1 ≤ n) : PyOkL H (n + 2) dp [w, v] := .cons (h.mono (by lia) (Nat.le_refl _)) (.one h' hn)
theorem PyOkL.three {v u : AV} (h : PyOk H n dp w) (h' : PyOk H n dp v) (h'' : PyOk H n dp u) (hn : 1 ≤ n) : PyOkL H (n + 3) dp [w, v, u] := .cons (h.mono (by lia) (Nat.le_refl _)) (.two h' h'' hn)
theorem emptyOk : PyOk H 3 1 emptyF := .tup (.one (.str (by decide +kernel)) (by lia))
theorem symOk {v : List Nat} (h : v ∈ names5) : PyOk H 4 1 (symF v) := .tup (.two (.str (by decide +kernel)) (.str (ok5 h)) (by lia))
end
theorem forms_ok {H : AH} : ∀ D : Dat, D.ok → PyOk H (10 * D.deep + 10) (2 * D.deep + 3) D.fp.form ∧ PyOkL H (10 * D.deep + 5) (2 * D.deep + 1) D.fp.parts ∧ PyOk H (10 * D.deep + 10) (2 * D.deep + 3) D.fp.tail
  | .sym v up, h => ⟨(symOk h).mono (by lia) (by lia), (PyOkL.nil (dp := 0)).mono (by lia) (by lia), (symOk h).mono (by lia) (by lia)⟩
  | .num i, h => by
    have : PyOk H 4 1 (.tup [.str sWhole, .int i]) := .tup (.two (.str (by decide +kernel)) .int (by lia))
    exact ⟨this.mono (by lia) (by lia), (PyOkL.nil (dp := 0)).mono (by lia) (by lia), this.mono (by lia) (by lia)⟩
  | .txt, h => by
    have h1 : PyOk H 5 1 (.lst [.int 97, .int 32, .int 98]) := .lst (.three .int .int .int (by lia))
    have : PyOk H 8 2 (.tup [.str sText, .lst [.int 97, .int 32, .int 98]]) := .tup (.two (PyOk.mono (.str (by decide +kernel)) (by lia : 1 ≤ 5) (by lia : 0 ≤ 1)) h1 (by lia))
    exact ⟨this.mono (by simp only [Dat.deep]; lia) (by lia), (PyOkL.nil (dp := 0)).mono (by lia) (by lia), this.mono (by simp only [Dat.deep]; lia) (by lia)⟩
  | .quo d, h => by
    have hd := (forms_ok (H := H) d h).1
    have h1 : PyOkL H (10 * d.deep + 12) (2 * d.deep + 3) [symF sQuote, d.fp.form] := .two ((symOk (by simp)).mono (by lia) (by lia)) hd (by lia)
    have h2 : PyOk H (10 * d.deep + 13) (2 * d.deep + 4) (.lst [symF sQuote, d.fp.form]) := .lst h1
    have h3 : PyOk H (10 * d.deep + 17) (2 * d.deep + 5) (Dat.quo d).fp.form := .tup (.three (PyOk.mono (.str (by decide +kernel)) (by lia : 1 ≤ 10 * d.deep + 13) (Nat.le_refl _)) h2 (emptyOk.mono (by lia) (by lia)) (by lia))
    simp only [Dat.deep]
    exact ⟨h3.mono (by lia) (by lia), h1.mono (by lia) (by lia), emptyOk.mono (by lia) (by lia)⟩
  | .vec a b, h => by
    have ha := (forms_ok (H := H) a h.1).1.mono (n' := 10 * max a.deep b.deep + 10) (dp' := 2 * max a.deep b.deep + 3) (by lia) (by lia)
    have hb := (forms_ok (H := H) b h.2).1.mono (n' := 10 * max a.deep b.deep + 10) (dp' := 2 * max a.deep b.deep + 3) (by lia) (by lia)
    have h2 : PyOk H _ _ (.lst [a.fp.form, b.fp.form]) := .lst (.two ha hb (by lia))
    have h3 : PyOk H _ _ (Dat.vec a b).fp.form := .tup (.two (PyOk.mono (.str (by decide +kernel)) (by lia : 1 ≤ 10 * max a.deep b.deep + 10 + 2 + 1) (Nat.le_refl _)) h2 (by lia))
    simp only [Dat.deep]
    exact ⟨h3.mono (by lia) (by lia), (PyOkL.nil (dp := 0)).mono (by lia) (by lia), h3.mono (by lia) (by lia)⟩
  | .lst a b, h => by
    have ha := (forms_ok (H := H) a h.1).1.mono (n' := 10 * max a.deep b.deep + 10) (dp' := 2 * max a.deep b.deep + 3) (by lia) (by lia)
    have hb := (forms_ok (H := H) b h.2).1.mono (n' := 10 * max a.deep b.deep + 10) (dp' := 2 * max a.deep b.deep + 3) (by lia) (by lia)
    have h1 : PyOkL H _ _ [a.fp.form, b.fp.form] := .two ha hb (by lia)
    have h2 : PyOk H _ _ (.lst [a.fp.form, b.fp.form]) := .lst h1
    have h3 : PyOk H _ _ (Dat.lst a b).fp.form := .tup (.three (PyOk.mono (.str (by decide +kernel)) (by lia : 1 ≤ 10 * max a.deep b.deep + 10 + 2 + 1) (Nat.le_refl _)) h2 (emptyOk.mono (by lia) (by lia)) (by lia))
    simp only [Dat.deep]
    exact ⟨h3.mono (by lia) (by lia), h1.mono (by lia) (by lia), emptyOk.mono (by lia) (by lia)⟩
  | .dot a b, h => by
    have ha := (forms_ok (H := H) a h.1).1.mono (n' := 10 * max a.deep b.deep + 10) (dp' := 2 * max a.deep b.deep + 3) (by lia) (by lia)
    have hb := (forms_ok (H := H) b h.2).2.1.mono (n' := 10 * max a.deep b.deep + 10) (dp' := 2 * max a.deep b.deep + 3) (by lia) (by lia)
    have hc := (forms_ok (H := H) b h.2).2.2
    have h1 : PyOkL H _ _ (a.fp.form :: b.fp.parts) := .cons ha hb
    have h2 : PyOk H _ _ (.lst (a.fp.form :: b.fp.parts)) := .lst h1
    have h3 : PyOk H _ _ (Dat.dot a b).fp.form := .tup (.three (PyOk.mono (.str (by decide +kernel)) (by lia : 1 ≤ 10 * max a.deep b.deep + 10 + 1 + 1) (Nat.le_refl _)) h2 (hc.mono (by lia) (by lia)) (by lia))
    simp only [Dat.deep]
    exact ⟨h3.mono (by lia) (by lia), h1.mono (by lia) (by lia), hc.mono (by lia) (by lia)⟩
theorem formsL_ok {H : AH} : ∀ {Ds : List Dat}, (∀ D ∈ Ds, D.ok ∧ D.deep ≤ 2) → PyOkL H (30 + Ds.length + 1) 7 (Ds.map fun D => D.fp.form)
  | [], _ => (PyOkL.nil (dp := 0)).mono (by lia) (by lia)
  | D :: Ds, h => by
    have h1 := h D (by simp)
    exact .cons ((forms_ok D h1.1).1.mono (by lia) (by lia)) (formsL_ok fun E hE => h E (List.mem_cons_of_mem _ hE))
theorem due_ok {H : AH} {A B : List Dat} (hA : ∀ D ∈ A, D.ok ∧ D.deep ≤ 2) (hB : ∀ D ∈ B, D.ok ∧ D.deep ≤ 2) (lA : A.length ≤ 10) (lB : B.length ≤ 10) : PyOk H 60 9 (.lst [.lst (A.map fun D => D.fp.form), .lst (B.map fun D => D.fp.form)]) :=
  PyOk.mono (.lst (.two (PyOk.mono (.lst ((formsL_ok hA).mono (by lia : _ ≤ 41) (Nat.le_refl _))) (Nat.le_refl _) (Nat.le_refl _)) (.lst ((formsL_ok hB).mono (by lia) (Nat.le_refl _))) (by lia))) (by lia) (by lia)
theorem eq_due {H : AH} {A B : List Dat} {f0 f1 B0 : Nat} (hA : ∀ D ∈ A, D.ok ∧ D.deep ≤ 2) (hB : ∀ D ∈ B, D.ok ∧ D.deep ≤ 2) (lA : A.length ≤ 10) (lB : B.length ≤ 10)
    (hr : Rep H B0 [.lst [.ref f0, .ref f1]] [.lst [.lst (A.map fun D => D.fp.form), .lst (B.map fun D => D.fp.form)]]) :
    cmpV H .ne (.lst [.ref f0, .ref f1]) (.lst [.lst (A.map fun D => D.fp.form), .lst (B.map fun D => D.fp.form)]) = some false := by
  obtain ⟨d, h1, h2, h3⟩ := due_ok (H := H) hA hB lA lB
  have e1 := h1 100 (by lia)
  have e2 : toPy 100 H (.lst [.ref f0, .ref f1]) = some d := by
    cases hr with
    | lst h t =>
      have := h.toPyL 99
      rw [← e1]
      exact congrArg (Option.bind · _) this
  have hs : SeqAt.shaped d = true := by
    simp only [SeqAt.shaped, h2, Bool.true_and, decide_eq_true_eq]; lia
  have hv := SeqAt.eqv_refl d h2
  exact congrArg (Option.map (!·)) ((z_eqD rfl e2 e1 hs hs).trans (congrArg some hv))
end
section
theorem names_ok : ∀ D : Dat, D.ok → ∀ x ∈ D.names, x ∈ names5
  | .sym v up, h => by simp only [Dat.names, List.mem_singleton]; rintro x rfl; exact h
  | .num i, h => by simp [Dat.names]
  | .txt, h => by simp [Dat.names]
  | .quo d, h => by
    intro x hx
    rcases List.mem_cons.mp hx with rfl | hx
    · simp
    · exact names_ok d h x hx
  | .vec a b, h => fun x hx => (List.mem_append.mp hx).elim (names_ok a h.1 x) (names_ok b h.2 x)
  | .lst a b, h => fun x hx => (List.mem_append.mp hx).elim (names_ok a h.1 x) (names_ok b h.2 x)
  | .dot a b, h => fun x hx => (List.mem_append.mp hx).elim (names_ok a h.1 x) (names_ok b h.2 x)
theorem ord_ok : ∀ {ts : List Nat} {ps : Nat → List Item}, (∀ t ∈ ts, ∀ i ∈ ps t, ItemOk i) → (∀ x ∈ namesOrd ts ps, x ∈ names5) ∧ (namesOrd ts ps).length ≤ 7 * ts.length
  | [], _, _ => ⟨by simp [namesOrd], by simp [namesOrd]⟩
  | t :: ts, ps, h => by
    simp only [namesOrd]
    rcases e : ps t with _ | ⟨i, r⟩
    · have := ord_ok (ts := ts) (ps := ps) fun s hs => h s (List.mem_cons_of_mem _ hs)
      exact ⟨this.1, by have := this.2; simp; lia⟩
    · have hi := h t (by simp) i (by rw [e]; simp)
      have := ord_ok (ts := ts) (ps := up ps t r) (by
        intro s hs j hj
        by_cases q : s = t
        · subst q; rw [up_self] at hj; exact h s (by simp) j (by rw [e]; exact List.mem_cons_of_mem _ hj)
        · rw [up_ne _ _ q] at hj; exact h s (List.mem_cons_of_mem _ hs) j hj)
      refine ⟨fun x hx => (List.mem_append.mp hx).elim (names_ok _ hi.ok x) (this.1 x), ?_⟩
      have h2 := this.2
      have h3 := names_len i.1
      have h4 : 2 ^ i.1.deep ≤ 2 ^ 2 := Nat.pow_le_pow_right (by decide) hi.deep
      simp only [List.length_append, List.length_cons]
      lia

theorem c_Table {n : Nat} {H : AH} : cP (n + 1) 46 [] H = some (.ref (H.length + 2), H ++ [.list [], .dict [], .inst 1 [.ref H.length, .ref (H.length + 1)]]) := by
  rw [callF_newE (fn := fn46) (ls := [.unb]) rfl rfl rfl]
  have hv : AV.ref (H ++ [AO.list []] ++ [AO.dict []]).length = .ref (H.length + 2) := by simp
  have hw : H ++ [AO.list []] ++ [AO.dict []] ++ [.inst 1 [.ref H.length, .ref (H ++ [AO.list []]).length]] = H ++ [.list [], .dict [], .inst 1 [.ref H.length, .ref (H.length + 1)]] := by simp
  exact eqN (r_cons (r_lstT q_nil) (r_cons q_dict0 q_nil)) hv hw
theorem c_size {n tb rows dict : Nat} {H : AH} {L : List (List Nat × Nat)} (T : TB tb rows dict H L) : cP (n + 1) 31 [.ref tb] H = some (.int (L.length : Nat), H) := by
  have h1 := T.tb; have h2 := T.rows; have h3 := T.len
  have hl : (L.map fun p => AV.ref p.2).length = L.length := by simp
  have hl2 : (L.map fun p => AV.ref p.2).length ≤ 10000 := by lia
  rw [callF_code (fn := fn31) (ls := [.ref tb]) rfl rfl rfl]
  clear T
  exact eqr (x_ret (r_bi (r_cons (r_attr (r_loc rfl rfl) (a_r h1 rfl)) q_nil) (ln_r h2 hl2))) (by simp only [List.set_set, *]) rfl
theorem c_bynum {n tb rows dict i s : Nat} {x : List Nat} {H : AH} {L : List (List Nat × Nat)} (T : TB tb rows dict H L) (h : L[i]? = some (x, s)) : cP (n + 1) 29 [.ref tb, .int (i : Nat)] H = some (.ref s, H) := by
  have h1 := T.tb; have h2 := T.rows; have h3 := T.len
  have hi : i < 1000 := by have := (List.getElem?_eq_some_iff.mp h).1; lia
  have hg : (L.map fun p => AV.ref p.2)[i]? = some (.ref s) := by simp [h]
  rw [callF_code (fn := fn29) (ls := [.ref tb, .int (i : Nat)]) rfl rfl rfl]
  clear T
  exact eqr (x_ret (r_sub (r_attr (r_loc rfl rfl) (a_r h1 rfl)) (r_loc rfl rfl) (u_r h2 hg ⟨(by lia), (by lia)⟩))) rfl rfl

theorem lc_turn {src : Src} {turn : AV → AH → Option (Option AV × AH)} {k i : Nat} {acc : List AV} {v y : AV} {H H' : AH} (h : nextOf H i src = some (some v)) (h0 : turn v H = some (some y, H')) : loopC src turn (k + 1) i acc H = loopC src turn k (i + 1) (acc ++ [y]) H' := l_turn h h0 rfl
theorem lc_end {src : Src} {turn : AV → AH → Option (Option AV × AH)} {k i : Nat} {acc : List AV} {H : AH} (h : nextOf H i src = some none) : loopC src turn (k + 1) i acc H = some (acc, H) := l_end h
theorem loopC_pure {turn : AV → AH → Option (Option AV × AH)} {H : AH} : ∀ {suf ys pre acc : List AV} (m : Nat), suf.length = ys.length → (∀ p ∈ suf.zip ys, turn p.1 H = some (some p.2, H)) →
    loopC (.items (pre ++ suf)) turn (m + suf.length + 1) pre.length acc H = some (acc ++ ys, H)
  | [], [], pre, acc, m, _, _ => by rw [lc_end (by simp [nextOf])]; simp
  | v :: suf, y :: ys, pre, acc, m, hl, h => by
    have h0 := h (v, y) (by simp)
    have e := loopC_pure (suf := suf) (ys := ys) (pre := pre ++ [v]) (acc := acc ++ [y]) m (by simpa using hl) fun p hp => h p (by simp only [List.zip_cons_cons]; exact List.mem_cons_of_mem _ hp)
    rw [show m + (v :: suf).length + 1 = (m + suf.length + 1) + 1 by simp; lia]
    simp only [List.append_assoc, List.singleton_append, List.length_append, List.length_singleton] at e
    simp only at h0
    have hn : nextOf H pre.length (.items (pre ++ v :: suf)) = some (some v) := by simp [nextOf]
    rw [lc_turn hn h0, e]

theorem l_names {n atA : Nat} {sr : Src} {full : List Nat} {A : Nat → List Item} {sc dk gp texts due many mx lf tv tb : AV} :
    ∀ (ts pre : List Nat), full = pre ++ ts → ∀ {H : AH} {a : Nat → Nat} {nm : List (List Nat)} (x9 : AV) (m : Nat),
    (∀ H', Fr [atA] H H' → ∀ j, nextOf H' j sr = some ((full[j]?).map fun (t : Nat) => .int (t : Nat))) → H[atA]? = some (.list [.int (a 0 : Nat), .int (a 1 : Nat)]) → (∀ t ∈ ts, t < 2) → (∀ t, t < 2 → ts.count t = ((A t).drop (a t)).length ∧ a t ≤ (A t).length ∧ (A t).length ≤ 10) → (∀ t, t < 2 → ∀ i ∈ A t, ItemOk i) → nm.length + 7 * ts.length ≤ 1000 →
    ∃ H' x9', loopF sr (.one 9) (evS (cP n) n f0_2b) (m + ts.length + 1) pre.length [sc, dk, .lst [.lst ((A 0).map fun i => datV i.1), .lst ((A 1).map fun i => datV i.1)], gp, texts, due, many, mx, lf, x9, tv, tb, .ref atA, .lst (nm.map .str)] H
      = some (.nxt, [sc, dk, .lst [.lst ((A 0).map fun i => datV i.1), .lst ((A 1).map fun i => datV i.1)], gp, texts, due, many, mx, lf, x9', tv, tb, .ref atA, .lst ((nm ++ namesOrd ts fun t => (A t).drop (a t)).map .str)], H') ∧ Fr [atA] H H' := by
  intro ts
  induction ts with
  | nil =>
    intro pre hfull H a nm x9 m hsr hat h2 hc hok hl
    refine ⟨H, x9, ?_, .refl⟩
    simp only [namesOrd, List.append_nil]
    exact f_end (by rw [hsr H .refl, hfull]; simp)
  | cons t ts ih =>
    intro pre hfull H a nm x9 m hsr hat h2 hc hok hl
    have ht : t < 2 := h2 t (by simp)
    obtain ⟨hct, hca, hcl⟩ := hc t ht
    rw [List.count_cons_self] at hct
    have hlt : a t < (A t).length := by rw [List.length_drop] at hct; lia
    obtain ⟨i, hi⟩ : ∃ i, (A t)[a t]? = some i := ⟨_, List.getElem?_eq_getElem hlt⟩
    have hdrop : (A t).drop (a t) = i :: (A t).drop (a t + 1) := by
      have := List.drop_eq_getElem_cons hlt
      rw [this]
      have := (List.getElem?_eq_some_iff.mp hi).2
      rw [this]
    have hio := hok t ht i (List.mem_of_getElem? hi)
    have h3 := names_len i.1
    have h4 : 2 ^ i.1.deep ≤ 2 ^ 2 := Nat.pow_le_pow_right (by decide) hio.deep
    have hs : (fun s => (A s).drop (up a t (a t + 1) s)) = up (fun s => (A s).drop (a s)) t ((A t).drop (a t + 1)) := by
      funext s
      by_cases q : s = t
      · rw [q, up_self, up_self]
      · rw [up_ne _ _ q, up_ne _ _ q]
    have hset : [AV.int (a 0 : Nat), AV.int (a 1 : Nat)].set ((t : Nat) : Int).toNat (.int ((a t + 1 : Nat) : Int)) = [.int ((up a t (a t + 1) 0 : Nat) : Int), .int ((up a t (a t + 1) 1 : Nat) : Int)] := two ht rfl rfl
    obtain ⟨H', x9', e, F⟩ := ih (pre ++ [t]) (by rw [hfull]; simp) (H := H.set atA (.list [.int ((up a t (a t + 1) 0 : Nat) : Int), .int ((up a t (a t + 1) 1 : Nat) : Int)])) (a := up a t (a t + 1)) (nm := nm ++ i.1.names) (.int (t : Nat)) m
      (fun H' F' j => hsr H' ((Fr.set (by simp)).trans' F') j) (by rw [g_set, hat]; rfl) (fun s hs => h2 s (List.mem_cons_of_mem _ hs)) (by
        refine each (t := t) ?_ fun s hs q => ?_
        · rw [List.length_drop] at hct
          rw [up_self, List.length_drop]
          exact ⟨by lia, hlt, hcl⟩
        · obtain ⟨q1, q23⟩ := hc s hs
          rw [up_ne _ _ q]
          rw [List.count_cons_of_ne (fun w => q w.symm)] at q1
          exact ⟨q1, q23⟩) hok (by simp at hl ⊢; lia)
    refine ⟨H', x9', ?_, (Fr.set (by simp)).trans' F⟩
    rw [show m + (t :: ts).length + 1 = (m + ts.length + 1) + 1 by simp; lia]
    rw [show (pre ++ [t]).length = pre.length + 1 by simp] at e
    have hno : namesOrd (t :: ts) (fun t => (A t).drop (a t)) = i.1.names ++ namesOrd ts (up (fun s => (A s).drop (a s)) t ((A t).drop (a t + 1))) := by
      simp only [namesOrd, hdrop]
    rw [hno, ← List.append_assoc, ← hs]
    refine f_turn (v := .int (t : Nat)) (by rw [hsr H .refl, hfull]; simp) rfl ?_ e
    have hx2 : [AV.lst ((A 0).map fun i => datV i.1), AV.lst ((A 1).map fun i => datV i.1)][t]? = some (.lst ((A t).map fun i => datV i.1)) := two ht rfl rfl
    have hx12 : [AV.int (a 0 : Nat), AV.int (a 1 : Nat)][t]? = some (.int (a t : Nat)) := two ht rfl rfl
    have hxi : ((A t).map fun i => datV i.1)[a t]? = some (datV i.1) := by simp [hi]
    have hnl : (nm.map AV.str).length + (i.1.names.map AV.str).length ≤ 10000 := by simp at hl ⊢; lia
    have hmap : nm.map AV.str ++ i.1.names.map AV.str = (nm ++ i.1.names).map AV.str := by simp
    have hadl : binV .add (.lst (nm.map AV.str)) (.lst (i.1.names.map AV.str)) = some (.lst ((nm ++ i.1.names).map AV.str)) := by rw [p_addL hnl, hmap]
    have hadd : ((a t : Nat) : Int) + 1 = ((a t + 1 : Nat) : Int) := by lia
    have hat0 : a t < 10000 := by lia
    clear ih e F hno hs hsr hc hok hfull hdrop h2 hio
    exact eqs (x_asg (r_bin (r_loc rfl rfl) (r_sub (r_sub (r_sub (r_loc rfl rfl) (r_loc rfl rfl) (u_l hx2 ⟨(by lia), (by lia)⟩)) (r_sub (r_loc rfl rfl) (r_loc rfl rfl) (u_r hat hx12 ⟨(by lia), (by lia)⟩)) (u_l hxi ⟨(by lia), (by lia)⟩)) q_lit (u_t rfl ⟨(by decide), (by decide)⟩)) hadl) rfl (s_asgS (r_bin (r_sub (r_loc rfl rfl) (r_loc rfl rfl) (u_r hat hx12 ⟨(by lia), (by lia)⟩)) q_lit (p_ad hadd)) (r_loc rfl rfl) (r_loc rfl rfl) (si_r hat ⟨(by lia), ⟨(by simp; lia), (of_decide_eq_true rfl)⟩⟩ hset rfl) q_snil)) rfl rfl rfl
end
section
theorem strs_eq {H : AH} {a : Nat} {xs : List (List Nat)} (h : H[a]? = some (.list (xs.map .str))) (hl : xs.length < 90) (h5 : ∀ x ∈ xs, x ∈ names5) : cmpV H .ne (.lst (xs.map .str)) (.ref a) = some false := by
  have e2 : toPyL 99 H (xs.map .str) = some (xs.map pyS) := pyL_strs (by lia)
  have e1 : toPy 100 H (.lst (xs.map .str)) = some (.list (xs.map pyS)) := bs e2 rfl
  have e3 : toPy 100 H (.ref a) = some (.list (xs.map pyS)) := bs (bs h rfl) (bs e2 rfl)
  have hs := shaped_strs h5
  have hv := SeqAt.eqv_refl (.list (xs.map pyS)) (by simp only [PyData.canLay0]; exact lay_strs h5)
  have e0 : listIt? H (.ref a) = some (xs.map .str) := bs h rfl
  have e4 : lensDiffer H (.lst (xs.map .str)) (.ref a) = none := (bs e0 (if_neg (by rw [bne_self_eq_false]; exact Bool.false_ne_true)) : (listIt? H (.ref a)).bind (fun m => if (xs.map AV.str).length != m.length then some false else none) = none)
  exact congrArg (Option.map (!·)) ((z_eqD e4 e1 e3 hs hs).trans (congrArg some hv))

theorem comp_names {tb rows dict : Nat} {H : AH} {L : List (List Nat × Nat)} (T : TB tb rows dict H L) {ls : List AV} (hls : ls[11]? = some (.ref tb)) (hl : L.length < 90) :
    loopC (.items ((List.range L.length).map fun (i : Nat) => .int (0 + 1 * (i : Int)))) (turnC (cP 99) 99 ["place", "table"] [(1, 11)] (.one 0) c0_9t c0_9e ls) 99 0 [] H = some ((nms L).map .str, H) := by
  have hcap : capture 2 [(1, 11)] ls = [.unb, .ref tb] := by
    simp only [capture, List.replicate, List.foldl_cons, List.foldl_nil, List.getD_eq_getElem?_getD, hls]; rfl
  have := @loopC_pure (turnC (cP 99) 99 ["place", "table"] [(1, 11)] (.one 0) c0_9t c0_9e ls) H ((List.range L.length).map fun (i : Nat) => .int (0 + 1 * (i : Int))) ((nms L).map .str) [] [] (98 - L.length) (by simp) ?_
  · simp only [List.nil_append, List.length_nil, List.length_map, List.length_range] at this
    rw [show 98 - L.length + L.length + 1 = 99 by lia] at this
    exact this
  · intro p hp
    obtain ⟨i, hi⟩ := List.getElem?_of_mem hp
    rw [List.getElem?_zip_eq_some] at hi
    obtain ⟨h1, h2⟩ := hi
    simp only [nms, List.map_map, List.getElem?_map, Option.map_eq_some_iff] at h1 h2
    obtain ⟨j, hj, h1⟩ := h1
    obtain ⟨q, hq, h2⟩ := h2
    have hj' : j = i := by
      have := List.getElem?_eq_some_iff.mp hj
      obtain ⟨_, h⟩ := this
      simpa using h.symm
    subst hj'
    obtain ⟨x, s⟩ := q
    have hb := c_bynum (n := 98) T hq
    have hs := T.syms j x s hq
    have ht := T.tb
    rw [← h1, ← h2]
    refine turn_kt (lc := [.int (0 + 1 * (j : Int)), .ref tb]) (show bindT (.one 0) _ (capture 2 [(1, 11)] ls) = _ by rw [hcap]; rfl) ?_
    have h01 : (0 + 1 * (j : Int)) = (j : Int) := by lia
    rw [h01]
    clear T h1 h2 hj hq hp
    simp only [Function.comp]
    exact eqv (r_attr (r_mown (r_loc rfl rfl) (q_r ht) (r_cons (r_loc rfl rfl) q_nil) hb) (a_r hs rfl)) rfl rfl

theorem c_body {A : Nat → List Item} {ts : List Nat} {sc dk gp many mx lf tv x9 x11 x12 x13 : AV} {sr : Src} {H : AH} (hok : ∀ t, t < 2 → ∀ i ∈ A t, ItemOk i) (hA : ∀ t, t < 2 → (A t).length ≤ 4) (htx : ∀ t, t < 2 → (txtI (A t)).length ≤ 10000)
    (hU : isU tv = false) (hs : srcOf tv = some sr) (hsr : ∀ H', Fr [] H H' → ∀ j, nextOf H' j sr = some ((ts[j]?).map fun (t : Nat) => .int (t : Nat))) (h2 : ∀ t ∈ ts, t < 2) (hc : ∀ t, t < 2 → ts.count t = (A t).length) (htl : ts.length ≤ 9) :
    ∃ H' y9 y11 y12 y13, evS (cP 99) 99 f0_1b [sc, dk, .lst [.lst ((A 0).map fun i => datV i.1), .lst ((A 1).map fun i => datV i.1)], gp, .lst [.str (txtI (A 0)), .str (txtI (A 1))], .lst [.lst ((A 0).map fun i => i.1.fp.form), .lst ((A 1).map fun i => i.1.fp.form)], many, mx, lf, x9, tv, x11, x12, x13] H
      = some (.nxt, [sc, dk, .lst [.lst ((A 0).map fun i => datV i.1), .lst ((A 1).map fun i => datV i.1)], gp, .lst [.str (txtI (A 0)), .str (txtI (A 1))], .lst [.lst ((A 0).map fun i => i.1.fp.form), .lst ((A 1).map fun i => i.1.fp.form)], many, mx, lf, y9, tv, y11, y12, y13], H') ∧ Fr [] H H' := by
  have et := @c_Table 98 H
  generalize hH1 : H ++ [.list [], .dict [], .inst 1 [.ref H.length, .ref (H.length + 1)]] = H1 at et
  have l1 : H1.length = H.length + 3 := by rw [← hH1]; simp
  have T1 : TB (H.length + 2) H.length (H.length + 1) H1 [] := by
    rw [← hH1]
    refine ⟨?_, ?_, ?_, by simp, by simp⟩
    · rw [List.getElem?_append_right (by lia)]; simp
    · rw [List.getElem?_append_right (by lia)]; simp
    · rw [List.getElem?_append_right (by lia)]; simp
  have F1 : Fr [] H (H1 ++ [.list [.int 0, .int 0]]) := by rw [← hH1]; exact Fr.app.trans' .app
  have T2 : TB (H.length + 2) H.length (H.length + 1) (H1 ++ [.list [.int 0, .int 0]]) [] := T1.app
  obtain ⟨H3, f0, f1, L, e3, rep, T3, hN, F3⟩ := c_lr (tx := fun t => txtI (A t)) (ps := A) T2 (fun t ht => ⟨rfl, htx t ht⟩) hok (by have := hA 0 (by decide); have := hA 1 (by decide); lia) hU hs
    (fun H' j F => hsr H' (F1.trans F (by simp) (by
      simp only [List.mem_cons, List.not_mem_nil, or_false]
      rintro a (rfl | rfl)
      · right; lia
      · right; lia)) j) h2 hc (by lia)
  have F13 : Fr [] H H3 := F1.trans F3 (by simp) (by
    simp only [List.mem_cons, List.not_mem_nil, or_false]
    rintro a (rfl | rfl)
    · right; lia
    · right; lia)
  have hat : (H1 ++ [AO.list [.int 0, .int 0]])[H.length + 3]? = some (.list [.int 0, .int 0]) := by rw [← l1]; simp
  have hat3 := F3.get hat (by simp)
  have hdep : ∀ t, t < 2 → ∀ D ∈ (A t).map (·.1), D.ok ∧ D.deep ≤ 2 := by
    intro t ht D hD
    obtain ⟨i, hi, rfl⟩ := List.mem_map.mp hD
    exact ⟨(hok t ht i hi).ok, (hok t ht i hi).deep⟩
  have hdue : cmpV H3 .ne (.lst [.ref f0, .ref f1]) (.lst [.lst ((A 0).map fun i => i.1.fp.form), .lst ((A 1).map fun i => i.1.fp.form)]) = some false := by
    have := @eq_due H3 ((A 0).map (·.1)) ((A 1).map (·.1)) f0 f1 _ (hdep 0 (by decide)) (hdep 1 (by decide)) (by have := hA 0 (by decide); simp; lia) (by have := hA 1 (by decide); simp; lia) (by simpa only [List.map_map, Function.comp_def] using rep)
    simpa only [List.map_map, Function.comp_def] using this
  obtain ⟨H4, y9, e4, F4⟩ := l_names (n := 99) (atA := H.length + 3) (sr := sr) (A := A) (sc := sc) (dk := dk) (gp := gp) (texts := .lst [.str (txtI (A 0)), .str (txtI (A 1))]) (due := .lst [.lst ((A 0).map fun i => i.1.fp.form), .lst ((A 1).map fun i => i.1.fp.form)]) (many := many) (mx := mx) (lf := lf) (tv := tv) (tb := .ref (H.length + 2))
    ts [] rfl (H := H3) (a := fun _ => 0) (nm := []) x9 (98 - ts.length) (fun H' F j => hsr H' (F13.trans F (by simp) (by simp)) j) hat3 h2 (fun t ht => ⟨by simpa using hc t ht, Nat.zero_le _, by have := hA t ht; lia⟩) hok (by simp; lia)
  rw [show 98 - ts.length + ts.length + 1 = 99 by lia] at e4
  simp only [List.length_nil, List.nil_append, List.drop_zero, List.map_nil] at e4
  have hno := ord_ok (ts := ts) (ps := A) fun t ht => hok t (h2 t ht)
  have ef := c_first (names := namesOrd ts A) (H := H4) (by lia) hno.1
  have T4 : TB (H.length + 2) H.length (H.length + 1) H4 L := T3.keep F4 (by simp) (by simp) (by simp) (by
    simp only [List.mem_cons, List.not_mem_nil, or_false]
    rintro s rfl i x q
    rw [hat3] at q; cases q)
  have T5 : TB (H.length + 2) H.length (H.length + 1) (H4 ++ [.list ((grow [] (namesOrd ts A)).map .str)]) L := T4.app
  have hgl : (grow [] (namesOrd ts A)).length < 90 := by
    have := @grow_len [] (namesOrd ts A)
    have := hno.2
    simp at *
    lia
  have hLl : L.length = (grow [] (namesOrd ts A)).length := by rw [← hN]; simp
  have g5 : ∀ x ∈ grow [] (namesOrd ts A), x ∈ names5 := grow_sub (by simp) hno.1
  have es := c_size (n := 98) T5
  have hnf : (H4 ++ [AO.list ((grow [] (namesOrd ts A)).map .str)])[H4.length]? = some (.list ((grow [] (namesOrd ts A)).map .str)) := by simp
  have hq := strs_eq hnf hgl g5
  refine ⟨H4 ++ [.list ((grow [] (namesOrd ts A)).map .str)], y9, .ref (H.length + 2), .ref (H.length + 3), .ref H4.length, ?_, (F13.trans F4 (by simp) (by simp)).trans' .app⟩
  have ec := comp_names T5 (ls := [sc, dk, .lst [.lst ((A 0).map fun i => datV i.1), .lst ((A 1).map fun i => datV i.1)], gp, .lst [.str (txtI (A 0)), .str (txtI (A 1))], .lst [.lst ((A 0).map fun i => i.1.fp.form), .lst ((A 1).map fun i => i.1.fp.form)], many, mx, lf, y9, tv, .ref (H.length + 2), .ref (H.length + 3), .ref H4.length]) rfl (by lia)
  rw [hLl, hN] at ec
  rw [hLl] at es
  have htb := T5.tb
  have hlm : ((grow [] (namesOrd ts A)).map AV.str).length = (grow [] (namesOrd ts A)).length := by simp
  have hlm2 : ((grow [] (namesOrd ts A)).map AV.str).length ≤ 10000 := by lia
  have hrg : biV (H4 ++ [AO.list ((grow [] (namesOrd ts A)).map .str)]) .range [.int (((grow [] (namesOrd ts A)).map AV.str).length : Nat)] = some (.rng 0 1 (grow [] (namesOrd ts A)).length, H4 ++ [AO.list ((grow [] (namesOrd ts A)).map .str)]) := by
    rw [hlm]
    have : (0 : Int) ≤ ((grow [] (namesOrd ts A)).length : Nat) ∧ (((grow [] (namesOrd ts A)).length : Nat) : Int) ≤ 1000 := by lia
    exact congrArg (Option.map _) (if_pos (decide_eq_true this))
  have hsrc : srcOf (.rng 0 1 (grow [] (namesOrd ts A)).length) = some (.items ((List.range (grow [] (namesOrd ts A)).length).map fun (i : Nat) => .int (0 + 1 * (i : Int)))) := rfl
  have hdd : decide (((grow [] (namesOrd ts A)).length : Int) = ((grow [] (namesOrd ts A)).length : Int)) = true := by simp
  have e3' : cP 99 5 [.ref (H.length + 2), .lst [.str (txtI (A 0)), .str (txtI (A 1))], tv] (H1 ++ [.list [.int 0, .int 0]]) = some (.lst [.ref f0, .ref f1], H3) := e3
  rw [← l1] at e4 ec ⊢
  clear T1 T2 T3 T4 T5 F1 F3 F13 F4 hsr hok hA htx h2 hc rep hno hgl hLl g5 hat hat3 hdep hN e3 hH1 l1
  exact eqs (x_asg (r_tup (r_cons (r_call q_nil et) (r_cons (r_lstT (r_cons q_lit (r_cons q_lit q_nil))) (r_cons (r_lstF q_nil) q_nil)))) rfl (s_ite (t_cmp (r_call (r_cons (r_loc rfl rfl) (r_cons (r_loc rfl rfl) (r_cons (r_loc rfl hU) q_nil))) e3') (r_loc rfl rfl) hdue) (i_f rfl (k_nil (s_for (r_loc rfl hU) hs e4 (kr_n (x_asg (r_call (r_cons (r_loc rfl rfl) q_nil) ef) rfl (s_ite (t_or (t_cmp (r_mown (r_loc rfl rfl) (q_r htb) q_nil es) (r_bi (r_cons (r_loc rfl rfl) q_nil) (ln_r hnf hlm2)) rfl) (i_f (not_t (decide_eq_true (by lia))) (t_or (t_cmp (r_compF (r_bi (r_cons (r_bi (r_cons (r_loc rfl rfl) q_nil) (ln_r hnf hlm2)) q_nil) hrg) (i_f rfl hsrc) ec) (r_loc rfl rfl) hq) (i_f rfl q_kf)))) (i_f rfl (k_nil q_snil)))))))))) rfl rfl rfl
end
section
noncomputable abbrev gapsL : List (List Nat) := [[32], [10], [32, 59, 32, 40, 120, 10], [9, 32]]
theorem gap_ok {g : List Nat} (h : g ∈ gapsL) : (∃ k, Gap g k ∧ k ≤ 50) ∧ (∃ c r, g = c :: r ∧ delims.contains c = true) ∧ g.length ≤ 6 := by
  simp only [List.mem_cons, List.not_mem_nil, or_false] at h
  rcases h with rfl | rfl | rfl | rfl
  · exact ⟨⟨1, .blank (by decide) .nil, by lia⟩, ⟨_, _, rfl, by decide⟩, by decide⟩
  · exact ⟨⟨1, .blank (by decide) .nil, by lia⟩, ⟨_, _, rfl, by decide⟩, by decide⟩
  · exact ⟨⟨3, .blank (by decide) (.rem (.blank (by decide) .nil)), by lia⟩, ⟨_, _, rfl, by decide⟩, by decide⟩
  · exact ⟨⟨2, .blank (by decide) (.blank (by decide) .nil), by lia⟩, ⟨_, _, rfl, by decide⟩, by decide⟩
theorem item_ok {d : Dat} {g : List Nat} (h : d.ok) (hd : d.deep ≤ 2) (hg : g ∈ gapsL) : ItemOk (d, g) := by
  have ht := toks_le d
  have hp : 2 ^ d.deep ≤ 2 ^ 2 := Nat.pow_le_pow_right (by decide) hd
  exact ⟨h, hd, by simp only; lia, text_ne d h, (gap_ok hg).1, (gap_ok hg).2.1⟩

noncomputable abbrev cellsOf (ns : List Int) : List Int := ns.map fun i => if i < 0 then -i else i
theorem ev_deck {ns : List Int} (hn : ns.length ≤ 63) {r : List AV} {s : IS} {ls : List AV} (hls : ls[0]? = some (.lst (ns.map .int))) :
    evE (cP 99) 99 (.list true (.cons (.comp false ["cell"] [] false (.one 0) c0_1s c0_1t c0_1e) (.cons (.lit (.int 0)) .nil))) ls [] = some (.ref 0, [deckO (cellsOf ns) 0]) := by
  have hsl : sliceV (.lst (ns.map .int)) .unb (.int 63) = some (.lst (ns.map .int)) := by
    have h1 : (ns.map AV.int).length ≤ 10000 := by simp; lia
    have h2 : ((ns.map AV.int).take 63).drop 0 = ns.map AV.int := by rw [List.drop_zero, List.take_of_length_le (by simpa using hn)]
    exact (if_pos (decide_eq_true h1) : cutV 0 (some 63) (.lst (ns.map .int)) = some (.lst (((ns.map AV.int).take 63).drop 0))).trans (congrArg (fun x => some (AV.lst x)) h2)
  have hC := @loopC_pure (turnC (cP 99) 99 ["cell"] [] (.one 0) c0_1t c0_1e ls) [] (ns.map .int) ((cellsOf ns).map fun c => .int c) [] [] (98 - ns.length) (by simp) (by
    intro p hp
    obtain ⟨i, hi⟩ := List.getElem?_of_mem hp
    rw [List.getElem?_zip_eq_some] at hi
    obtain ⟨h1, h2⟩ := hi
    simp only [List.map_map, List.getElem?_map, Option.map_eq_some_iff] at h1 h2
    obtain ⟨j, hj, h1⟩ := h1
    obtain ⟨q, hq, h2⟩ := h2
    rw [hj] at hq
    obtain rfl := Option.some.inj hq
    rw [← h1, ← h2]
    refine turn_kt (lc := [.int j]) rfl ?_
    clear h1 h2 hj hp hq
    simp only [Function.comp]
    exact eqv (r_bi (r_cons (r_loc rfl rfl) q_nil) b_abs) rfl rfl)
  simp only [List.nil_append, List.length_nil, List.length_map] at hC
  rw [show 98 - ns.length + ns.length + 1 = 99 by lia] at hC
  have hs : srcOf (.lst (ns.map .int)) = some (.items (ns.map .int)) := rfl
  exact eqv (r_lstT (r_cons (r_compF (r_slice (r_loc hls rfl) q_lit q_lit hsl) (i_f rfl hs) hC) (r_cons q_lit q_nil))) rfl rfl

theorem l_data {cells : List Int} (hc : cells.length < 100) {ls : List AV} (hls : capture 2 [(1, 1)] ls = [.unb, .ref 0]) : ∀ {suf pre acc : List AV} {k : Nat} (m : Nat), k + 14 * suf.length < 1000 →
    ∃ (Ds : List Dat) (k' : Nat), loopC (.items (pre ++ suf)) (turnC (cP 99) 99 ["lap", "deck"] [(1, 1)] (.one 0) c0_3t c0_3e ls) (m + suf.length + 1) pre.length acc [deckO cells k] = some (acc ++ Ds.map datV, [deckO cells k']) ∧ Ds.length = suf.length ∧ (∀ D ∈ Ds, D.ok ∧ D.deep ≤ 2) ∧ k' ≤ k + 14 * suf.length
  | [], pre, acc, k, m, _ => ⟨[], k, by rw [lc_end (by simp [nextOf])]; simp, rfl, by simp, by simp⟩
  | v :: suf, pre, acc, k, m, hk => by
    simp only [List.length_cons] at hk
    obtain ⟨D, k1, e1, h1, h2, h3, h4⟩ := datum2 (n := 95) (a := 0) (k := k) (cells := cells) (H := [deckO cells k]) rfl (by lia) hc
    have e1' : cP 99 2 [.ref 0, .int 2] [deckO cells k] = some (datV D, [deckO cells k1]) := e1
    obtain ⟨Ds, k', e2, h5, h6, h7⟩ := l_data hc hls (suf := suf) (pre := pre ++ [v]) (acc := acc ++ [datV D]) (k := k1) m (by lia)
    refine ⟨D :: Ds, k', ?_, by simp [h5], ?_, by simp only [List.length_cons]; lia⟩
    · rw [show m + (v :: suf).length + 1 = (m + suf.length + 1) + 1 by simp; lia]
      have hn : nextOf [deckO cells k] pre.length (.items (pre ++ v :: suf)) = some (some v) := by simp [nextOf]
      have ht : turnC (cP 99) 99 ["lap", "deck"] [(1, 1)] (.one 0) c0_3t c0_3e ls v [deckO cells k] = some (some (datV D), [deckO cells k1]) :=
        turn_kt (lc := [v, .ref 0]) (show bindT (.one 0) v (capture 2 [(1, 1)] ls) = _ by rw [hls]; rfl) (by
          clear e2 e1
          exact eqv (r_call (r_cons (r_loc rfl rfl) (r_cons q_lit q_nil)) e1') rfl rfl)
      rw [lc_turn hn ht]
      simp only [List.append_assoc, List.singleton_append, List.length_append, List.length_singleton] at e2
      rw [e2]; simp
    · intro E hE
      rcases List.mem_cons.mp hE with rfl | hE
      · exact ⟨h1, h2⟩
      · exact h6 E hE

theorem ev_some {cells : List Int} (hc : cells.length < 100) {k : Nat} (hk : k < 900) {i : AV} : ∃ (Ds : List Dat) (k' : Nat), evE (cP 99) 99 c0_2e [i, .ref 0] [deckO cells k] = some (.lst (Ds.map datV), [deckO cells k']) ∧ 1 ≤ Ds.length ∧ Ds.length ≤ 3 ∧ (∀ D ∈ Ds, D.ok ∧ D.deep ≤ 2) ∧ k' ≤ k + 43 := by
  obtain ⟨r, hr, hr3⟩ := drawN cells k 3 (by decide)
  have e : cP 99 1 [.ref 0, .int 3] [deckO cells k] = some (.int (r : Nat), [deckO cells (k + 1)]) := hr ▸ c_draw (n := 98) (a := 0) (H := [deckO cells k]) rfl (by lia) hc (m := 3) (by decide)
  obtain ⟨Ds, k', e2, h1, h2, h3⟩ := l_data hc (ls := [i, .ref 0]) rfl (suf := (List.range (r + 1)).map fun (i : Nat) => .int (0 + 1 * (i : Int))) (pre := []) (acc := []) (k := k + 1) (98 - (r + 1)) (by simp; lia)
  simp only [List.length_map, List.length_range, List.nil_append, List.length_nil] at e2 h1 h3
  rw [show 98 - (r + 1) + (r + 1) + 1 = 99 by lia] at e2
  have hrg : biV [deckO cells (k + 1)] .range [.int (1 + (r : Int))] = some (.rng 0 1 (r + 1), [deckO cells (k + 1)]) := by
    have : (0 : Int) ≤ 1 + (r : Int) ∧ 1 + (r : Int) ≤ 1000 := by lia
    have h2 : (1 + (r : Int)).toNat = r + 1 := by lia
    refine congrArg (Option.map _) ((if_pos (decide_eq_true this)).trans ?_ : rangeV [.int (1 + (r : Int))] = some (.rng 0 1 (r + 1)))
    rw [h2]
  have hs : srcOf (.rng 0 1 (r + 1)) = some (.items ((List.range (r + 1)).map fun (i : Nat) => .int (0 + 1 * (i : Int)))) := rfl
  refine ⟨Ds, k', ?_, by lia, by lia, h2, by lia⟩
  clear h2
  exact eqv (r_compF (r_bi (r_cons (r_bin q_lit (r_call (r_cons (r_loc rfl rfl) (r_cons q_lit q_nil)) e) (p_ad rfl)) q_nil) hrg) (i_f rfl hs) e2) rfl rfl

theorem ev_data {cells : List Int} (hc : cells.length < 100) {ls : List AV} (hls : capture 2 [(1, 1)] ls = [.unb, .ref 0]) : ∃ (A B : List Dat) (k' : Nat), evE (cP 99) 99 (.comp false ["text", "deck"] [(1, 1)] false (.one 0) c0_2s c0_2t c0_2e) ls [deckO cells 0] = some (.lst [.lst (A.map datV), .lst (B.map datV)], [deckO cells k']) ∧ (1 ≤ A.length ∧ A.length ≤ 3) ∧ (1 ≤ B.length ∧ B.length ≤ 3) ∧ (∀ D ∈ A, D.ok ∧ D.deep ≤ 2) ∧ (∀ D ∈ B, D.ok ∧ D.deep ≤ 2) ∧ k' ≤ 86 := by
  obtain ⟨A, k1, e1, a1, a2, a3, a4⟩ := ev_some hc (k := 0) (by lia) (i := .int 0)
  obtain ⟨B, k2, e2, b1, b2, b3, b4⟩ := ev_some hc (k := k1) (by lia) (i := .int 1)
  refine ⟨A, B, k2, ?_, ⟨a1, a2⟩, ⟨b1, b2⟩, a3, b3, by lia⟩
  have hrg : biV [deckO cells 0] .range [.int 2] = some (.rng 0 1 2, [deckO cells 0]) := rfl
  have hs : srcOf (.rng 0 1 2) = some (.items [.int 0, .int 1]) := rfl
  have hC : loopC (.items [.int 0, .int 1]) (turnC (cP 99) 99 ["text", "deck"] [(1, 1)] (.one 0) c0_2t c0_2e ls) 99 0 [] [deckO cells 0] = some ([.lst (A.map datV), .lst (B.map datV)], [deckO cells k2]) :=
    loopC_2 (n := 96) (turn_kt (lc := [.int 0, .ref 0]) (show bindT (.one 0) _ (capture 2 [(1, 1)] ls) = _ by rw [hls]; rfl) e1) (turn_kt (lc := [.int 1, .ref 0]) (show bindT (.one 0) _ (capture 2 [(1, 1)] ls) = _ by rw [hls]; rfl) e2)
  clear e1 e2 a3 b3
  exact eqv (r_compF (r_bi (r_cons q_lit q_nil) hrg) (i_f rfl hs) hC) rfl rfl
end
section
noncomputable abbrev gapsV : AV := .lst [.str [32], .str [10], .str [32, 59, 32, 40, 120, 10], .str [9, 32]]
theorem l_text {cells : List Int} (hc : cells.length < 100) {ls : List AV} (hls : capture 3 [(1, 1), (2, 2)] ls = [.unb, gapsV, .ref 0]) : ∀ {Ds : List Dat} {pre acc : List AV} {k : Nat} (m : Nat), k + Ds.length < 1000 → (∀ D ∈ Ds, D.ok ∧ D.deep ≤ 2) →
    ∃ its : List Item, loopC (.items (pre ++ Ds.map datV)) (turnC (cP 99) 99 ["own", "gaps", "deck"] [(1, 1), (2, 2)] (.one 0) c0_5t c0_5e ls) (m + Ds.length + 1) pre.length acc [deckO cells k] = some (acc ++ its.map (fun i => .str (i.1.text ++ i.2)), [deckO cells (k + Ds.length)]) ∧ its.map (·.1) = Ds ∧ ∀ i ∈ its, i.2 ∈ gapsL
  | [], pre, acc, k, m, _, _ => ⟨[], by rw [lc_end (by simp [nextOf])]; simp, rfl, by simp⟩
  | D :: Ds, pre, acc, k, m, hk, hD => by
    simp only [List.length_cons] at hk
    obtain ⟨j, hj, hj4⟩ := drawN cells k 4 (by decide)
    have e : cP 99 1 [.ref 0, .int 4] [deckO cells k] = some (.int (j : Nat), [deckO cells (k + 1)]) := hj ▸ c_draw (n := 98) (a := 0) (H := [deckO cells k]) rfl (by lia) hc (m := 4) (by decide)
    obtain ⟨g, hg, hg4⟩ : ∃ g, [AV.str [32], AV.str [10], AV.str [32, 59, 32, 40, 120, 10], AV.str [9, 32]][j]? = some (.str g) ∧ g ∈ gapsL := by
      obtain rfl | rfl | rfl | rfl : j = 0 ∨ j = 1 ∨ j = 2 ∨ j = 3 := by lia
      all_goals exact ⟨_, rfl, by simp⟩
    have hd := hD D (by simp)
    have htl := text_len D hd.1
    have hp : 2 ^ D.deep ≤ 2 ^ 2 := Nat.pow_le_pow_right (by decide) hd.2
    have hgl := (gap_ok hg4).2.2
    have hadd : D.text.length + g.length ≤ 10000 := by lia
    obtain ⟨its, e2, h1, h2⟩ := l_text hc hls (Ds := Ds) (pre := pre ++ [datV D]) (acc := acc ++ [.str (D.text ++ g)]) (k := k + 1) m (by lia) fun E hE => hD E (List.mem_cons_of_mem _ hE)
    refine ⟨(D, g) :: its, ?_, by simp [h1], ?_⟩
    · rw [show m + (D :: Ds).length + 1 = (m + Ds.length + 1) + 1 by simp; lia]
      have hn : nextOf [deckO cells k] pre.length (.items (pre ++ (D :: Ds).map datV)) = some (some (datV D)) := by simp [nextOf]
      have ht : turnC (cP 99) 99 ["own", "gaps", "deck"] [(1, 1), (2, 2)] (.one 0) c0_5t c0_5e ls (datV D) [deckO cells k] = some (some (.str (D.text ++ g)), [deckO cells (k + 1)]) :=
        turn_kt (lc := [datV D, gapsV, .ref 0]) (show bindT (.one 0) (datV D) (capture 3 [(1, 1), (2, 2)] ls) = _ by rw [hls]; rfl) (by
          clear e2 hd hD h1 h2 hj hg4
          exact eqv (r_bin (r_sub (r_loc rfl rfl) q_lit (u_t rfl ⟨(by decide), (by decide)⟩)) (r_sub (r_loc rfl rfl) (r_call (r_cons (r_loc rfl rfl) (r_cons q_lit q_nil)) e) (u_l hg ⟨(by lia), (by lia)⟩)) (p_addS hadd)) rfl rfl)
      rw [lc_turn hn ht]
      rw [show (pre ++ [datV D]).length = pre.length + 1 by simp, show pre ++ [datV D] ++ Ds.map datV = pre ++ (D :: Ds).map datV by simp] at e2
      rw [e2]
      simp only [List.map_cons, List.append_assoc, List.singleton_append, List.length_cons, show k + 1 + Ds.length = k + (Ds.length + 1) by lia]
    · intro i hi
      rcases List.mem_cons.mp hi with rfl | hi
      · exact hg4
      · exact h2 i hi

theorem strs_its : ∀ its : List Item, strs? (its.map fun i => AV.str (i.1.text ++ i.2)) = some (its.map fun i => i.1.text ++ i.2)
  | [] => rfl
  | i :: its => (bs (strs_its its) rfl : (strs? (its.map fun i => AV.str (i.1.text ++ i.2))).bind (fun l => some ((i.1.text ++ i.2) :: l)) = _)
theorem flat_items : ∀ its : List Item, (its.map fun i => i.1.text ++ i.2).flatten = txtI its
  | [] => rfl
  | i :: its => by simp only [List.map_cons, List.flatten_cons, flat_items its, txtI, List.append_assoc]
theorem txtI_len : ∀ {its : List Item}, (∀ i ∈ its, i.1.ok ∧ i.1.deep ≤ 2 ∧ i.2 ∈ gapsL) → (txtI its).length ≤ 50 * its.length
  | [], _ => by simp [txtI]
  | i :: its, h => by
    have h0 := h i (by simp)
    have h1 := txtI_len fun j hj => h j (List.mem_cons_of_mem _ hj)
    have htl := text_len i.1 h0.1
    have hp : 2 ^ i.1.deep ≤ 2 ^ 2 := Nat.pow_le_pow_right (by decide) h0.2.1
    have hgl := (gap_ok h0.2.2).2.2
    simp only [txtI, List.length_append, List.length_cons]
    lia

theorem ev_text {cells : List Int} (hc : cells.length < 100) {Ds : List Dat} {k : Nat} (hk : k < 500) (hl : Ds.length ≤ 3) (hD : ∀ D ∈ Ds, D.ok ∧ D.deep ≤ 2) : ∃ its : List Item, evE (cP 99) 99 c0_4e [.lst (Ds.map datV), gapsV, .ref 0] [deckO cells k] = some (.str (txtI its), [deckO cells (k + Ds.length)]) ∧ its.map (·.1) = Ds ∧ ∀ i ∈ its, i.2 ∈ gapsL := by
  obtain ⟨its, e, h1, h2⟩ := l_text hc (ls := [.lst (Ds.map datV), gapsV, .ref 0]) rfl (Ds := Ds) (pre := []) (acc := []) (k := k) (98 - Ds.length) (by lia) hD
  rw [show 98 - Ds.length + Ds.length + 1 = 99 by lia] at e
  simp only [List.nil_append, List.length_nil] at e
  have hil : its.length = Ds.length := by rw [← h1]; simp
  have hok : ∀ i ∈ its, i.1.ok ∧ i.1.deep ≤ 2 ∧ i.2 ∈ gapsL := by
    intro i hi
    have := hD i.1 (by rw [← h1]; exact List.mem_map_of_mem hi)
    exact ⟨this.1, this.2, h2 i hi⟩
  have htl := txtI_len hok
  have hj : methV [deckO cells (k + Ds.length)] .join (.str []) [.lst (its.map fun i => .str (i.1.text ++ i.2))] = some (.str (txtI its), [deckO cells (k + Ds.length)]) := by
    have a1 : (txtI its).length ≤ 100000 := by lia
    have a2 : its.length ≤ 10000 := by lia
    have b1 := flat_items its
    refine (show (strs? _).bind _ = _ from bs (strs_its its) ((if_pos (Bool.and_eq_true_iff.mpr ⟨decide_eq_true ?_, decide_eq_true ?_⟩)).trans ?_))
    · rw [b1]; exact a1
    · rw [List.length_map]; exact a2
    · rw [b1]
  have hs : srcOf (.lst (Ds.map datV)) = some (.items (Ds.map datV)) := rfl
  refine ⟨its, ?_, h1, h2⟩
  clear hD h1 h2 hok
  exact eqv (r_meth q_lit rfl (r_cons (r_compF (r_loc rfl rfl) (i_f rfl hs) e) q_nil) hj) rfl rfl

theorem ev_texts {cells : List Int} (hc : cells.length < 100) {A B : List Dat} {k : Nat} (hk : k < 400) (lA : A.length ≤ 3) (lB : B.length ≤ 3) (hA : ∀ D ∈ A, D.ok ∧ D.deep ≤ 2) (hB : ∀ D ∈ B, D.ok ∧ D.deep ≤ 2) {ls : List AV} (hls : capture 3 [(1, 3), (2, 1)] ls = [.unb, gapsV, .ref 0]) (h2 : ls[2]? = some (.lst [.lst (A.map datV), .lst (B.map datV)])) :
    ∃ IA IB : List Item, evE (cP 99) 99 (.comp false ["some", "gaps", "deck"] [(1, 3), (2, 1)] false (.one 0) c0_4s c0_4t c0_4e) ls [deckO cells k] = some (.lst [.str (txtI IA), .str (txtI IB)], [deckO cells (k + A.length + B.length)]) ∧ IA.map (·.1) = A ∧ IB.map (·.1) = B ∧ (∀ i ∈ IA, i.2 ∈ gapsL) ∧ ∀ i ∈ IB, i.2 ∈ gapsL := by
  obtain ⟨IA, e1, a1, a2⟩ := ev_text hc (k := k) (by lia) lA hA
  obtain ⟨IB, e2, b1, b2⟩ := ev_text hc (k := k + A.length) (by lia) lB hB
  refine ⟨IA, IB, ?_, a1, b1, a2, b2⟩
  have hC : loopC (.items [.lst (A.map datV), .lst (B.map datV)]) (turnC (cP 99) 99 ["some", "gaps", "deck"] [(1, 3), (2, 1)] (.one 0) c0_4t c0_4e ls) 99 0 [] [deckO cells k] = some ([.str (txtI IA), .str (txtI IB)], [deckO cells (k + A.length + B.length)]) :=
    loopC_2 (n := 96) (turn_kt (lc := [.lst (A.map datV), gapsV, .ref 0]) (show bindT (.one 0) _ (capture 3 [(1, 3), (2, 1)] ls) = _ by rw [hls]; rfl) e1) (turn_kt (lc := [.lst (B.map datV), gapsV, .ref 0]) (show bindT (.one 0) _ (capture 3 [(1, 3), (2, 1)] ls) = _ by rw [hls]; rfl) e2)
  have hs : srcOf (.lst [.lst (A.map datV), .lst (B.map datV)]) = some (.items [.lst (A.map datV), .lst (B.map datV)]) := rfl
  clear e1 e2 hA hB a1 a2 b1 b2
  exact eqv (r_compF (r_loc h2 rfl) (i_f rfl hs) hC) rfl rfl

theorem ev_forms {Ds : List Dat} {H : AH} (hl : Ds.length ≤ 3) : evE (cP 99) 99 c0_6e [.lst (Ds.map datV)] H = some (.lst (Ds.map fun D => D.fp.form), H) := by
  have hC := @loopC_pure (turnC (cP 99) 99 ["own"] [] (.one 0) c0_7t c0_7e [.lst (Ds.map datV)]) H (Ds.map datV) (Ds.map fun D => D.fp.form) [] [] (98 - Ds.length) (by simp) (by
    intro p hp
    obtain ⟨i, hi⟩ := List.getElem?_of_mem hp
    rw [List.getElem?_zip_eq_some] at hi
    obtain ⟨h1, h2⟩ := hi
    simp only [List.getElem?_map, Option.map_eq_some_iff] at h1 h2
    obtain ⟨j, hj, h1⟩ := h1
    obtain ⟨q, hq, h2⟩ := h2
    rw [hj] at hq
    obtain rfl := Option.some.inj hq
    rw [← h1, ← h2]
    refine turn_kt (lc := [datV j]) rfl ?_
    clear h1 h2 hj hp hq
    exact eqv (r_sub (r_loc rfl rfl) q_lit (u_t rfl ⟨(by decide), (by decide)⟩)) rfl rfl)
  simp only [List.nil_append, List.length_nil, List.length_map] at hC
  rw [show 98 - Ds.length + Ds.length + 1 = 99 by lia] at hC
  have hs : srcOf (.lst (Ds.map datV)) = some (.items (Ds.map datV)) := rfl
  exact eqv (r_compF (r_loc rfl rfl) (i_f rfl hs) hC) rfl rfl

theorem ev_due {A B : List Dat} {H : AH} (lA : A.length ≤ 3) (lB : B.length ≤ 3) {ls : List AV} (hls : ls[2]? = some (.lst [.lst (A.map datV), .lst (B.map datV)])) :
    evE (cP 99) 99 (.tup (.cons (.comp false ["some"] [] false (.one 0) c0_6s c0_6t c0_6e) (.cons (.comp false ["some"] [] false (.one 0) c0_8s c0_8t c0_8e) .nil))) ls H
      = some (.tup [.lst [.lst (A.map fun D => D.fp.form), .lst (B.map fun D => D.fp.form)], .lst [.int (A.length : Nat), .int (B.length : Nat)]], H) := by
  have hC : loopC (.items [.lst (A.map datV), .lst (B.map datV)]) (turnC (cP 99) 99 ["some"] [] (.one 0) c0_6t c0_6e ls) 99 0 [] H = some ([.lst (A.map fun D => D.fp.form), .lst (B.map fun D => D.fp.form)], H) :=
    loopC_2 (n := 96) (turn_kt (lc := [.lst (A.map datV)]) rfl (ev_forms lA)) (turn_kt (lc := [.lst (B.map datV)]) rfl (ev_forms lB))
  have hL : ∀ Ds : List Dat, Ds.length ≤ 3 → evE (cP 99) 99 c0_8e [.lst (Ds.map datV)] H = some (.int (Ds.length : Nat), H) := by
    intro Ds hl
    have h1 : (Ds.map datV).length = Ds.length := by simp
    have h2 : (Ds.map datV).length ≤ 10000 := by lia
    exact eqv (r_bi (r_cons (r_loc rfl rfl) q_nil) (b_lenL1 h2)) (by simp only [List.set_set, *]) rfl
  have hC2 : loopC (.items [.lst (A.map datV), .lst (B.map datV)]) (turnC (cP 99) 99 ["some"] [] (.one 0) c0_8t c0_8e ls) 99 0 [] H = some ([.int (A.length : Nat), .int (B.length : Nat)], H) :=
    loopC_2 (n := 96) (turn_kt (lc := [.lst (A.map datV)]) rfl (hL A lA)) (turn_kt (lc := [.lst (B.map datV)]) rfl (hL B lB))
  have hs : srcOf (.lst [.lst (A.map datV), .lst (B.map datV)]) = some (.items [.lst (A.map datV), .lst (B.map datV)]) := rfl
  clear hL
  exact eqv (r_tup (r_cons (r_compF (r_loc hls rfl) (i_f rfl hs) hC) (r_cons (r_compF (r_loc hls rfl) (i_f rfl hs) hC2) q_nil))) rfl rfl
end
section
noncomputable abbrev intsV (ts : List Nat) : List AV := ts.map fun (t : Nat) => .int (t : Nat)
noncomputable abbrev mixH (cells : List Int) (k : Nat) (ms : List Nat) (l0 l1 : Nat) : AH := [deckO cells k, .list (intsV ms), .list [.int (l0 : Nat), .int (l1 : Nat)]]
theorem shaped2 {i j : Int} : SeqAt.shaped (.list [.int i, .int j]) = true := by kernel_rfl
theorem shapedI {i : Int} : SeqAt.shaped (.int i) = true := by kernel_rfl
theorem ne_left {cells : List Int} {k l0 l1 : Nat} {ms : List Nat} : cmpV (mixH cells k ms l0 l1) .ne (.ref 2) (.lst [.int 0, .int 0]) = some (!(decide (l0 = 0) && decide (l1 = 0))) := by
  have e1 : toPy pyFuel (mixH cells k ms l0 l1) (.ref 2) = some (.list [.int (l0 : Nat), .int (l1 : Nat)]) := rfl
  have e2 : toPy pyFuel (mixH cells k ms l0 l1) (.lst [.int 0, .int 0]) = some (.list [.int 0, .int 0]) := rfl
  have e3 : lensDiffer (mixH cells k ms l0 l1) (.ref 2) (.lst [.int 0, .int 0]) = none := rfl
  have e4 : (PyData.list [.int (l0 : Nat), .int (l1 : Nat)]).eqv (.list [.int 0, .int 0]) = (decide (l0 = 0) && decide (l1 = 0)) := by
    simp only [PyData.eqv, PyData.eqvAll, Bool.and_true]
    congr 1
    · by_cases h : l0 = 0 <;> simp [h]
    · by_cases h : l1 = 0 <;> simp [h]
  exact congrArg (Option.map (!·)) ((z_eqD e3 e1 e2 shaped2 shaped2).trans (congrArg some e4))
theorem nin_left {cells : List Int} {k l0 l1 : Nat} {ms : List Nat} : cmpV (mixH cells k ms l0 l1) .nin (.int 0) (.ref 2) = some (!(decide (l0 = 0) || decide (l1 = 0))) := by
  have e1 : toPyL pyFuel (mixH cells k ms l0 l1) [.int (l0 : Nat), .int (l1 : Nat)] = some [.int (l0 : Nat), .int (l1 : Nat)] := rfl
  have e2 : toPy pyFuel (mixH cells k ms l0 l1) (.int 0) = some (.int 0) := rfl
  have e3 : items? (mixH cells k ms l0 l1) (.ref 2) = some [.int (l0 : Nat), .int (l1 : Nat)] := rfl
  have e4 : ([PyData.int (l0 : Nat), .int (l1 : Nat)].any fun y => y.eqv (.int 0)) = (decide (l0 = 0) || decide (l1 = 0)) := by
    simp only [List.any_cons, List.any_nil, PyData.eqv, Bool.or_false]
    congr 1
    · by_cases h : l0 = 0 <;> simp [h]
    · by_cases h : l1 = 0 <;> simp [h]
  exact congrArg (Option.map (!·)) ((z_inD e3 e2 e1 shapedI shaped2).trans (congrArg some e4))

noncomputable abbrev turnE : IE := (.ifx (.cmp .nin (.lit (.int 0)) (.loc 8)) (.call 1 (.cons (.loc 1) (.cons (.lit (.int 2)) .nil))) (.meth .index (.loc 8) (.cons (.bi .max (.cons (.loc 8) .nil)) .nil)))
noncomputable abbrev mLs (sc data gp texts due many x u10 u11 u12 u13 : AV) : List AV := [sc, .ref 0, data, gp, texts, due, many, .ref 1, .ref 2, x, u10, u11, u12, u13]
theorem ev_turn {cells : List Int} (hc : cells.length < 100) {k l0 l1 : Nat} {ms : List Nat} (hk : k < 900) (h0 : l0 ≤ 3) (h1 : l1 ≤ 3) (h : 0 < l0 + l1) {sc data gp texts due many x u10 u11 u12 u13 : AV} :
    ∃ t k', evE (cP 99) 99 turnE (mLs sc data gp texts due many x u10 u11 u12 u13) (mixH cells k ms l0 l1) = some (.int (t : Nat), mixH cells k' ms l0 l1) ∧ ((t = 0 ∧ 0 < l0) ∨ (t = 1 ∧ 0 < l1)) ∧ k' ≤ k + 1 := by
  have hn := @nin_left cells k l0 l1 ms
  by_cases h00 : l0 = 0
  · subst h00
    have hm : biV (mixH cells k ms 0 l1) .max [.ref 2] = some (.int (l1 : Nat), mixH cells k ms 0 l1) := by
      obtain rfl | rfl | rfl : l1 = 1 ∨ l1 = 2 ∨ l1 = 3 := by lia
      all_goals kernel_rfl
    have hi : methV (mixH cells k ms 0 l1) .index (.ref 2) [.int (l1 : Nat)] = some (.int 1, mixH cells k ms 0 l1) := by
      obtain rfl | rfl | rfl : l1 = 1 ∨ l1 = 2 ∨ l1 = 3 := by lia
      all_goals kernel_rfl
    have hb : (!(decide ((0 : Nat) = 0) || decide (l1 = 0))) = false := by simp
    rw [hb] at hn
    have hg : (mixH cells k ms 0 l1)[2]? = some (.list [.int (0 : Nat), .int (l1 : Nat)]) := rfl
    refine ⟨1, k, ?_, .inr ⟨rfl, by lia⟩, by lia⟩
    generalize mixH cells k ms 0 l1 = H at *
    clear h h0 h1
    exact eqv (r_ifx (t_cmp q_lit (r_loc rfl rfl) hn) (i_f rfl (r_meth (r_loc rfl rfl) (rv_ix hg) (r_cons (r_bi (r_cons (r_loc rfl rfl) q_nil) hm) q_nil) hi))) rfl rfl
  · by_cases h11 : l1 = 0
    · subst h11
      have hm : biV (mixH cells k ms l0 0) .max [.ref 2] = some (.int (l0 : Nat), mixH cells k ms l0 0) := by
        obtain rfl | rfl | rfl : l0 = 1 ∨ l0 = 2 ∨ l0 = 3 := by lia
        all_goals kernel_rfl
      have hi : methV (mixH cells k ms l0 0) .index (.ref 2) [.int (l0 : Nat)] = some (.int 0, mixH cells k ms l0 0) := by
        obtain rfl | rfl | rfl : l0 = 1 ∨ l0 = 2 ∨ l0 = 3 := by lia
        all_goals kernel_rfl
      have hb : (!(decide (l0 = 0) || decide ((0 : Nat) = 0))) = false := by simp
      rw [hb] at hn
      have hg : (mixH cells k ms l0 0)[2]? = some (.list [.int (l0 : Nat), .int (0 : Nat)]) := rfl
      refine ⟨0, k, ?_, .inl ⟨rfl, by lia⟩, by lia⟩
      generalize mixH cells k ms l0 0 = H at *
      clear h h0 h1 h00
      exact eqv (r_ifx (t_cmp q_lit (r_loc rfl rfl) hn) (i_f rfl (r_meth (r_loc rfl rfl) (rv_ix hg) (r_cons (r_bi (r_cons (r_loc rfl rfl) q_nil) hm) q_nil) hi))) rfl rfl
    · obtain ⟨w, hw, hw2⟩ := drawN cells k 2 (by decide)
      have e : cP 99 1 [.ref 0, .int 2] (mixH cells k ms l0 l1) = some (.int (w : Nat), mixH cells (k + 1) ms l0 l1) := hw ▸ c_draw (n := 98) (a := 0) (H := mixH cells k ms l0 l1) rfl (by lia) hc (m := 2) (by decide)
      have hb : (!(decide (l0 = 0) || decide (l1 = 0))) = true := by simp [h00, h11]
      rw [hb] at hn
      refine ⟨w, k + 1, ?_, by lia, by lia⟩
      generalize mixH cells k ms l0 l1 = H at *
      clear h h0 h1 h00 h11
      exact eqv (r_ifx (t_cmp q_lit (r_loc rfl rfl) hn) (i_t rfl (r_call (r_cons (r_loc rfl rfl) (r_cons q_lit q_nil)) e))) rfl rfl

theorem l_mix {cells : List Int} (hc : cells.length < 100) {sc data gp texts due many u10 u11 u12 u13 : AV} : ∀ (s : Nat) {l0 l1 k : Nat} {ms : List Nat} {x : AV} (m : Nat), l0 + l1 = s → l0 ≤ 3 → l1 ≤ 3 → k + s < 900 → ms.length + s ≤ 1000 →
    ∃ (ts : List Nat) (k' : Nat) (x' : AV), loopW (evT (cP 99) 99 w0_1t) (evS (cP 99) 99 w0_1b) (m + s + 1) (mLs sc data gp texts due many x u10 u11 u12 u13) (mixH cells k ms l0 l1)
      = some (.nxt, mLs sc data gp texts due many x' u10 u11 u12 u13, mixH cells k' (ms ++ ts) 0 0) ∧ (∀ t ∈ ts, t < 2) ∧ ts.count 0 = l0 ∧ ts.count 1 = l1 ∧ ts.length = s := by
  intro s
  induction s with
  | zero =>
    intro l0 l1 k ms x m hs h0 h1 hk hms
    obtain rfl : l0 = 0 := by lia
    obtain rfl : l1 = 0 := by lia
    refine ⟨[], k, x, ?_, by simp, rfl, rfl, rfl⟩
    rw [List.append_nil]
    have hn := @ne_left cells k 0 0 ms
    have hb : (!(decide ((0 : Nat) = 0) && decide ((0 : Nat) = 0))) = false := rfl
    rw [hb] at hn
    refine w_end ?_
    generalize mixH cells k ms 0 0 = H at *
    clear hs h0 h1
    exact eqv (t_cmp (r_loc rfl rfl) (r_lstF (r_cons q_lit (r_cons q_lit q_nil))) hn) rfl rfl
  | succ s ih =>
    intro l0 l1 k ms x m hs h0 h1 hk hms
    obtain ⟨t, k1, et, ht, hk1⟩ := ev_turn hc (k := k) (ms := ms) (by lia) h0 h1 (by lia) (sc := sc) (data := data) (gp := gp) (texts := texts) (due := due) (many := many) (x := x) (u10 := u10) (u11 := u11) (u12 := u12) (u13 := u13)
    have hn := @ne_left cells k l0 l1 ms
    have hb : (!(decide (l0 = 0) && decide (l1 = 0))) = true := by
      simp only [Bool.not_eq_true', Bool.and_eq_false_iff, decide_eq_false_iff_not]; lia
    rw [hb] at hn
    have htest : evT (cP 99) 99 w0_1t (mLs sc data gp texts due many x u10 u11 u12 u13) (mixH cells k ms l0 l1) = some (true, mixH cells k ms l0 l1) := by
      clear et ih
      generalize mixH cells k ms l0 l1 = H at *
      clear hs h0 h1
      exact eqv (t_cmp (r_loc rfl rfl) (r_lstF (r_cons q_lit (r_cons q_lit q_nil))) hn) rfl rfl
    have hml : (intsV ms).length ≤ 10000 := by simp; lia
    rcases ht with ⟨rfl, hp⟩ | ⟨rfl, hp⟩
    · have hbody : evS (cP 99) 99 w0_1b (mLs sc data gp texts due many x u10 u11 u12 u13) (mixH cells k ms l0 l1) = some (.nxt, mLs sc data gp texts due many (.int (0 : Nat)) u10 u11 u12 u13, mixH cells k1 (ms ++ [0]) (l0 - 1) l1) := by
        have hsub : (l0 : Int) - 1 = ((l0 - 1 : Nat) : Int) := by lia
        have hmap : intsV ms ++ [.int ((0 : Nat) : Int)] = intsV (ms ++ [0]) := by simp [intsV]
        refine x_asg et rfl ?_
        clear et htest hn hb ih
        exact eqs (s_asgS (r_bin (r_sub (r_loc rfl rfl) (r_loc rfl rfl) (u_r rfl rfl ⟨(by decide), (by decide)⟩)) q_lit (p_sb hsub)) (r_loc rfl rfl) (r_loc rfl rfl) (si_r rfl ⟨(by decide), ⟨(of_decide_eq_true rfl), (of_decide_eq_true rfl)⟩⟩ rfl rfl) (s_expr (r_meth (r_loc rfl rfl) (rv_ap (g_ne (by decide) rfl)) (r_cons (r_loc rfl rfl) q_nil) (ap_r (g_ne (by decide) rfl) hml hmap rfl)) q_snil)) rfl rfl rfl
      obtain ⟨ts, k', x', e, q1, q2, q3, q4⟩ := ih (l0 := l0 - 1) (l1 := l1) (k := k1) (ms := ms ++ [0]) (x := .int (0 : Nat)) m (by lia) (by lia) h1 (by lia) (by simp; lia)
      refine ⟨0 :: ts, k', x', ?_, ?_, ?_, ?_, by simp [q4]⟩
      · rw [show m + (s + 1) + 1 = (m + s + 1) + 1 by lia, show ms ++ 0 :: ts = ms ++ [0] ++ ts by simp]
        exact w_turn htest hbody e
      · intro t ht
        rcases List.mem_cons.mp ht with rfl | ht
        · lia
        · exact q1 t ht
      · rw [List.count_cons_self, q2]; lia
      · rw [List.count_cons_of_ne (by lia), q3]
    · have hbody : evS (cP 99) 99 w0_1b (mLs sc data gp texts due many x u10 u11 u12 u13) (mixH cells k ms l0 l1) = some (.nxt, mLs sc data gp texts due many (.int (1 : Nat)) u10 u11 u12 u13, mixH cells k1 (ms ++ [1]) l0 (l1 - 1)) := by
        have hsub : (l1 : Int) - 1 = ((l1 - 1 : Nat) : Int) := by lia
        have hmap : intsV ms ++ [.int ((1 : Nat) : Int)] = intsV (ms ++ [1]) := by simp [intsV]
        refine x_asg et rfl ?_
        clear et htest hn hb ih
        exact eqs (s_asgS (r_bin (r_sub (r_loc rfl rfl) (r_loc rfl rfl) (u_r rfl rfl ⟨(by decide), (by decide)⟩)) q_lit (p_sb hsub)) (r_loc rfl rfl) (r_loc rfl rfl) (si_r rfl ⟨(by decide), ⟨(of_decide_eq_true rfl), (of_decide_eq_true rfl)⟩⟩ rfl rfl) (s_expr (r_meth (r_loc rfl rfl) (rv_ap (g_ne (by decide) rfl)) (r_cons (r_loc rfl rfl) q_nil) (ap_r (g_ne (by decide) rfl) hml hmap rfl)) q_snil)) rfl rfl rfl
      obtain ⟨ts, k', x', e, q1, q2, q3, q4⟩ := ih (l0 := l0) (l1 := l1 - 1) (k := k1) (ms := ms ++ [1]) (x := .int (1 : Nat)) m (by lia) h0 (by lia) (by lia) (by simp; lia)
      refine ⟨1 :: ts, k', x', ?_, ?_, ?_, ?_, by simp [q4]⟩
      · rw [show m + (s + 1) + 1 = (m + s + 1) + 1 by lia, show ms ++ 1 :: ts = ms ++ [1] ++ ts by simp]
        exact w_turn htest hbody e
      · intro t ht
        rcases List.mem_cons.mp ht with rfl | ht
        · lia
        · exact q1 t ht
      · rw [List.count_cons_of_ne (by lia), q2]
      · rw [List.count_cons_self, q3]; lia
end
section
theorem next_items {ts : List Nat} {H : AH} {j : Nat} : nextOf H j (.items (intsV ts)) = some ((ts[j]?).map fun (t : Nat) => .int (t : Nat)) := by simp [nextOf, intsV]
theorem next_heap {ts : List Nat} {H : AH} {a j : Nat} (h : H[a]? = some (.list (intsV ts))) : nextOf H j (.heap a) = some ((ts[j]?).map fun (t : Nat) => .int (t : Nat)) := (n_heap h).trans (congrArg some (by simp [intsV]))

theorem law_run (ns : List Int) (hn : ns.length ≤ 63) : ∃ H', cP 100 0 [.lst (ns.map .int)] [] = some (.bool true, H') := by
  have hc : (cellsOf ns).length < 100 := by simp; lia
  have lsE : fn0.start [.lst (ns.map .int)] = some [.lst (ns.map .int), .unb, .unb, .unb, .unb, .unb, .unb, .unb, .unb, .unb, .unb, .unb, .unb, .unb] := rfl
  have e1 := ev_deck hn (r := []) (s := .nil) (ls := [.lst (ns.map .int), .unb, .unb, .unb, .unb, .unb, .unb, .unb, .unb, .unb, .unb, .unb, .unb, .unb]) rfl
  obtain ⟨A, B, k1, e2, lA, lB, hA, hB, hk1⟩ := ev_data hc (ls := [.lst (ns.map .int), .ref 0, .unb, .unb, .unb, .unb, .unb, .unb, .unb, .unb, .unb, .unb, .unb, .unb]) rfl
  have e3 : evE (cP 99) 99 (.list false (.cons (.lit (.str [32])) (.cons (.lit (.str [10])) (.cons (.lit (.str [32, 59, 32, 40, 120, 10])) (.cons (.lit (.str [9, 32])) .nil))))) [.lst (ns.map .int), .ref 0, .lst [.lst (A.map datV), .lst (B.map datV)], .unb, .unb, .unb, .unb, .unb, .unb, .unb, .unb, .unb, .unb, .unb] [deckO (cellsOf ns) k1] = some (gapsV, [deckO (cellsOf ns) k1]) := by
    clear e1 e2
    exact eqv (r_lstF (r_cons q_lit (r_cons q_lit (r_cons q_lit (r_cons q_lit q_nil))))) rfl rfl
  obtain ⟨IA, IB, e4, fA, fB, gA, gB⟩ := ev_texts hc (k := k1) (by lia) lA.2 lB.2 hA hB (ls := [.lst (ns.map .int), .ref 0, .lst [.lst (A.map datV), .lst (B.map datV)], gapsV, .unb, .unb, .unb, .unb, .unb, .unb, .unb, .unb, .unb, .unb]) rfl rfl
  generalize hk2 : k1 + A.length + B.length = k2 at e4
  have e5 := ev_due (A := A) (B := B) (H := [deckO (cellsOf ns) k2]) lA.2 lB.2 (ls := [.lst (ns.map .int), .ref 0, .lst [.lst (A.map datV), .lst (B.map datV)], gapsV, .lst [.str (txtI IA), .str (txtI IB)], .unb, .unb, .unb, .unb, .unb, .unb, .unb, .unb, .unb]) rfl
  obtain ⟨ts, k3, x', e6, t1, t2, t3, t4⟩ := l_mix hc (sc := .lst (ns.map .int)) (data := .lst [.lst (A.map datV), .lst (B.map datV)]) (gp := gapsV) (texts := .lst [.str (txtI IA), .str (txtI IB)]) (due := .lst [.lst (A.map fun D => D.fp.form), .lst (B.map fun D => D.fp.form)]) (many := .lst [.int (A.length : Nat), .int (B.length : Nat)]) (u10 := .unb) (u11 := .unb) (u12 := .unb) (u13 := .unb)
    (A.length + B.length) (l0 := A.length) (l1 := B.length) (k := k2) (ms := []) (x := .unb) (98 - (A.length + B.length)) rfl lA.2 lB.2 (by lia) (by simp; lia)
  rw [show 98 - (A.length + B.length) + (A.length + B.length) + 1 = 99 by lia, List.nil_append] at e6
  have e7 : evE (cP 99) 99 (.tup (.cons (.list true .nil) (.cons (.bi .listM (.cons (.loc 6) .nil)) .nil))) [.lst (ns.map .int), .ref 0, .lst [.lst (A.map datV), .lst (B.map datV)], gapsV, .lst [.str (txtI IA), .str (txtI IB)], .lst [.lst (A.map fun D => D.fp.form), .lst (B.map fun D => D.fp.form)], .lst [.int (A.length : Nat), .int (B.length : Nat)], .unb, .unb, .unb, .unb, .unb, .unb, .unb] [deckO (cellsOf ns) k2] = some (.tup [.ref 1, .ref 2], mixH (cellsOf ns) k2 [] A.length B.length) := by
    have hl : ∀ H : AH, biV H .listM [.lst [.int (A.length : Nat), .int (B.length : Nat)]] = some (.ref H.length, H ++ [.list [.int (A.length : Nat), .int (B.length : Nat)]]) := fun H => rfl
    clear e1 e2 e3 e4 e5 e6
    exact eqv (r_tup (r_cons (r_lstT q_nil) (r_cons (r_bi (r_cons (r_loc rfl rfl) q_nil) rfl) q_nil))) rfl rfl
  -- the items of each text
  let it : Nat → List Item := fun t => if t = 0 then IA else IB
  have hit : ∀ t, t < 2 → ∀ i ∈ it t, i.1.ok ∧ i.1.deep ≤ 2 ∧ i.2 ∈ gapsL := by
    intro t ht i hi
    obtain rfl | rfl : t = 0 ∨ t = 1 := by lia
    · have := hA i.1 (by rw [← fA]; exact List.mem_map_of_mem hi)
      exact ⟨this.1, this.2, gA i hi⟩
    · have := hB i.1 (by rw [← fB]; exact List.mem_map_of_mem hi)
      exact ⟨this.1, this.2, gB i hi⟩
  have nA : IA.length = A.length := by rw [← fA]; simp
  have nB : IB.length = B.length := by rw [← fB]; simp
  have hok : ∀ t, t < 2 → ∀ i ∈ it t, ItemOk i := fun t ht i hi => item_ok (hit t ht i hi).1 (hit t ht i hi).2.1 (hit t ht i hi).2.2
  have hl4 : ∀ t, t < 2 → (it t).length ≤ 4 := by
    intro t ht
    obtain rfl | rfl : t = 0 ∨ t = 1 := by lia
    · show IA.length ≤ 4; lia
    · show IB.length ≤ 4; lia
  have htx : ∀ t, t < 2 → (txtI (it t)).length ≤ 10000 := by
    intro t ht
    have := txtI_len (hit t ht)
    have := hl4 t ht
    lia
  have v0 : A.map datV = (it 0).map fun i => datV i.1 := by rw [← fA, List.map_map]; rfl
  have v1 : B.map datV = (it 1).map fun i => datV i.1 := by rw [← fB, List.map_map]; rfl
  have d0 : (A.map fun D => D.fp.form) = (it 0).map fun i => i.1.fp.form := by rw [← fA, List.map_map]; rfl
  have d1 : (B.map fun D => D.fp.form) = (it 1).map fun i => i.1.fp.form := by rw [← fB, List.map_map]; rfl
  have s0 : txtI IA = txtI (it 0) := rfl
  have s1 : txtI IB = txtI (it 1) := rfl
  have hcnt : ∀ (tt : List Nat), tt.count 0 = A.length → tt.count 1 = B.length → ∀ t, t < 2 → tt.count t = (it t).length := by
    intro tt c0 c1 t ht
    obtain rfl | rfl : t = 0 ∨ t = 1 := by lia
    · rw [c0]; exact nA.symm
    · rw [c1]; exact nB.symm
  have body : ∀ {tt : List Nat} {tv : AV} {sr : Src} {H : AH} {x9 x10 x11 x12 x13 : AV}, isU tv = false → srcOf tv = some sr → (∀ H', Fr [] H H' → ∀ j, nextOf H' j sr = some ((tt[j]?).map fun (t : Nat) => .int (t : Nat))) → (∀ t ∈ tt, t < 2) → tt.count 0 = A.length → tt.count 1 = B.length → tt.length ≤ 9 →
      ∃ H' y9 y11 y12 y13, evS (cP 99) 99 f0_1b [.lst (ns.map .int), .ref 0, .lst [.lst (A.map datV), .lst (B.map datV)], gapsV, .lst [.str (txtI IA), .str (txtI IB)], .lst [.lst (A.map fun D => D.fp.form), .lst (B.map fun D => D.fp.form)], .lst [.int (A.length : Nat), .int (B.length : Nat)], .ref 1, .ref 2, x9, tv, x11, x12, x13] H
        = some (.nxt, [.lst (ns.map .int), .ref 0, .lst [.lst (A.map datV), .lst (B.map datV)], gapsV, .lst [.str (txtI IA), .str (txtI IB)], .lst [.lst (A.map fun D => D.fp.form), .lst (B.map fun D => D.fp.form)], .lst [.int (A.length : Nat), .int (B.length : Nat)], .ref 1, .ref 2, y9, tv, y11, y12, y13], H') ∧ Fr [] H H' := by
    intro tt tv sr H x9 x10 x11 x12 x13 hU hs hsr h2 c0 c1 hl
    rw [v0, v1, d0, d1, s0, s1]
    exact c_body hok hl4 htx hU hs hsr h2 (hcnt tt c0 c1) hl
  have cA : (intsV (List.replicate A.length 0 ++ List.replicate B.length 1)) = List.replicate A.length (.int 0) ++ List.replicate B.length (.int 1) := by simp [intsV]
  have cB : (intsV (List.replicate B.length 1 ++ List.replicate A.length 0)) = List.replicate B.length (.int 1) ++ List.replicate A.length (.int 0) := by simp [intsV]
  obtain ⟨H1, a9, a11, a12, a13, b1, F1⟩ := body (tt := List.replicate A.length 0 ++ List.replicate B.length 1) (tv := .lst (intsV (List.replicate A.length 0 ++ List.replicate B.length 1))) (H := mixH (cellsOf ns) k3 ts 0 0) (x9 := x') (x10 := .unb) (x11 := .unb) (x12 := .unb) (x13 := .unb) rfl rfl (fun H' _ j => next_items) (by
      intro t ht
      simp only [List.mem_append, List.mem_replicate] at ht
      lia) (by simp [List.count_append, List.count_replicate]) (by simp [List.count_append, List.count_replicate]) (by simp; lia)
  obtain ⟨H2, c9, c11, c12, c13, b2, F2⟩ := body (tt := List.replicate B.length 1 ++ List.replicate A.length 0) (tv := .lst (intsV (List.replicate B.length 1 ++ List.replicate A.length 0))) (H := H1) (x9 := a9) (x10 := .unb) (x11 := a11) (x12 := a12) (x13 := a13) rfl rfl (fun H' _ j => next_items) (by
      intro t ht
      simp only [List.mem_append, List.mem_replicate] at ht
      lia) (by simp [List.count_append, List.count_replicate]) (by simp [List.count_append, List.count_replicate]) (by simp; lia)
  have hm2 : H2[1]? = some (.list (intsV ts)) := F2.get0 (F1.get0 rfl)
  obtain ⟨H3, z9, z11, z12, z13, b3, F3⟩ := body (tt := ts) (tv := .ref 1) (H := H2) (x9 := c9) (x10 := .unb) (x11 := c11) (x12 := c12) (x13 := c13) rfl rfl (fun H' F j => next_heap (F.get0 hm2)) t1 t2 t3 (by lia)
  have m0 : ∀ (n : Nat) (v : AV), n ≤ 3 → binV .mul (.lst [v]) (.int (n : Nat)) = some (.lst (List.replicate n v)) := fun n v h => by rw [p_mulL (by lia), Int.toNat_natCast]
  have mA := m0 A.length (.int 0) lA.2
  have mB := m0 B.length (.int 1) lB.2
  have aAB : binV .add (.lst (List.replicate A.length (.int 0))) (.lst (List.replicate B.length (.int 1))) = some (.lst (intsV (List.replicate A.length 0 ++ List.replicate B.length 1))) := by rw [p_addL (by simp; lia), cA]
  have aBA : binV .add (.lst (List.replicate B.length (.int 1))) (.lst (List.replicate A.length (.int 0))) = some (.lst (intsV (List.replicate B.length 1 ++ List.replicate A.length 0))) := by rw [p_addL (by simp; lia), cB]
  have e8 : evE (cP 99) 99 f0_1s (mLs (.lst (ns.map .int)) (.lst [.lst (A.map datV), .lst (B.map datV)]) gapsV (.lst [.str (txtI IA), .str (txtI IB)]) (.lst [.lst (A.map fun D => D.fp.form), .lst (B.map fun D => D.fp.form)]) (.lst [.int (A.length : Nat), .int (B.length : Nat)]) x' .unb .unb .unb .unb) (mixH (cellsOf ns) k3 ts 0 0)
      = some (.tup [.lst (intsV (List.replicate A.length 0 ++ List.replicate B.length 1)), .lst (intsV (List.replicate B.length 1 ++ List.replicate A.length 0)), .ref 1], mixH (cellsOf ns) k3 ts 0 0) := by
    clear e1 e2 e3 e4 e5 e6 e7 b1 b2 b3 F1 F2 F3 m0 hok hl4 htx body hit hcnt cA cB hA hB gA gB v0 v1 d0 d1 s0 s1 hm2 t1 t2 t3
    generalize mixH (cellsOf ns) k3 ts 0 0 = H
    generalize intsV (List.replicate A.length 0 ++ List.replicate B.length 1) = w1 at *
    generalize intsV (List.replicate B.length 1 ++ List.replicate A.length 0) = w2 at *
    exact eqv (r_tup (r_cons (r_bin (r_bin (r_lstF (r_cons q_lit q_nil)) (r_sub (r_loc rfl rfl) q_lit (u_l rfl ⟨(by decide), (by decide)⟩)) mA) (r_bin (r_lstF (r_cons q_lit q_nil)) (r_sub (r_loc rfl rfl) q_lit (u_l rfl ⟨(by decide), (by decide)⟩)) mB) aAB) (r_cons (r_bin (r_bin (r_lstF (r_cons q_lit q_nil)) (r_sub (r_loc rfl rfl) q_lit (u_l rfl ⟨(by decide), (by decide)⟩)) mB) (r_bin (r_lstF (r_cons q_lit q_nil)) (r_sub (r_loc rfl rfl) q_lit (u_l rfl ⟨(by decide), (by decide)⟩)) mA) aBA) (r_cons (r_loc rfl rfl) q_nil)))) rfl rfl
  exact ⟨H3, callF_run (fn := fn0) rfl rfl lsE (x_asg e1 rfl (x_asg e2 rfl (x_asg e3 rfl (x_asg e4 rfl (x_asg e5 rfl (x_asg e7 rfl (x_whl e6 (x_for e8 rfl (f_turn rfl rfl b1 (f_turn rfl rfl b2 (f_turn rfl rfl b3 (f_end rfl)))) (x_ret q_lit)))))))))⟩
end
section
theorem fad0 {K : Frag} {h : Heap} {mg : Str → Option Value} {fa : Addr} (X : K.In h) (hg : h.Ns mainGlobals mg) (hmg : mg (Str.ofString "law") = some (.ref fa)) (hs : (fadK K 0).isSome = true) : fadK K 0 = some fa := by
  refine some_of hs fun x e => e.trans (congrArg some ?_)
  refine bnd (show (namK K (Str.ofString "law")).bind (fun x => some x) = some x from e) fun y ey e => ?_
  refine bnd ey fun v ev er => bnd ev fun o eo e2 => ?_
  cases o with
  | some u =>
    have := (mg_of X hg eo).symm.trans hmg
    cases Option.some.inj this; cases Option.some.inj e2; cases Option.some.inj e; exact (Option.some.inj er).symm
  | none => exact clash (mg_none_of X hg eo) hmg

noncomputable def chunk (K : Frag) (j : Nat) : Bool := (List.range 7).all fun i => fnsAll K (7 * j + i)
theorem of_chunks {K : Frag} (h : ∀ j, j < 8 → chunk K j = true) (f : Nat) (hf : f < 56) : fnsAll K f = true := by
  have := List.all_eq_true.mp (h (f / 7) (by lia)) (f % 7) (List.mem_range.mpr (by lia))
  rwa [show 7 * (f / 7) + f % 7 = f by lia] at this
theorem eight {Q : Nat → Prop} (h0 : Q 0) (h1 : Q 1) (h2 : Q 2) (h3 : Q 3) (h4 : Q 4) (h5 : Q 5) (h6 : Q 6) (h7 : Q 7) : ∀ j, j < 8 → Q j
  | 0, _ => h0 | 1, _ => h1 | 2, _ => h2 | 3, _ => h3 | 4, _ => h4 | 5, _ => h5 | 6, _ => h6 | 7, _ => h7
  | n + 8, h => absurd h (by lia)
theorem fin_law {K : Frag} {p prog : Program} {loose : List Str} {mean mean' : ExcName → Option Value} {mg mb : Str → Option Value} {w : World} {s₀ s₁ : Shared} {R : WRecords} {ns : List Int} {a fa : Addr} {as : List Addr} {its : List Value} {c : ClaimW} {cl : Str → Option Addr} {args : List WData}
    (KX : K.In s₁.heap) (T : Top p loose mean' mg mb s₁.heap) (L : Laid R w s₀ s₁ [ofPy (PyData.list (ns.map PyData.int))] [.ref a] as) (hL : s₁.heap.IsList a its.toArray) (hI : IntsAre its ns) (hn : ¬ ((63 : Nat) : Int) < (ns.length : Int)) (hmg : mg (Str.ofString "law") = some (.ref fa)) (hgens : s₁.gens = #[])
    (c1 : clsAll K = true) (c2 : spcAll K = true) (c3 : spcNe K = true) (c5 : (fadK K 0).isSome = true) (c4 : ∀ j, j < 8 → chunk K j = true) (hr : ∀ cls, c.raises args cls = false) (hp : c.post args (.bool true) args = true) :
    wpAny (model prog w) callerA (call (.ref fa) [.ref a]) (fun v s' => GoodWG c cl mean args s₁ (.ok (.ret v)) s') (fun e s' => GoodWG c cl mean args s₁ (.error e) s') s₁ := by
  obtain ⟨H', e⟩ := law_run ns (by lia)
  rw [cP_eq] at e
  have c4' : ∀ {f fn}, P f = some fn → fnOk (tblK K) f fn = true := fun {f fn} h => by
    have hf : f < 56 := (List.getElem?_eq_some_iff.mp h).1
    exact allO (of_chunks c4 f hf) h
  refine run_law KX T.g T.b T.nolimit T.builtins c1 c2 c3 c4' (fad0 KX T.g hmg c5) (PySem.W.X.script_obj L hL) hI e fun h' tk hk => ?_
  exact ⟨.inl ⟨.bool true, .bool true, [], rfl, hr, .bool true, hp, fun _ => ⟨.nil, fun _ q => nomatch q⟩⟩, .of_keep hk, rfl, .of_eq hgens⟩
end
end Mini
end
open PySem PySem.W PyProof.Rows
namespace Mine.head
theorem tw17559447579194172805 : True := trivial
theorem tw7903294476741376241 : True := trivial
theorem tw10057324677953800380 : True := trivial
theorem tw8913984098544880204 : True := trivial
theorem tw9805253344029745082 : True := trivial
theorem tw435919173891273618 : True := trivial
theorem tw4650978252666477972 : True := trivial
theorem tw12071727259260120928 : True := trivial
theorem tw17047173418526440719 : True := trivial
theorem tw6340333076124637787 : True := trivial
theorem tw13622553186359412901 : True := trivial
theorem tw1747066867651508883 : True := trivial
theorem tw15518352292215848678 : True := trivial
theorem tw2331964550323417480 : True := trivial
theorem tw12217024642684963071 : True := trivial
theorem tw13648634255768695691 : True := trivial
theorem tw747787168860494472 : True := trivial
theorem tw17215767586483907915 : True := trivial
theorem tw18232527318453883534 : True := trivial
theorem tw9582801098532864791 : True := trivial
theorem tw15558472065692178444 : True := trivial
theorem tw16737843063444771500 : True := trivial
theorem tw17900827747590843992 : True := trivial
theorem tw664802184757212732 : True := trivial
theorem tw3969713368448104927 : True := trivial
theorem tw9880525334300106516 : True := trivial
theorem tw454206430351409394 : True := trivial
theorem tw11331964656653764252 : True := trivial
theorem tw6353956073876398718 : True := trivial
theorem tw9667057024206132877 : True := trivial
theorem tw11520561060173024591 : True := trivial
theorem tw17073407085323989039 : True := trivial
theorem tw11144038216366868624 : True := trivial
theorem tw3607904660834509379 : True := trivial
theorem tw11317040621428170672 : True := trivial
theorem tw7865459184215859461 : True := trivial
theorem tw10205901840931958794 : True := trivial
theorem tw535759633888254584 : True := trivial
theorem tw4710157558507259966 : True := trivial
theorem tw12208250694980261958 : True := trivial
theorem tw1027418765852784765 : True := trivial
theorem tw11025161241244034904 : True := trivial
theorem tw9882980801552513507 : True := trivial
theorem tw9963290369399371518 : True := trivial
theorem tw9984857939888562537 : True := trivial
theorem tw6209506407470224104 : True := trivial
theorem tw2280476542953288466 : True := trivial
theorem tw2036045936783588820 : True := trivial
theorem tw5352938450506568396 : True := trivial
theorem tw12346699069400716802 : True := trivial
theorem tw551897176653314291 : True := trivial
theorem tw9329546466931433659 : True := trivial
theorem tw9995932709483114470 : True := trivial
theorem tw1167848473912067070 : True := trivial
theorem tw4699201537168186144 : True := trivial
theorem tw502945107600045616 : True := trivial
theorem tw3573826322425381359 : True := trivial
theorem tw16886795061171573785 : True := trivial
theorem tw7497755568871286058 : True := trivial
theorem tw5494915354294010062 : True := trivial
theorem tw17367401956837808436 : True := trivial
theorem tw4685136866519367070 : True := trivial
theorem tw13622144038035524431 : True := trivial
theorem tw8544564960068987440 : True := trivial
theorem tw12436427714720906240 : True := trivial
theorem tw5974102979444029424 : True := trivial
theorem tw14175135382758530294 : True := trivial
theorem tw2348275116616203408 : True := trivial
theorem tw14260301385369467134 : True := trivial
theorem tw17003844492384577761 : True := trivial
theorem tw2434224034488664893 : True := trivial
theorem tw13957708380544194170 : True := trivial
theorem tw6030266078283114602 : True := trivial
theorem tw10102725535895642605 : True := trivial
theorem tw3351854977734002237 : True := trivial
theorem tw10426859654452684020 : True := trivial
theorem tw10822531164399349864 : True := trivial
theorem tw4633421938578746212 : True := trivial
theorem tw14960921261175450022 : True := trivial
theorem tw6261357342898396333 : True := trivial
theorem tw15391541452042114542 : True := trivial
theorem tw14566474621735907246 : True := trivial
theorem tw832385401075597519 : True := trivial
theorem tw17627219580506283499 : True := trivial
theorem tw6320162712761759739 : True := trivial
theorem tw14040378556629042505 : True := trivial
theorem tw13152268301139939815 : True := trivial
theorem tw14595833462870999721 : True := trivial
theorem tw1116539825525103004 : True := trivial
theorem tw13271883555645570809 : True := trivial
theorem tw17127180001328973785 : True := trivial
theorem tw4243398038949097062 : True := trivial
theorem tw6262144584757829027 : True := trivial
theorem tw1513593234556287522 : True := trivial
theorem tw5979923624586180841 : True := trivial
theorem tw2069892425963407438 : True := trivial
theorem tw12091501623244059490 : True := trivial
theorem tw16830977404285264861 : True := trivial
theorem tw2260148437054462128 : True := trivial
theorem tw6292634134277249009 : True := trivial
theorem tw11180706272507997899 : True := trivial
theorem tw8309332231274253749 : True := trivial
theorem tw8121585282774706998 : True := trivial
theorem tw9068951325238333421 : True := trivial
theorem tw17592209587693068513 : True := trivial
theorem tw2324514876744903037 : True := trivial
theorem tw2693085310346751840 : True := trivial
theorem tw13050113328696011581 : True := trivial
theorem tw15162225058593973900 : True := trivial
theorem tw16740863209332125996 : True := trivial
theorem tw14146789312817145567 : True := trivial
theorem tw10600947665092209472 : True := trivial
theorem tw13860583899253628374 : True := trivial
theorem tw13091550226583198465 : True := trivial
theorem tw15706340223708307513 : True := trivial
theorem tw9720831772153260590 : True := trivial
theorem tw8755841954263808934 : True := trivial
theorem tw8539663999457080437 : True := trivial
theorem tw17031526593276720235 : True := trivial
theorem tw6437123204377219951 : True := trivial
theorem tw7102174856998930618 : True := trivial
theorem tw2568773401939026669 : True := trivial
theorem tw18335378225942136845 : True := trivial
theorem tw9768651019292148572 : True := trivial
theorem tw5980326371243425329 : True := trivial
theorem tw1987887513073277708 : True := trivial
theorem tw16477320687665640341 : True := trivial
theorem tw2201136575665566876 : True := trivial
theorem tw885202993799890803 : True := trivial
theorem tw17299420375084147611 : True := trivial
theorem tw11877066710866189089 : True := trivial
theorem tw8950696080806634426 : True := trivial
theorem tw3980416783876415397 : True := trivial
theorem tw3836554635756868787 : True := trivial
theorem tw10660441056061037052 : True := trivial
theorem tw10495071602734477956 : True := trivial
theorem tw8085921454852008857 : True := trivial
theorem tw9749737130793048254 : True := trivial
theorem tw17692404156743010648 : True := trivial
theorem tw5896078232555555760 : True := trivial
theorem tw12961704563838432616 : True := trivial
theorem tw12644106741776622502 : True := trivial
theorem tw7238925294402734329 : True := trivial
theorem tw14049521636329280005 : True := trivial
theorem tw6016475294569717833 : True := trivial
theorem tw9179667496242967187 : True := trivial
theorem tw8764812069261724636 : True := trivial
theorem tw18031349218645678419 : True := trivial
theorem tw17315711934193682409 : True := trivial
theorem tw16893925299487974197 : True := trivial
theorem tw4582309799678080805 : True := trivial
theorem tw431432454858452961 : True := trivial
theorem tw1591388154402280663 : True := trivial
theorem tw12524006524393126324 : True := trivial
theorem tw8767885890065989489 : True := trivial
theorem tw18084798714678584622 : True := trivial
theorem tw18178488884734334018 : True := trivial
theorem tw2174432213450970973 : True := trivial
theorem tw9120896099952883778 : True := trivial
theorem tw15585977799109317422 : True := trivial
theorem tw7527754120553810799 : True := trivial
theorem tw1065808593307370721 : True := trivial
theorem tw14678607099787667832 : True := trivial
theorem tw16432758787676178842 : True := trivial
theorem tw7282731924943358389 : True := trivial
theorem tw7993619059444904130 : True := trivial
theorem tw14799600974568880389 : True := trivial
theorem tw14750887887483374684 : True := trivial
theorem tw1823957798524384921 : True := trivial
theorem tw136862833419060450 : True := trivial
theorem tw13155793795082684968 : True := trivial
theorem tw9518790540144223980 : True := trivial
theorem tw9222222236259467877 : True := trivial
theorem tw10914648395739414734 : True := trivial
theorem tw7742475738698406710 : True := trivial
theorem tw14701321049603706842 : True := trivial
theorem tw10595426413868135500 : True := trivial
theorem tw418792987935747998 : True := trivial
theorem tw5748319406226794948 : True := trivial
theorem tw781241333546792274 : True := trivial
theorem tw6117513916623700201 : True := trivial
theorem tw15564388279145040420 : True := trivial
theorem tw3821198092808153188 : True := trivial
theorem tw17941721110787656278 : True := trivial
theorem tw13286620078221885794 : True := trivial
theorem tw12847962748305527809 : True := trivial
theorem tw4184399513054140020 : True := trivial
theorem tw8431609008313624918 : True := trivial
theorem tw6624879954577336804 : True := trivial
theorem tw2436301733891669328 : True := trivial
theorem tw15126537020585513903 : True := trivial
theorem tw872282298557945259 : True := trivial
theorem tw5274619832202388933 : True := trivial
theorem tw18411635346620432169 : True := trivial
theorem tw4987211591758539169 : True := trivial
theorem tw12426494806717462923 : True := trivial
theorem tw6098966127765126980 : True := trivial
theorem tw2665698703500916749 : True := trivial
theorem tw7089113349845079040 : True := trivial
theorem tw4375105765898748737 : True := trivial
theorem tw12948042205217876907 : True := trivial
theorem tw2924663042187291895 : True := trivial
theorem tw9523035368307462542 : True := trivial
theorem tw15342412027778344668 : True := trivial
theorem tw2719257426903030307 : True := trivial
theorem tw8928188566599451796 : True := trivial
theorem tw7106721253450811550 : True := trivial
theorem tw11718863560617510249 : True := trivial
theorem tw18066087676328448526 : True := trivial
theorem tw3672471535471100407 : True := trivial
theorem tw235355511681289445 : True := trivial
theorem tw8741754718535133564 : True := trivial
theorem tw11434691096646936789 : True := trivial
theorem tw12657578198527208689 : True := trivial
theorem tw15716682031205753259 : True := trivial
theorem tw9738491136036967028 : True := trivial
theorem tw12194425469327044861 : True := trivial
theorem tw6248863724015719318 : True := trivial
theorem tw12200920916054822680 : True := trivial
theorem tw14092115771850874980 : True := trivial
theorem tw5249736910581971616 : True := trivial
theorem tw6281462062852944436 : True := trivial
theorem tw13099101819911213405 : True := trivial
theorem tw7496362095248838178 : True := trivial
theorem tw11000894375180334758 : True := trivial
theorem tw18023102500823057158 : True := trivial
theorem tw5622019726383374763 : True := trivial
theorem tw11832286021011277632 : True := trivial
theorem tw1038803174187254736 : True := trivial
theorem tw16921366381784599296 : True := trivial
theorem tw10934754846290627207 : True := trivial
theorem tw13243855893451385335 : True := trivial
theorem tw10733487473054559667 : True := trivial
theorem tw10152989366908957355 : True := trivial
theorem tw2907252754074936571 : True := trivial
theorem tw8301215745104749240 : True := trivial
theorem tw5416088289939480809 : True := trivial
theorem tw3770293899657039488 : True := trivial
theorem tw5219810546279380337 : True := trivial
theorem tw1057692990721835693 : True := trivial
theorem tw17618995285751490365 : True := trivial
theorem tw2455066298120655947 : True := trivial
theorem tw13263745642664536222 : True := trivial
theorem tw15495949343817618313 : True := trivial
theorem tw16293315307637584957 : True := trivial
theorem tw3949286956530496458 : True := trivial
theorem tw6290708797934707075 : True := trivial
theorem tw13104446112700015060 : True := trivial
theorem tw6941157046062029498 : True := trivial
theorem tw6153216540549705128 : True := trivial
theorem tw6382783375069867764 : True := trivial
theorem tw9137500613296774177 : True := trivial
theorem tw10715624896548589014 : True := trivial
theorem tw2954648481479915241 : True := trivial
theorem tw10302911510664106142 : True := trivial
theorem tw15290538387728885903 : True := trivial
theorem tw8814695299782604024 : True := trivial
theorem tw16285237483143168038 : True := trivial
theorem tw1732491907748860072 : True := trivial
theorem tw1138260710269047722 : True := trivial
theorem tw5047587776645399659 : True := trivial
theorem tw17118749514343532412 : True := trivial
theorem tw14875387627360650111 : True := trivial
theorem tw71591220185861961 : True := trivial
theorem tw8041283741705360151 : True := trivial
theorem tw16681976487730155373 : True := trivial
theorem tw9727442461155857472 : True := trivial
theorem tw3036241240919172538 : True := trivial
theorem tw11230216085080476905 : True := trivial
theorem tw509972978835393586 : True := trivial
theorem tw4668343606252576700 : True := trivial
theorem tw5779266891285237316 : True := trivial
theorem tw10028769451454575959 : True := trivial
theorem tw12318285613900400887 : True := trivial
theorem tw337590945954956358 : True := trivial
theorem tw10684947817400768537 : True := trivial
theorem tw15305820253037481385 : True := trivial
theorem tw14825300992477387305 : True := trivial
theorem tw16709488389421637403 : True := trivial
theorem tw6142196675039325671 : True := trivial
theorem tw977608489069674722 : True := trivial
theorem tw421879672669748542 : True := trivial
theorem tw13190076929595695689 : True := trivial
theorem tw8373242571093571992 : True := trivial
theorem tw7575438132055705234 : True := trivial
theorem tw17236907200485812037 : True := trivial
theorem tw4071763505791975399 : True := trivial
theorem tw8447912379478649563 : True := trivial
theorem tw2733800340897646104 : True := trivial
theorem tw2023333018160560153 : True := trivial
theorem tw16117094130243531959 : True := trivial
theorem tw853842882010341255 : True := trivial
theorem tw173703444716740690 : True := trivial
theorem tw7274607212009273331 : True := trivial
theorem tw11732020036227150478 : True := trivial
theorem tw10480914413966069773 : True := trivial
theorem tw7139242014082720648 : True := trivial
theorem tw5678864733156011941 : True := trivial
theorem tw15957418854308000961 : True := trivial
theorem tw375063671424977488 : True := trivial
theorem tw6830519825777995400 : True := trivial
theorem tw4235484345178625934 : True := trivial
theorem tw12295372184687075957 : True := trivial
theorem tw13579520122203153297 : True := trivial
theorem tw8234020018961768379 : True := trivial
theorem tw11681390816494113366 : True := trivial
theorem tw2973658869589467135 : True := trivial
theorem tw7107803414319069810 : True := trivial
theorem tw14164149936386758452 : True := trivial
theorem tw2822630081599307903 : True := trivial
theorem tw14486417826711089421 : True := trivial
theorem tw16795465476233595361 : True := trivial
theorem tw16622762608808804870 : True := trivial
theorem tw7066898713153457367 : True := trivial
theorem tw5257771793718722195 : True := trivial
theorem tw11760740939625903948 : True := trivial
theorem tw11232753871845369585 : True := trivial
theorem tw17950832640192817989 : True := trivial
theorem tw2502139638844565268 : True := trivial
theorem tw13674754148644894109 : True := trivial
theorem tw4043339051883715822 : True := trivial
theorem tw724549385526485415 : True := trivial
theorem tw5624592538195092332 : True := trivial
theorem tw4122234036245607846 : True := trivial
theorem tw6283715808424095190 : True := trivial
theorem tw16103871458770727149 : True := trivial
theorem tw3752171117442562762 : True := trivial
theorem tw4437492679690296281 : True := trivial
theorem tw9715138379945779475 : True := trivial
theorem tw16956433465759570209 : True := trivial
theorem tw9950012452518301400 : True := trivial
theorem tw8886718635556221586 : True := trivial
theorem tw10244080818906800337 : True := trivial
theorem tw13560664509755512093 : True := trivial
theorem tw13956387390957598792 : True := trivial
theorem tw10370997065398901415 : True := trivial
theorem tw13143932433069946306 : True := trivial
theorem tw1358477559015917344 : True := trivial
theorem tw11851053139006797147 : True := trivial
theorem tw5428702795074665707 : True := trivial
theorem tw11440209995131444235 : True := trivial
theorem tw14014705413449153770 : True := trivial
theorem tw18013203364243122693 : True := trivial
theorem tw14055753544476699189 : True := trivial
theorem tw16254072021860347721 : True := trivial
theorem tw14893277627016239816 : True := trivial
theorem tw869114305527998662 : True := trivial
theorem tw4209022701688442611 : True := trivial
theorem tw4376452441169836440 : True := trivial
theorem tw12578603598551823460 : True := trivial
theorem tw13534822741570663017 : True := trivial
theorem tw12484432061765689671 : True := trivial
theorem tw16328291893175020465 : True := trivial
theorem tw10130693095660605323 : True := trivial
theorem tw12939298097509774934 : True := trivial
theorem tw15109986579989016021 : True := trivial
theorem tw10089904099882249706 : True := trivial
theorem tw8417632359505549608 : True := trivial
theorem tw17294752414805965482 : True := trivial
theorem tw2072736961713084340 : True := trivial
theorem tw8913528727249266942 : True := trivial
theorem tw12514312567253540452 : True := trivial
theorem tw17191913601295563142 : True := trivial
theorem tw8042415206679849793 : True := trivial
theorem tw391111715865825230 : True := trivial
theorem tw2732923323263089965 : True := trivial
theorem tw9945311577253221374 : True := trivial
theorem tw9802666751112062499 : True := trivial
theorem tw4153742837409733308 : True := trivial
theorem tw5139586873752190906 : True := trivial
theorem tw16770334419157182999 : True := trivial
theorem tw7161163259849137006 : True := trivial
theorem tw12065469531358134042 : True := trivial
theorem tw11416301330100997455 : True := trivial
theorem tw11168744935293604787 : True := trivial
theorem tw9673428178628071668 : True := trivial
theorem tw11041218037566683113 : True := trivial
theorem tw12652960590252205724 : True := trivial
theorem tw13874556218250249374 : True := trivial
theorem tw7280379825467303773 : True := trivial
theorem tw1812593860777251610 : True := trivial
theorem tw7236840865145627325 : True := trivial
theorem tw12607196854111375262 : True := trivial
theorem tw17898789689308676351 : True := trivial
theorem tw10402959920816871413 : True := trivial
theorem tw16376195929413232611 : True := trivial
theorem tw2305113328680751159 : True := trivial
theorem tw4524389486649203433 : True := trivial
theorem tw2627791896893954401 : True := trivial
theorem tw16533239983976720148 : True := trivial
theorem tw14176617658342019697 : True := trivial
theorem tw16173503214750432329 : True := trivial
theorem tw3281558542755725316 : True := trivial
theorem tw17612733726938362846 : True := trivial
theorem tw1484607342316929138 : True := trivial
theorem tw16468404941958976065 : True := trivial
theorem tw8463567800775156377 : True := trivial
theorem tw17509592925965397478 : True := trivial
theorem tw10432072460822644594 : True := trivial
theorem tw16408196684572772008 : True := trivial
theorem tw5720932954505746967 : True := trivial
theorem tw8536211992233317824 : True := trivial
theorem tw3649668515528319102 : True := trivial
theorem tw5674904329053695329 : True := trivial
theorem tw4116991861172051395 : True := trivial
theorem tw2605349756279986621 : True := trivial
theorem tw714868638415974475 : True := trivial
theorem tw16440615025305625343 : True := trivial
theorem tw15124197464011929769 : True := trivial
theorem tw3483112185572013726 : True := trivial
theorem tw14507533732073013958 : True := trivial
theorem tw4319517899908542257 : True := trivial
theorem tw5514773408182115788 : True := trivial
theorem tw295535627058242818 : True := trivial
theorem tw2052204132815015480 : True := trivial
theorem tw11968023818085089204 : True := trivial
theorem tw15282429702024281776 : True := trivial
theorem tw13263875873817277002 : True := trivial
theorem tw3843127904615175548 : True := trivial
theorem tw1000096933744038861 : True := trivial
theorem tw7825998839692427098 : True := trivial
theorem tw18350795634851152879 : True := trivial
theorem tw10852793869259551138 : True := trivial
theorem tw11691020276074593003 : True := trivial
theorem tw5343131311892654240 : True := trivial
theorem tw5338966618730617019 : True := trivial
theorem tw6688643564150500234 : True := trivial
theorem tw8915323565620354182 : True := trivial
theorem tw16238092746980490952 : True := trivial
theorem tw12904880203221352959 : True := trivial
theorem tw4060285905303268369 : True := trivial
theorem tw8279273616332813230 : True := trivial
theorem tw8392376563486022696 : True := trivial
theorem tw362662870813108343 : True := trivial
theorem tw13363751103435886295 : True := trivial
theorem tw6140718209438811591 : True := trivial
theorem tw6797810374864593623 : True := trivial
theorem tw4590936252847570283 : True := trivial
theorem tw890724616078935204 : True := trivial
theorem tw9579181963792025904 : True := trivial
theorem tw14214050833474672873 : True := trivial
theorem tw704431776056492093 : True := trivial
theorem tw16473209340672034901 : True := trivial
theorem tw2428611469929377654 : True := trivial
theorem tw11151524493432201942 : True := trivial
theorem tw12008142137621415248 : True := trivial
theorem tw2422060555358586218 : True := trivial
theorem tw9507877486230452823 : True := trivial
theorem tw2746207135614368797 : True := trivial
theorem tw3574340563023137072 : True := trivial
theorem tw11293392781294171392 : True := trivial
theorem tw17996896654235379134 : True := trivial
theorem tw9663984660510233607 : True := trivial
theorem tw2056182627878279899 : True := trivial
theorem tw3733245983300517450 : True := trivial
theorem tw14670295381301525711 : True := trivial
theorem tw16801486694981576041 : True := trivial
theorem tw3072851551563451206 : True := trivial
theorem tw3661633920502535061 : True := trivial
theorem tw17742358806256884815 : True := trivial
theorem tw15957509976517835555 : True := trivial
theorem tw15760637578331241993 : True := trivial
theorem tw6683513706150875548 : True := trivial
theorem tw9327582730211109428 : True := trivial
theorem tw15939928171505029045 : True := trivial
theorem tw16120218917574920257 : True := trivial
theorem tw5029932371982148533 : True := trivial
theorem tw9768772185455558193 : True := trivial
theorem tw6975220296844124023 : True := trivial
theorem tw5917919872999982558 : True := trivial
theorem tw17368379324915141097 : True := trivial
theorem tw6854052548215758357 : True := trivial
theorem tw12939878819322033723 : True := trivial
theorem tw12486121234424454016 : True := trivial
theorem tw13800250702013121699 : True := trivial
theorem tw9732720778775986935 : True := trivial
theorem tw1227549879374309669 : True := trivial
theorem tw17150334861903044119 : True := trivial
theorem tw9020813548364127609 : True := trivial
theorem tw9333816609905458521 : True := trivial
theorem tw8810417594731451190 : True := trivial
theorem tw10004485552411732700 : True := trivial
theorem tw262540839304598518 : True := trivial
theorem tw8959517998481725519 : True := trivial
theorem tw1677306189693466898 : True := trivial
theorem tw1751406922657761324 : True := trivial
theorem tw12033556656796149954 : True := trivial
theorem tw2215141052601409286 : True := trivial
theorem tw1697559859989344827 : True := trivial
theorem tw11705949096815591566 : True := trivial
theorem tw18073031711844057378 : True := trivial
theorem tw14663318899262606176 : True := trivial
theorem tw16883485440017919290 : True := trivial
theorem tw16631190131364752141 : True := trivial
theorem tw9248808778794700923 : True := trivial
theorem tw5099815926951027273 : True := trivial
theorem tw12625267583621496550 : True := trivial
theorem tw6672156506889826281 : True := trivial
theorem tw9775009289091699370 : True := trivial
theorem tw10764644896865858162 : True := trivial
theorem tw4595326815661006247 : True := trivial
theorem tw4576202897864007363 : True := trivial
theorem tw12444312132030306038 : True := trivial
theorem tw13992231535270000119 : True := trivial
theorem tw2840497048696056363 : True := trivial
theorem tw5389100460325981071 : True := trivial
theorem tw6311259113731786204 : True := trivial
theorem tw12066862939009316002 : True := trivial
theorem tw662287765228061310 : True := trivial
theorem tw4073473596446964255 : True := trivial
theorem tw13476399671395088948 : True := trivial
theorem tw12754419525759925886 : True := trivial
theorem tw14759287195624447657 : True := trivial
theorem tw5524041231571103375 : True := trivial
theorem tw1462545032889911590 : True := trivial
theorem tw1376998317614202234 : True := trivial
theorem tw14655607488592961202 : True := trivial
theorem tw12409568965740367692 : True := trivial
theorem tw16564030580128152760 : True := trivial
theorem tw862983454791144344 : True := trivial
theorem tw15504140188424161255 : True := trivial
theorem tw16107772315962362442 : True := trivial
theorem tw7632199182958153987 : True := trivial
theorem tw888382679573656942 : True := trivial
theorem tw1508154845301832171 : True := trivial
theorem tw11766001749703308854 : True := trivial
theorem tw5954412719047605656 : True := trivial
theorem tw4266224313896076393 : True := trivial
theorem tw2483735064358409646 : True := trivial
theorem tw1592794874080380705 : True := trivial
theorem tw7901495935298352887 : True := trivial
theorem tw6489653925564145154 : True := trivial
theorem tw16694189669363817848 : True := trivial
theorem tw6623347279482997927 : True := trivial
theorem tw4610125951789159273 : True := trivial
theorem tw1666517062079823414 : True := trivial
theorem tw17380737466173400346 : True := trivial
theorem tw7500215959495730732 : True := trivial
theorem tw10008596464986703316 : True := trivial
theorem tw2410621515067966847 : True := trivial
theorem tw3671242851726452051 : True := trivial
theorem tw14219782220805351253 : True := trivial
theorem tw13820907085541388584 : True := trivial
theorem tw3051451228253677869 : True := trivial
theorem tw9962289241493638058 : True := trivial
theorem tw3699452262841405083 : True := trivial
theorem tw6927518992209382465 : True := trivial
theorem tw827641952066090953 : True := trivial
theorem tw8045910494084882907 : True := trivial
theorem tw13419214967097298100 : True := trivial
theorem tw14872335143159614883 : True := trivial
theorem tw7950531977220732648 : True := trivial
theorem tw1340343518572082549 : True := trivial
theorem tw7596034960573263808 : True := trivial
theorem tw3725561186768170562 : True := trivial
theorem tw3532039544225684905 : True := trivial
theorem tw6152654943755094624 : True := trivial
theorem tw2912683176068938345 : True := trivial
theorem tw3637484064827452194 : True := trivial
theorem tw1807067588056866293 : True := trivial
theorem tw8164971126559737376 : True := trivial
theorem tw17018060409428472224 : True := trivial
theorem tw9352138108677823990 : True := trivial
theorem tw2248296660955550702 : True := trivial
theorem tw12450401236535923172 : True := trivial
theorem tw5369512524903011793 : True := trivial
theorem tw14727093378309519390 : True := trivial
theorem tw4465132592056299122 : True := trivial
theorem tw14874203655361369183 : True := trivial
theorem tw9107867078618521465 : True := trivial
theorem tw17541688523111626422 : True := trivial
theorem tw5520720797877348066 : True := trivial
theorem tw7607078024894691015 : True := trivial
theorem tw8511686568144238007 : True := trivial
theorem tw5604878785696234301 : True := trivial
theorem tw5562655185941328720 : True := trivial
theorem tw12855259376862742569 : True := trivial
theorem tw2148030055614744906 : True := trivial
theorem tw10714825353997200060 : True := trivial
theorem tw18196780534285481664 : True := trivial
theorem tw7704013068182772017 : True := trivial
theorem tw2047914967628339781 : True := trivial
theorem tw13367426971552049015 : True := trivial
theorem tw16532429993896542711 : True := trivial
theorem tw13865561160262446969 : True := trivial
theorem tw7831549411756899747 : True := trivial
theorem tw6534476764813446195 : True := trivial
theorem tw13922187814412598364 : True := trivial
theorem tw2565961317231811707 : True := trivial
theorem tw15104663440524053408 : True := trivial
theorem tw6558460524701537468 : True := trivial
theorem tw7070428032543014820 : True := trivial
theorem tw8260066846900617449 : True := trivial
theorem tw14240549237174960044 : True := trivial
theorem tw9715452672222457423 : True := trivial
theorem tw12597669544036351738 : True := trivial
theorem tw616618589642741492 : True := trivial
theorem tw7922251182999489494 : True := trivial
theorem tw11615134685987570744 : True := trivial
theorem tw16761839439243720606 : True := trivial
theorem tw7088757399953246159 : True := trivial
theorem tw12789501161784015681 : True := trivial
theorem tw7454276350098188973 : True := trivial
theorem tw13631441407821397643 : True := trivial
theorem tw13948216833322916026 : True := trivial
theorem tw9569068716054641829 : True := trivial
theorem tw6224309253065287 : True := trivial
theorem tw15229679524178890329 : True := trivial
theorem tw15533183081642172631 : True := trivial
theorem tw4270194388384207496 : True := trivial
theorem tw16543326859127938028 : True := trivial
theorem tw3585120636761510958 : True := trivial
theorem tw7630832166666816750 : True := trivial
theorem tw12112310906557431712 : True := trivial
theorem tw11439090614461261024 : True := trivial
theorem tw6010791561566525379 : True := trivial
theorem tw14647381095888317064 : True := trivial
theorem tw17791140668722362637 : True := trivial
theorem tw3512904759772728333 : True := trivial
theorem tw3588592502655087912 : True := trivial
theorem tw15409907470558869171 : True := trivial
theorem tw3417769575580129162 : True := trivial
theorem tw7008832803831736701 : True := trivial
theorem tw7479172328704166013 : True := trivial
theorem tw12700755134164902788 : True := trivial
theorem tw15891147619164393615 : True := trivial
theorem tw12857523321850055252 : True := trivial
theorem tw10341852730170913094 : True := trivial
theorem tw12072770662832880298 : True := trivial
theorem tw10409160604454647133 : True := trivial
theorem tw14325621368753278715 : True := trivial
theorem tw9062341736086135511 : True := trivial
theorem tw14322979366200066306 : True := trivial
theorem tw13671507056871902345 : True := trivial
theorem tw17137645150146195739 : True := trivial
theorem tw1257712886858441377 : True := trivial
theorem tw15503311419644758321 : True := trivial
theorem tw15493094678485933885 : True := trivial
theorem tw14662183252657457806 : True := trivial
theorem tw1905018684977929065 : True := trivial
theorem tw7853567060043588771 : True := trivial
theorem tw2848572814954606015 : True := trivial
theorem tw4451696895690681856 : True := trivial
theorem tw5797659351843934982 : True := trivial
theorem tw9766232683398606003 : True := trivial
theorem tw9928353778494798437 : True := trivial
theorem tw2516334859755765661 : True := trivial
theorem tw15670314961966914809 : True := trivial
theorem tw6779955745138308925 : True := trivial
theorem tw8429937926120485881 : True := trivial
theorem tw5069774815901963493 : True := trivial
theorem tw10753964969966124476 : True := trivial
theorem tw10679589300015874589 : True := trivial
theorem tw11399172740396881131 : True := trivial
theorem tw4970867117241601791 : True := trivial
theorem tw959926872968284996 : True := trivial
theorem tw11951955611523783419 : True := trivial
theorem tw11794225407462061156 : True := trivial
theorem tw17822238301537620861 : True := trivial
theorem tw12051084405962134518 : True := trivial
theorem tw1941339267748672941 : True := trivial
theorem tw71714477353238933 : True := trivial
theorem tw5910542889099687441 : True := trivial
theorem tw5393857301988084200 : True := trivial
theorem tw9064258937358814346 : True := trivial
theorem tw17982555415517904842 : True := trivial
theorem tw17511238309789743905 : True := trivial
theorem tw2952394568518751322 : True := trivial
theorem tw6128295188033089860 : True := trivial
theorem tw6698642639528088829 : True := trivial
theorem tw8283148773926550566 : True := trivial
theorem tw13284638762675304289 : True := trivial
theorem tw829935216130546468 : True := trivial
theorem tw16434502402164372719 : True := trivial
theorem tw14479185508097919074 : True := trivial
theorem tw6777799480991962394 : True := trivial
theorem tw9572178051234138947 : True := trivial
theorem tw4419501877807118739 : True := trivial
theorem tw12452566375826956790 : True := trivial
theorem tw8380936283459808106 : True := trivial
theorem tw12404083128106298336 : True := trivial
theorem tw1670587127170095525 : True := trivial
theorem tw11191537425599765347 : True := trivial
theorem tw5905369324087767551 : True := trivial
theorem tw3959970717952229811 : True := trivial
theorem tw17772425565791332597 : True := trivial
theorem tw11356661857859873510 : True := trivial
theorem tw13557131769351111125 : True := trivial
theorem tw15372123069634343339 : True := trivial
theorem tw18279744340797154403 : True := trivial
theorem tw15785177711734604073 : True := trivial
theorem tw16328432537434403348 : True := trivial
theorem tw8213960847449749335 : True := trivial
theorem tw11189789296127593158 : True := trivial
theorem tw3262285727790488879 : True := trivial
theorem tw9092782479528653647 : True := trivial
theorem tw16326560665589428798 : True := trivial
theorem tw1444419606063138773 : True := trivial
theorem tw642663815977056643 : True := trivial
theorem tw16010334300628628498 : True := trivial
theorem tw18142211064817149258 : True := trivial
theorem tw17009922446069711563 : True := trivial
theorem tw6306095731631890325 : True := trivial
theorem tw49217562971478109 : True := trivial
theorem tw6112250354376546114 : True := trivial
theorem tw13888734121436769409 : True := trivial
theorem tw18169875983425730683 : True := trivial
theorem tw12907268200088718732 : True := trivial
theorem tw9159838900385050129 : True := trivial
theorem tw9256275371193468993 : True := trivial
theorem tw17964767341653826489 : True := trivial
theorem tw15766964574513750690 : True := trivial
theorem tw2091965674445703106 : True := trivial
theorem tw3913011252713949422 : True := trivial
theorem tw8046041489843234204 : True := trivial
theorem tw2318483180648720054 : True := trivial
theorem tw7955294145718696899 : True := trivial
theorem tw4703289881124669596 : True := trivial
theorem tw16965571331234908529 : True := trivial
theorem tw6575728015846112172 : True := trivial
theorem tw14275976723685993175 : True := trivial
theorem tw1177979958485109847 : True := trivial
theorem tw6293876734659527808 : True := trivial
theorem tw17102465129533296525 : True := trivial
theorem tw9480918408633504697 : True := trivial
theorem tw11174109409328508052 : True := trivial
theorem tw15019348771596866515 : True := trivial
theorem tw721066603278976339 : True := trivial
theorem tw5138580765684058163 : True := trivial
theorem tw11485282424322912595 : True := trivial
theorem tw17096668488530887495 : True := trivial
theorem tw7969588601421279602 : True := trivial
theorem tw18011101859354138280 : True := trivial
theorem tw14820058790237361854 : True := trivial
theorem tw6627471285708541645 : True := trivial
theorem tw17531176704122011913 : True := trivial
theorem tw11278084062861619732 : True := trivial
theorem tw16086903805944740458 : True := trivial
theorem tw18172046257346423533 : True := trivial
theorem tw15826805868705295398 : True := trivial
theorem tw14830554127401932807 : True := trivial
theorem tw9990835335154951628 : True := trivial
theorem tw17788065823352806518 : True := trivial
theorem tw1447281675418479184 : True := trivial
theorem tw16606196488003804732 : True := trivial
theorem tw9716011672601543969 : True := trivial
theorem tw87169847923219603 : True := trivial
theorem tw17138323579126006804 : True := trivial
theorem tw13945671394934317880 : True := trivial
theorem tw3130239973275066786 : True := trivial
theorem tw6551653409689362218 : True := trivial
theorem tw339768606865245969 : True := trivial
theorem tw11606802738245143482 : True := trivial
theorem tw4818460703928763416 : True := trivial
theorem tw17522995503303778767 : True := trivial
theorem tw3177258786157173092 : True := trivial
theorem tw9897682093531020732 : True := trivial
theorem tw13698896331337800132 : True := trivial
theorem tw13222778402486988275 : True := trivial
theorem tw1688113681136032042 : True := trivial
theorem tw108011141615959621 : True := trivial
theorem tw11196753696821184608 : True := trivial
theorem tw5924567602692757797 : True := trivial
theorem tw7001632239245254925 : True := trivial
theorem tw35669579205480371 : True := trivial
theorem tw11145413295169102902 : True := trivial
theorem tw17953475178067572141 : True := trivial
theorem tw5723219236928774010 : True := trivial
theorem tw2115508243873145317 : True := trivial
theorem tw17595263273988895612 : True := trivial
theorem tw3693958349879037372 : True := trivial
theorem tw13584108400115281437 : True := trivial
theorem tw12441102693252029242 : True := trivial
theorem tw3387229336293159926 : True := trivial
theorem tw10779388436708547033 : True := trivial
theorem tw15273699723585094705 : True := trivial
theorem tw5788983645478191709 : True := trivial
theorem tw15227594689012320690 : True := trivial
theorem tw14671757801200046299 : True := trivial
theorem tw17492808714901732691 : True := trivial
theorem tw7137831685229134229 : True := trivial
theorem tw16984002268794309281 : True := trivial
theorem tw9324544233118478649 : True := trivial
theorem tw3884527087560358434 : True := trivial
theorem tw3120963925517539203 : True := trivial
theorem tw4980213514917735962 : True := trivial
theorem tw9116367209454814581 : True := trivial
theorem tw6111756006491067123 : True := trivial
theorem tw13716733334099830593 : True := trivial
theorem tw3891648914990959985 : True := trivial
theorem tw3426525259422378996 : True := trivial
theorem tw1003018256752446526 : True := trivial
theorem tw13246332509982926010 : True := trivial
theorem tw13627182923138506508 : True := trivial
theorem tw5649264812004260101 : True := trivial
theorem tw9879847902337889124 : True := trivial
theorem tw11358761482725646081 : True := trivial
theorem tw13301884732215908732 : True := trivial
theorem tw2827021870679369124 : True := trivial
theorem tw2878951992400420605 : True := trivial
theorem tw8300325384005891405 : True := trivial
theorem tw3664664440031034883 : True := trivial
theorem tw1965069610958893748 : True := trivial
theorem tw16332394348704887834 : True := trivial
theorem tw4971926983415337531 : True := trivial
theorem tw13168999660326774535 : True := trivial
theorem tw4106275465460033898 : True := trivial
theorem tw6204038141948456732 : True := trivial
theorem tw15333874207675111966 : True := trivial
theorem tw16908176179869096451 : True := trivial
theorem tw7077529244586968205 : True := trivial
end Mine.head
set_option Elab.async true
set_option maxRecDepth 100000 in
set_option maxHeartbeats 8000000 in
theorem Mine.head : PySem.Challenge.rw_pq1034_01.Holds := by
  w_on; o_law; z_head; (case hw => w_witness2)
  k_fill
  intro w s₀ s₁ mg mb G y fa o pm cd doc dV kV ho hd hcd hD hmg hg args vals as L hpre hlay hrd hwl hlo
  z_open y L KX ZH ZN ZT
  refine Ground.open G ?_
  intro T B D TE TW
  clear ZH ZN ZT hd hD D TE TW B hcd G
  wrow_args hpre hlay hrd hwl hlo
  refine Mini.fin_law KX T L (by assumption) (by assumption) (by assumption) hmg hg (by kernel_rfl) (by kernel_rfl) (by kernel_rfl) (by kernel_rfl)
    (Mini.eight (by kernel_rfl) (by kernel_rfl) (by kernel_rfl) (by kernel_rfl) (by kernel_rfl) (by kernel_rfl) (by kernel_rfl) (by kernel_rfl)) (raisesW_false (by wrow_none_raised)) (by wrow_post)
set_option maxRecDepth 100000 in
set_option maxHeartbeats 8000000 in
theorem PySem.Challenge.cw_pq1034_01_holds : PySem.Challenge.rw_pq1034_01.Holds := by
  exact Mine.head
