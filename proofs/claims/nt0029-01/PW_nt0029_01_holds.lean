import PyProof.Rows.All
import Wide.All
import OpenK.AllK
import Wide.FinOn
import PySem.Challenge.RW_nt0029_01
/- A small language of its own, of which the row's program is one text, with a run that is proved sound against the
model (A1, A2, U1 to U25); then the law's run in it, in plain Lean (V1 to V27). -/
set_option Elab.async false
set_option autoImplicit false
-- A1
section
set_option tactic.hygienic false
namespace Mine
open PySem
inductive AV where
  | none | bool (b : Bool) | int (i : Int) | str (k : Nat) | ref (a : Nat) | st (g : Nat) | unb
  deriving DecidableEq
inductive AO where
  | list (xs : List AV)
  | tup (xs : List AV)
  | dictI (es : List (Int × AV))
  | dictS (es : List (Nat × AV))
  | attrs (es : List (Nat × AV))
  | inst (c : Nat) (d : Nat)
abbrev Hp := List AO
set_option genSizeOf false
set_option genInjectivity false
inductive Op where | add | addi | sub | mul | fdiv | mod
inductive Cm where | eq | ne | lt | le | gt | isN | notN | inn | nin
inductive Pr where | len | int | list | items | dict | max | isbool
inductive Bm where | append | pop | index | get
inductive IK where | seq | keys | enum | rng
inductive E where
  | lit (v : AV)
  | loc (i : Nat)
  | glob (x : Nat)
  | bin (op : Op) (a b : E)
  | cmp (op : Cm) (a b : E)
  | and (a b : E)
  | or (a b : E)
  | not (a : E)
  | ite (c a b : E)
  | list (es : List E)
  | tup (es : List E)
  | dictI
  | dictS (ks : List Nat) (es : List E)
  | call (f : Nat) (es : List E)
  | prim (p : Pr) (es : List E)
  | bm (m : Bm) (o : E) (es : List E)
  | um (m : Nat) (o : E) (es : List E)
  | attr (o : E) (a : Nat)
  | idx (o i : E)
  | from (o lo : E)
  | upto (o hi : E)
  | rev (o : E)
  | comp (cap : List Nat) (k : IK) (src : List E) (tn : Nat) (cond : List E) (elt : E)
inductive S where
  | asg (i : Nat) (e : E)
  | asgT (is : List Nat) (e : E)
  | setI (o i e : E)
  | setI2 (o1 i1 o2 i2 e : E)
  | setA (o : E) (a : Nat) (e : E)
  | ex (e : E)
  | iff (c : E) (a b : List S)
  | fr (is : List Nat) (k : IK) (src : List E) (body : List S)
  | wh (c : E) (body : List S)
  | ret (e : E)
structure FnI where
  nslots : Nat
  defaults : List AV
  nparams : Nat
  body : List S
/-- the program's tables, as far as the runs need them -/
structure PI where
  gval : Nat → AV                 -- global name (code) -> value
  stat : Nat → AO                 -- static objects
  fn : Nat → Option FnI
  cls : Nat → Option Nat          -- class id -> __init__ fn
  meth : Nat → Nat → Option Nat   -- class id, method name -> fn
  first : Nat → Option Nat        -- code of a text's first sign
noncomputable def obj (P : PI) (H : Hp) : AV → Option AO
  | .ref a => H[a]?
  | .st g => some (P.stat g)
  | _ => none
noncomputable def valS (es : List (Nat × AV)) (k : Nat) : Option AV := (es.find? fun kv => kv.1 = k).map (·.2)
noncomputable def valI (es : List (Int × AV)) (k : Int) : Option AV := (es.find? fun kv => kv.1 = k).map (·.2)
noncomputable def putS (es : List (Nat × AV)) (k : Nat) (v : AV) : List (Nat × AV) :=
  if es.any (fun kv => kv.1 = k) then es.map (fun kv => if kv.1 = k then (kv.1, v) else kv) else es ++ [(k, v)]
noncomputable def putI (es : List (Int × AV)) (k : Int) (v : AV) : List (Int × AV) :=
  if es.any (fun kv => kv.1 = k) then es.map (fun kv => if kv.1 = k then (kv.1, v) else kv) else es ++ [(k, v)]
noncomputable def small (i : Int) : Bool := decide (-(2 ^ 62) ≤ i) && decide (i < 2 ^ 62)
noncomputable def evAdd (P : PI) (a b : AV) (H : Hp) : Option (AV × Hp) :=
  match obj P H a, obj P H b with
  | some (.list xs), some (.list ys) => if xs.length + ys.length ≤ 1000000 then some (.ref H.length, H ++ [.list (xs ++ ys)]) else none
  | none, none => match a, b with
    | .int x, .int y => some (.int (x + y), H)
    | _, _ => none
  | _, _ => none
noncomputable def evMul (P : PI) (a b : AV) (H : Hp) : Option (AV × Hp) :=
  match obj P H a, b with
  | some (.list [x]), .int n => if n ≤ 1000000 ∧ -1000000 ≤ n then some (.ref H.length, H ++ [.list (List.replicate n.toNat x)]) else none
  | none, .int y => match a with
    | .int x => if small x then some (.int (x * y), H) else none
    | _ => none
  | _, _ => none
noncomputable def evSub (a b : AV) (H : Hp) : Option (AV × Hp) :=
  match a, b with
  | .int x, .int y => some (.int (x - y), H)
  | _, _ => none
noncomputable def evDiv (a b : AV) (H : Hp) : Option (AV × Hp) :=
  match a, b with
  | .int x, .int y => if y = 0 then none else if y.natAbs < 1073741824 then some (.int (Int.fdiv x y), H) else none
  | _, _ => none
noncomputable def evMod (a b : AV) (H : Hp) : Option (AV × Hp) :=
  match a, b with
  | .int x, .int y => if y = 0 then none else some (.int (Int.fmod x y), H)
  | _, _ => none
noncomputable def evAddI (a b : AV) (H : Hp) : Option (AV × Hp) :=
  match a, b with
  | .int x, .int y => some (.int (x + y), H)
  | _, _ => none
noncomputable def evBin (P : PI) (op : Op) (a b : AV) (H : Hp) : Option (AV × Hp) :=
  match op with
  | .add => evAdd P a b H
  | .addi => evAddI a b H
  | .sub => evSub a b H
  | .mul => evMul P a b H
  | .fdiv => evDiv a b H
  | .mod => evMod a b H
noncomputable def atom : AV → Bool
  | .none | .bool _ | .int _ | .str _ => true
  | _ => false
/-- equality of two plain values, of the kinds that the text compares -/
noncomputable def eqAt : AV → AV → Option Bool
  | .none, .none => some true
  | .int a, .int b => some (decide (a = b))
  | .str a, .str b => some (decide (a = b))
  | .bool a, .bool b => some (decide (a = b))
  | .none, .int _ => some false
  | .int _, .none => some false
  | .none, .str _ => some false
  | .str _, .none => some false
  | _, _ => none
noncomputable def eqL : List AV → List AV → Option Bool
  | [], [] => some true
  | x :: xs, y :: ys => match eqAt x y, eqL xs ys with
    | some a, some b => some (a && b)
    | _, _ => none
  | _, _ => none
noncomputable def eqDict (es fs : List (Int × AV)) : Option Bool :=
  if es.length = fs.length then
    es.foldr (fun kv r => match valI fs kv.1 with
      | none => some false
      | some w => match eqAt kv.2 w, r with
        | some a, some b => some (a && b)
        | _, _ => none) (some true)
  else some false
noncomputable def eq1 (P : PI) (H : Hp) (a b : AV) : Option Bool :=
  match obj P H a, obj P H b with
  | some (.list xs), some (.list ys) => if xs.length = ys.length then eqL xs ys else some false
  | none, none => eqAt a b
  | _, _ => none
noncomputable def eq2L (P : PI) (H : Hp) : List AV → List AV → Option Bool
  | [], [] => some true
  | x :: xs, y :: ys => match eq1 P H x y, eq2L P H xs ys with
    | some a, some b => some (a && b)
    | _, _ => none
  | _, _ => none
noncomputable def eq2 (P : PI) (H : Hp) (a b : AV) : Option Bool :=
  match obj P H a, obj P H b with
  | some (.tup xs), some (.tup ys) => eq2L P H xs ys
  | some (.dictI es), some (.dictI fs) => eqDict es fs
  | some (.list xs), some (.list ys) => if xs.length = ys.length then eqL xs ys else some false
  | none, none => eqAt a b
  | _, _ => none
noncomputable def allStr (xs : List AV) : Bool := xs.all fun x => match x with | .str _ => true | _ => false
noncomputable def evIn (P : PI) (H : Hp) (a b : AV) : Option Bool :=
  match obj P H b with
  | some (.list xs) => if allStr xs then (match a with
    | .str k => some (xs.any fun x => x = .str k)
    | .none => some false
    | _ => none) else none
  | some (.tup xs) => if allStr xs then (match a with
    | .str k => some (xs.any fun x => x = .str k)
    | .none => some false
    | _ => none) else none
  | some (.dictI es) => (match a with
    | .int k => some (valI es k).isSome
    | _ => none)
  | some (.dictS es) => (match a with
    | .str k => some (valS es k).isSome
    | _ => none)
  | _ => none
noncomputable def evCmp (P : PI) (op : Cm) (a b : AV) (H : Hp) : Option Bool :=
  match op with
  | .eq => eq2 P H a b
  | .ne => (eq2 P H a b).map (!·)
  | .lt => match a, b with | .int x, .int y => some (decide (x < y)) | _, _ => none
  | .le => match a, b with | .int x, .int y => some (decide (x ≤ y)) | _, _ => none
  | .gt => match a, b with | .int x, .int y => some (decide (x > y)) | _, _ => none
  | .isN => match b with | .none => some (decide (a = .none)) | _ => none
  | .notN => match b with | .none => some (!decide (a = .none)) | _ => none
  | .inn => evIn P H a b
  | .nin => (evIn P H a b).map (!·)
noncomputable def place (n : Nat) (i : Int) : Option Nat :=
  if 0 ≤ i then (if i < n then some i.toNat else none)
  else if 0 ≤ i + n then some (i + n).toNat else none
noncomputable def evIdx (P : PI) (o i : AV) (H : Hp) : Option AV :=
  match obj P H o with
  | some (.list xs) => (match i with
    | .int n => if small n then (place xs.length n).bind fun j => xs[j]? else none
    | _ => none)
  | some (.tup xs) => (match i with
    | .int n => if small n then (place xs.length n).bind fun j => xs[j]? else none
    | _ => none)
  | some (.dictI es) => (match i with
    | .int n => valI es n
    | _ => none)
  | some (.dictS es) => (match i with
    | .str k => valS es k
    | _ => none)
  | some _ => none
  | none => (match o, i with
    | .str k, .int n => if n = 0 then (P.first k).map .str else none
    | _, _ => none)
noncomputable def evFrom (P : PI) (o lo : AV) (H : Hp) : Option (AV × Hp) :=
  match lo, obj P H o with
  | .int n, some (.list xs) => if 0 ≤ n ∧ xs.length ≤ 1000000 then some (.ref H.length, H ++ [.list (xs.drop n.toNat)]) else none
  | _, _ => none
noncomputable def evUpto (P : PI) (o hi : AV) (H : Hp) : Option (AV × Hp) :=
  match hi, obj P H o with
  | .int n, some (.list xs) => if 0 ≤ n ∧ xs.length ≤ 1000000 then some (.ref H.length, H ++ [.list (xs.take n.toNat)]) else none
  | _, _ => none
noncomputable def evRev (P : PI) (o : AV) (H : Hp) : Option (AV × Hp) :=
  match obj P H o with
  | some (.list xs) => if xs.length ≤ 1000000 then some (.ref H.length, H ++ [.list xs.reverse]) else none
  | _ => none
/-- tuples of a dict's pairs, laid one after the other -/
noncomputable def pairTups (es : List (Int × AV)) : List AO := es.map fun kv => .tup [.int kv.1, kv.2]
noncomputable def pairOf (P : PI) (H : Hp) (v : AV) : Option (Int × AV) :=
  match obj P H v with
  | some (.tup [.int k, x]) => some (k, x)
  | _ => none
noncomputable def evLen (P : PI) (v : AV) (H : Hp) : Option (AV × Hp) :=
  match obj P H v with
  | some (.list xs) => if xs.length ≤ 1000000 then some (.int xs.length, H) else none
  | _ => none
noncomputable def evInt (v : AV) (H : Hp) : Option (AV × Hp) :=
  match v with
  | .int i => some (.int i, H)
  | .bool b => some (.int (if b then 1 else 0), H)
  | _ => none
noncomputable def evCopy (P : PI) (v : AV) (H : Hp) : Option (AV × Hp) :=
  match obj P H v with
  | some (.list xs) => if xs.length ≤ 1000000 then some (.ref H.length, H ++ [.list xs]) else none
  | _ => none
noncomputable def evItems (P : PI) (v : AV) (H : Hp) : Option (AV × Hp) :=
  match obj P H v with
  | some (.dictI es) => if es.length ≤ 1000000 then some (.ref (H.length + es.length), H ++ (pairTups es ++ [.list ((List.range es.length).map fun j => .ref (H.length + j))])) else none
  | _ => none
noncomputable def evDict (P : PI) (v : AV) (H : Hp) : Option (AV × Hp) :=
  match obj P H v with
  | some (.dictI es) => if es.length ≤ 1000000 then some (.ref H.length, H ++ [.dictI es]) else none
  | some (.list xs) => match xs.mapM (pairOf P H) with
    | some kvs => if xs.length ≤ 1000000 then some (.ref H.length, H ++ [.dictI (kvs.foldl (fun es kv => putI es kv.1 kv.2) [])]) else none
    | none => none
  | _ => none
noncomputable def evMax (a b : AV) (H : Hp) : Option (AV × Hp) :=
  match a, b with
  | .int x, .int y => some (.int (max x y), H)
  | _, _ => none
noncomputable def evIsBool (v : AV) (H : Hp) : Option (AV × Hp) :=
  match v with
  | .bool _ => some (.bool true, H)
  | .str _ => some (.bool false, H)
  | _ => none
noncomputable def evPr (P : PI) (p : Pr) (vs : List AV) (H : Hp) : Option (AV × Hp) :=
  match vs with
  | [v] => (match p with
    | .len => evLen P v H
    | .int => evInt v H
    | .list => evCopy P v H
    | .items => evItems P v H
    | .dict => evDict P v H
    | .isbool => evIsBool v H
    | .max => none)
  | [v, w] => (match p with
    | .max => evMax v w H
    | _ => none)
  | _ => none
noncomputable def evAppend (o v : AV) (H : Hp) : Option (AV × Hp) :=
  match o with
  | .ref a => match H[a]? with
    | some (.list xs) => if xs.length ≤ 1000000 then some (.none, H.set a (.list (xs ++ [v]))) else none
    | _ => none
  | _ => none
noncomputable def evPop (o : AV) (H : Hp) : Option (AV × Hp) :=
  match o with
  | .ref a => match H[a]? with
    | some (.list xs) => if xs.length ≤ 1000000 then (match xs.getLast? with
      | some v => some (v, H.set a (.list xs.dropLast))
      | none => none) else none
    | _ => none
  | _ => none
noncomputable def evIndex (P : PI) (o v : AV) (H : Hp) : Option (AV × Hp) :=
  match obj P H o with
  | some (.list xs) => (match v with
    | .str k => if allStr xs && decide (xs.length ≤ 1000000) then (xs.findIdx? fun x => x = .str k).map fun (j : Nat) => (AV.int j, H) else none
    | _ => none)
  | _ => none
noncomputable def evGet (P : PI) (o k d : AV) (H : Hp) : Option (AV × Hp) :=
  match obj P H o with
  | some (.dictI es) => (match k with
    | .int k => some ((valI es k).getD d, H)
    | _ => none)
  | some (.dictS es) => (match k with
    | .str k => some ((valS es k).getD d, H)
    | _ => none)
  | _ => none
noncomputable def evBm (P : PI) (m : Bm) (o : AV) (vs : List AV) (H : Hp) : Option (AV × Hp) :=
  match vs with
  | [] => (match m with
    | .pop => evPop o H
    | _ => none)
  | [v] => (match m with
    | .append => evAppend o v H
    | .index => evIndex P o v H
    | .get => evGet P o v .none H
    | .pop => none)
  | [v, d] => (match m with
    | .get => evGet P o v d H
    | _ => none)
  | _ => none
/-- the receiver is of the kind that has the method -/
noncomputable def bmOk (P : PI) (m : Bm) (o : AV) (H : Hp) : Bool :=
  match m with
  | .get => (match obj P H o with
    | some (.dictI _) => true
    | some (.dictS _) => true
    | _ => false)
  | _ => (match obj P H o with
    | some (.list _) => true
    | _ => false)
noncomputable def evAttr (H : Hp) (o : AV) (a : Nat) : Option AV :=
  match o with
  | .ref x => match H[x]? with
    | some (.inst _ d) => match H[d]? with
      | some (.attrs es) => valS es a
      | _ => none
    | _ => none
  | _ => none
/-- the def that a method's name stands for, where no field hides it -/
noncomputable def evMeth (P : PI) (m : Nat) (o : AV) (H : Hp) : Option Nat :=
  match o with
  | .ref x => match H[x]? with
    | some (.inst c d) => match H[d]? with
      | some (.attrs es) => match valS es m with
        | none => P.meth c m
        | some _ => none
      | _ => none
    | _ => none
  | _ => none
noncomputable def oneRef (vs : List AV) : Option Nat := List.casesOn vs none fun v r => List.casesOn r (AV.casesOn v none (fun _ => none) (fun _ => none) (fun _ => none) (fun a => some a) (fun _ => none) none) fun _ _ => none
noncomputable def asI {β : Type} (v : AV) (k : Int → Option β) : Option β := AV.casesOn v none (fun _ => none) k (fun _ => none) (fun _ => none) (fun _ => none) none
/-- what a for walks over: the items (one list of values a turn) and what must stay as it is -/
noncomputable def evIter (_P : PI) (k : IK) (vs : List AV) (H : Hp) : Option (List (List AV) × Option (Nat × AO)) := IK.casesOn k
  ((oneRef vs).bind fun a => (H[a]?).bind fun o => AO.casesOn o (fun xs => some (xs.map fun x => [x], some (a, .list xs))) (fun xs => some (xs.map fun x => [x], some (a, .tup xs))) (fun _ => none) (fun _ => none) (fun _ => none) (fun _ _ => none))
  ((oneRef vs).bind fun a => (H[a]?).bind fun o => AO.casesOn o (fun _ => none) (fun _ => none) (fun es => some (es.map fun kv => [.int kv.1], some (a, .dictI es))) (fun _ => none) (fun _ => none) (fun _ _ => none))
  ((oneRef vs).bind fun a => (H[a]?).bind fun o => AO.casesOn o (fun xs => some (xs.zipIdx.map fun p => [.int p.2, p.1], some (a, .list xs))) (fun _ => none) (fun _ => none) (fun _ => none) (fun _ => none) (fun _ _ => none))
  (List.casesOn vs none fun u r => List.casesOn r (asI u fun b => bif small b then some ((List.range b.toNat).map fun (j : Nat) => [.int j], none) else none)
    fun v r2 => List.casesOn r2 (asI u fun a => asI v fun b => bif small a && small b then some ((List.range (b - a).toNat).map fun (j : Nat) => [.int (a + j)], none) else none) fun _ _ => none)
/-! the run, as what it must bring about: Q of what comes out -/
abbrev QV := AV → Hp → Prop
abbrev QL := List AV → Hp → Prop
abbrev Fun := Nat → List AV → Hp → QV → Prop
inductive TO (o : Option (AV × Hp)) (Q : QV) : Prop
  | mk (v : AV) (H : Hp) (h : o = some (v, H)) (q : Q v H) : TO o Q
inductive C (o : Option Bool) (Q : Bool → Prop) : Prop
  | mk (b : Bool) (h : o = some b) (q : Q b) : C o Q
structure T (c : QV → Prop) (Q : QV) : Prop where
  go : c Q
structure X (c : QL → QV → Prop) (A : QL) (R : QV) : Prop where
  go : c A R
/-- two ways -/
structure Br (b : Bool) (A B : Prop) : Prop where
  t : b = true → A
  f : b = false → B
noncomputable def asB (v : AV) (k : Bool → Prop) : Prop := AV.casesOn v False (fun p => k p) (fun _ => False) (fun _ => False) (fun _ => False) (fun _ => False) False
noncomputable def isUnb (v : AV) : Bool := AV.casesOn v false (fun _ => false) (fun _ => false) (fun _ => false) (fun _ => false) (fun _ => false) true
noncomputable def locQ (o : Option AV) (k : AV → Prop) : Prop := Option.casesOn o False fun v => Bool.casesOn (isUnb v) (k v) False
/-- the same; what is handed on is a constructor's -/
noncomputable def globQ (v : AV) (k : AV → Prop) : Prop := AV.casesOn v (k .none) (fun b => k (.bool b)) (fun i => k (.int i)) (fun s => k (.str s)) (fun a => k (.ref a)) (fun g => k (.st g)) False
noncomputable def kAnd (b : Hp → QV → Prop) (Q : QV) : QV := fun u H => asB u fun p => Br p (b H Q) (Q (.bool false) H)
noncomputable def kOr (b : Hp → QV → Prop) (Q : QV) : QV := fun u H => asB u fun p => Br p (Q (.bool true) H) (b H Q)
structure AndW (a : QV → Prop) (b : Hp → QV → Prop) (Q : QV) : Prop where
  go : a (kAnd b Q)
structure OrW (a : QV → Prop) (b : Hp → QV → Prop) (Q : QV) : Prop where
  go : a (kOr b Q)
noncomputable def kept (g : Option (Nat × AO)) (H : Hp) : Prop := Option.casesOn g True fun p => H[p.1]? = some p.2
-- what goes on behind a value
noncomputable def kBind (eb : Hp → QV → Prop) (f : AV → QV → QV) (Q : QV) : QV := fun u H => eb H (f u Q)
noncomputable def kBin (P : PI) (op : Op) (u : AV) (Q : QV) : QV := fun v H => TO (evBin P op u v H) Q
noncomputable def kBool (H : Hp) (Q : QV) : Bool → Prop := fun b => Q (.bool b) H
noncomputable def kCmp (P : PI) (op : Cm) (u : AV) (Q : QV) : QV := fun v H => C (evCmp P op u v H) (kBool H Q)
noncomputable def kIdx (P : PI) (u : AV) (Q : QV) : QV := fun v H => ∃ r, evIdx P u v H = some r ∧ Q r H
noncomputable def kFrom (P : PI) (u : AV) (Q : QV) : QV := fun v H => TO (evFrom P u v H) Q
noncomputable def kUpto (P : PI) (u : AV) (Q : QV) : QV := fun v H => TO (evUpto P u v H) Q
noncomputable def kRev (P : PI) (Q : QV) : QV := fun u H => TO (evRev P u H) Q
noncomputable def kAttr (a : Nat) (Q : QV) : QV := fun u H => ∃ v, evAttr H u a = some v ∧ Q v H
noncomputable def kNot (Q : QV) : QV := fun u H => asB u fun p => Q (.bool (!p)) H
noncomputable def kIf (a b : Hp → QV → Prop) (Q : QV) : QV := fun u H => asB u fun p => Br p (a H Q) (b H Q)
noncomputable def kList (Q : QV) : QL := fun vs H => Q (.ref H.length) (H ++ [.list vs])
noncomputable def kTup (Q : QV) : QL := fun vs H => Q (.ref H.length) (H ++ [.tup vs])
noncomputable def kDictS (ks : List Nat) (Q : QV) : QL := fun vs H => Q (.ref H.length) (H ++ [.dictS ((ks.zip vs).foldl (fun es kv => putS es kv.1 kv.2) [])])
noncomputable def kCall (g : List AV → Hp → QV → Prop) (Q : QV) : QL := fun vs H => T (g vs H) Q
noncomputable def kPr (P : PI) (p : Pr) (Q : QV) : QL := fun vs H => TO (evPr P p vs H) Q
noncomputable def kBm2 (P : PI) (m : Bm) (u : AV) (Q : QV) : QL := fun vs H => TO (evBm P m u vs H) Q
noncomputable def kBm (P : PI) (m : Bm) (es : Hp → QL → Prop) (Q : QV) : QV := fun u H => bmOk P m u H = true ∧ es H (kBm2 P m u Q)
noncomputable def kUm2 (g : List AV → Hp → QV → Prop) (u : AV) (Q : QV) : QL := fun vs H => T (g (u :: vs) H) Q
noncomputable def kUm (P : PI) (F : Fun) (m : Nat) (es : Hp → QL → Prop) (Q : QV) : QV := fun u H => ∃ f, evMeth P m u H = some f ∧ es H (kUm2 (F f) u Q)
noncomputable def kCons2 (v : AV) (Q : QL) : QL := fun vs H => Q (v :: vs) H
noncomputable def kCons (es : Hp → QL → Prop) (Q : QL) : QV := fun v H => es H (kCons2 v Q)
abbrev QO := Option AV → Hp → Prop
noncomputable def kSome (K : QO) : QV := fun v H => K (some v) H
noncomputable def kTest (r : Hp → QO → Prop) (K : QO) : QV := fun u H => asB u fun p => Br p (r H K) (K none H)
noncomputable def kOpt (ov : Option AV) (Q : QL) : QL := fun vs H => Q (ov.toList ++ vs) H
noncomputable def compL (g : Option (Nat × AO)) (step : List AV → Hp → QO → Prop) : List (List AV) → Hp → QL → Prop
  | [] => fun H Q => kept g H ∧ Q [] H
  | it :: r => fun H Q => kept g H ∧ step it H fun ov H1 => compL g step r H1 (kOpt ov Q)
noncomputable def kComp (P : PI) (k : IK) (step : List AV → Hp → QO → Prop) (Q : QV) : QL := fun vs H =>
  ∃ its g, evIter P k vs H = some (its, g) ∧ its.length ≤ 1000000 ∧ compL g step its H (kList Q)
mutual
noncomputable def ev (P : PI) (F : Fun) : E → List AV → Hp → QV → Prop
  | .lit v => fun _ H Q => Q v H
  | .loc i => fun ls H Q => locQ ls[i]? fun v => Q v H
  | .glob x => fun _ H Q => globQ (P.gval x) fun v => Q v H
  | .bin op a b => fun ls H Q => ev P F a ls H (kBind (ev P F b ls) (kBin P op) Q)
  | .cmp op a b => fun ls H Q => ev P F a ls H (kBind (ev P F b ls) (kCmp P op) Q)
  | .and a b => fun ls H Q => AndW (ev P F a ls H) (ev P F b ls) Q
  | .or a b => fun ls H Q => OrW (ev P F a ls H) (ev P F b ls) Q
  | .not a => fun ls H Q => ev P F a ls H (kNot Q)
  | .ite c a b => fun ls H Q => ev P F c ls H (kIf (ev P F a ls) (ev P F b ls) Q)
  | .list es => fun ls H Q => evs P F es ls H (kList Q)
  | .tup es => fun ls H Q => evs P F es ls H (kTup Q)
  | .dictI => fun _ H Q => Q (.ref H.length) (H ++ [.dictI []])
  | .dictS ks es => fun ls H Q => evs P F es ls H (kDictS ks Q)
  | .call f es => fun ls H Q => evs P F es ls H (kCall (F f) Q)
  | .prim p es => fun ls H Q => evs P F es ls H (kPr P p Q)
  | .bm m o es => fun ls H Q => ev P F o ls H (kBm P m (evs P F es ls) Q)
  | .um m o es => fun ls H Q => ev P F o ls H (kUm P F m (evs P F es ls) Q)
  | .attr o a => fun ls H Q => ev P F o ls H (kAttr a Q)
  | .idx o i => fun ls H Q => ev P F o ls H (kBind (ev P F i ls) (kIdx P) Q)
  | .from o i => fun ls H Q => ev P F o ls H (kBind (ev P F i ls) (kFrom P) Q)
  | .upto o i => fun ls H Q => ev P F o ls H (kBind (ev P F i ls) (kUpto P) Q)
  | .rev o => fun ls H Q => ev P F o ls H (kRev P Q)
  | .comp cap k src tn cond elt => fun ls H Q => ∃ cs, cap.mapM (fun i => ls[i]?) = some cs ∧
      evs P F src ls H (kComp P k (fun it H K => it.length = tn ∧ evTest P F cond (cs ++ it) H (fun H K => ev P F elt (cs ++ it) H (kSome K)) K) Q)
noncomputable def evTest (P : PI) (F : Fun) : List E → List AV → Hp → (Hp → QO → Prop) → QO → Prop
  | [] => fun _ H k K => k H K
  | c :: _ => fun ls H k K => ev P F c ls H (kTest k K)
noncomputable def evs (P : PI) (F : Fun) : List E → List AV → Hp → QL → Prop
  | [] => fun _ H Q => Q [] H
  | e :: r => fun ls H Q => ev P F e ls H (kCons (evs P F r ls) Q)
end
noncomputable def setAll : List Nat → List AV → List AV → List AV
  | i :: is, v :: vs, ls => setAll is vs (ls.set i v)
  | _, _, ls => ls
noncomputable def evSetI (o i v : AV) (H : Hp) : Option Hp :=
  match o, i with
  | .ref a, .int k => match H[a]? with
    | some (.dictI es) => if es.length ≤ 1000000 then some (H.set a (.dictI (putI es k v))) else none
    | _ => none
  | .ref a, .str k => match H[a]? with
    | some (.dictS es) => if es.length ≤ 1000000 then some (H.set a (.dictS (putS es k v))) else none
    | _ => none
  | _, _ => none
noncomputable def evSetA (o : AV) (a : Nat) (v : AV) (H : Hp) : Option Hp :=
  match o with
  | .ref x => match H[x]? with
    | some (.inst _ d) => match H[d]? with
      | some (.attrs es) => some (H.set d (.attrs (putS es a v)))
      | _ => none
    | _ => none
  | _ => none
noncomputable def forL (g : Option (Nat × AO)) (is : List Nat) (body : List AV → Hp → QL → QV → Prop) : List (List AV) → List AV → Hp → QL → QV → Prop
  | [] => fun ls H A _ => kept g H ∧ A ls H
  | it :: r => fun ls H A R => kept g H ∧ it.length = is.length ∧ body (setAll is it ls) H (fun ls1 H1 => forL g is body r ls1 H1 A R) R
noncomputable def kFr (P : PI) (is : List Nat) (k : IK) (body : List AV → Hp → QL → QV → Prop) (ls : List AV) (A : QL) (R : QV) : QL := fun vs H =>
  ∃ its g, evIter P k vs H = some (its, g) ∧ forL g is body its ls H A R
noncomputable def frW (P : PI) (is : List Nat) (k : IK) (src : List AV → Hp → QL → Prop) (body : List AV → Hp → QL → QV → Prop) (ls : List AV) (H : Hp) (A : QL) (R : QV) : Prop := src ls H (kFr P is k body ls A R)
noncomputable def kIff (a b : List AV → Hp → QL → QV → Prop) (ls : List AV) (A : QL) (R : QV) : QV := fun u H => asB u fun p => Br p (a ls H A R) (b ls H A R)
noncomputable def whL (c : List AV → Hp → QV → Prop) (body : List AV → Hp → QL → QV → Prop) : Nat → List AV → Hp → QL → QV → Prop
  | 0 => fun _ _ _ _ => False
  | n + 1 => fun ls H A R => c ls H (kIff (fun ls H A R => body ls H (fun ls1 H1 => whL c body n ls1 H1 A R) R) (fun ls H A _ => A ls H) ls A R)
noncomputable def kAsg (i : Nat) (ls : List AV) (A : QL) : QV := fun v H => A (ls.set i v) H
noncomputable def kAsgT (P : PI) (is : List Nat) (ls : List AV) (A : QL) : QV := fun v H => ∃ vs, obj P H v = some (.tup vs) ∧ vs.length = is.length ∧ A (setAll is vs ls) H
noncomputable def kPut3 (v u : AV) (K : Hp → Prop) : QV := fun k H => ∃ H4, evSetI u k v H = some H4 ∧ K H4
noncomputable def kPut2 (i : Hp → QV → Prop) (v : AV) (K : Hp → Prop) : QV := fun u H => i H (kPut3 v u K)
noncomputable def put (o i : Hp → QV → Prop) (v : AV) (K : Hp → Prop) (H : Hp) : Prop := o H (kPut2 i v K)
noncomputable def kPut (o i : Hp → QV → Prop) (K : Hp → Prop) : QV := fun v H => put o i v K H
noncomputable def kPutT (P : PI) (o1 i1 o2 i2 : Hp → QV → Prop) (K : Hp → Prop) : QV := fun t H => ∃ v1 v2, obj P H t = some (.tup [v1, v2]) ∧ put o1 i1 v1 (put o2 i2 v2 K) H
noncomputable def kSA2 (a : Nat) (v : AV) (K : Hp → Prop) : QV := fun u H => ∃ H3, evSetA u a v H = some H3 ∧ K H3
noncomputable def kSA (o : Hp → QV → Prop) (a : Nat) (K : Hp → Prop) : QV := fun v H => o H (kSA2 a v K)
noncomputable def kEx (K : Hp → Prop) : QV := fun _ H => K H
noncomputable def kSeq (r : List AV → Hp → QL → QV → Prop) (A : QL) (R : QV) : QL := fun ls H => r ls H A R
mutual
noncomputable def ex (P : PI) (F : Fun) (W : Nat) : S → List AV → Hp → QL → QV → Prop
  | .asg i e => fun ls H A _ => ev P F e ls H (kAsg i ls A)
  | .asgT is e => fun ls H A _ => ev P F e ls H (kAsgT P is ls A)
  | .setI o i e => fun ls H A _ => ev P F e ls H (kPut (ev P F o ls) (ev P F i ls) (A ls))
  | .setI2 o1 i1 o2 i2 e => fun ls H A _ => ev P F e ls H (kPutT P (ev P F o1 ls) (ev P F i1 ls) (ev P F o2 ls) (ev P F i2 ls) (A ls))
  | .setA o a e => fun ls H A _ => ev P F e ls H (kSA (ev P F o ls) a (A ls))
  | .ex e => fun ls H A _ => ev P F e ls H (kEx (A ls))
  | .iff c a b => fun ls H A R => ev P F c ls H (kIff (exs P F W a) (exs P F W b) ls A R)
  | .fr is k src body => fun ls H A R => X (frW P is k (evs P F src) (exs P F W body) ls H) A R
  | .wh c body => fun ls H A R => X (whL (ev P F c) (exs P F W body) W ls H) A R
  | .ret e => fun ls H _ R => ev P F e ls H R
noncomputable def exs (P : PI) (F : Fun) (W : Nat) : List S → List AV → Hp → QL → QV → Prop
  | [] => fun ls H A _ => A ls H
  | s :: r => fun ls H A R => ex P F W s ls H (kSeq (exs P F W r) A R) R
end
noncomputable def fillArgs (i : FnI) (args : List AV) : Option (List AV) :=
  let miss := i.nparams - args.length
  if args.length ≤ i.nparams ∧ miss ≤ i.defaults.length then
    some (args ++ i.defaults.drop (i.defaults.length - miss) ++ List.replicate (i.nslots - i.nparams) .unb)
  else none
noncomputable def kEnd (Q : QV) : QL := fun _ H => Q .none H
noncomputable def fnRun (P : PI) (F : Fun) (W : Nat) (i : FnI) (args : List AV) (H : Hp) (Q : QV) : Prop := ∃ ls, fillArgs i args = some ls ∧ exs P F W i.body ls H (kEnd Q) Q
noncomputable def kNew (a : Nat) (Q : QV) : QV := fun v H => v = .none ∧ Q (.ref a) H
noncomputable def run (P : PI) (W : Nat) : Nat → Fun
  | 0 => fun _ _ _ _ => False
  | d + 1 => fun f args H Q =>
    Option.casesOn (P.fn f) (Option.casesOn (P.cls f) False fun g => Option.casesOn (P.fn g) False fun i => fnRun P (run P W d) W i (.ref (H.length + 1) :: args) (H ++ [.attrs [], .inst f H.length]) (kNew (H.length + 1) Q))
      fun i => fnRun P (run P W d) W i args H Q
/-! equals, by cases -/
theorem no_some {α : Type} {r : α} {p : Prop} (h : none = some r) : p := by cases h
theorem no_num {n m : Nat} {p : Prop} (h : n = m) (d : Nat.beq n m = false) : p := by subst h; rw [Nat.beq_refl] at d; cases d
theorem eqAt_int (i : Int) : eqAt (.int i) (.int i) = some true := congrArg some (decide_eq_true rfl)
theorem eqAt_str (k : Nat) : eqAt (.str k) (.str k) = some true := congrArg some (decide_eq_true rfl)
theorem eq2_list {P : PI} {H : Hp} {u v : AV} {xs ys : List AV} (h1 : obj P H u = some (.list xs)) (h2 : obj P H v = some (.list ys)) : eq2 P H u v = if xs.length = ys.length then eqL xs ys else some false := by unfold eq2; rw [h1, h2]
theorem eq1_list {P : PI} {H : Hp} {u v : AV} {xs ys : List AV} (h1 : obj P H u = some (.list xs)) (h2 : obj P H v = some (.list ys)) : eq1 P H u v = if xs.length = ys.length then eqL xs ys else some false := by unfold eq1; rw [h1, h2]
theorem eq2_tup {P : PI} {H : Hp} {u v : AV} {xs ys : List AV} (h1 : obj P H u = some (.tup xs)) (h2 : obj P H v = some (.tup ys)) : eq2 P H u v = eq2L P H xs ys := by unfold eq2; rw [h1, h2]
theorem eq2_dict {P : PI} {H : Hp} {u v : AV} {es fs : List (Int × AV)} (h1 : obj P H u = some (.dictI es)) (h2 : obj P H v = some (.dictI fs)) : eq2 P H u v = eqDict es fs := by unfold eq2; rw [h1, h2]
inductive EqA : AV → AV → Bool → Prop
  | n : EqA .none .none true
  | i (a b : Int) : EqA (.int a) (.int b) (decide (a = b))
  | s (a b : Nat) : EqA (.str a) (.str b) (decide (a = b))
  | b (a b : Bool) : EqA (.bool a) (.bool b) (decide (a = b))
  | ni (a : Int) : EqA .none (.int a) false
  | in (a : Int) : EqA (.int a) .none false
  | ns (a : Nat) : EqA .none (.str a) false
  | sn (a : Nat) : EqA (.str a) .none false
theorem eqAt_inv {a b : AV} {r : Bool} (e : eqAt a b = some r) : EqA a b r := by
  cases a with
  | none => cases b with
    | none => cases e; exact .n
    | int i => cases e; exact .ni i
    | str i => cases e; exact .ns i
    | _ => exact no_some e
  | int i => cases b with
    | none => cases e; exact .in i
    | int j => cases e; exact .i i j
    | _ => exact no_some e
  | str i => cases b with
    | none => cases e; exact .sn i
    | str j => cases e; exact .s i j
    | _ => exact no_some e
  | bool i => cases b with
    | bool j => cases e; exact .b i j
    | _ => exact no_some e
  | _ => cases b <;> exact no_some e
inductive Eq1 (P : PI) (H : Hp) (a b : AV) (r : Bool) : Prop
  | list (xs ys : List AV) (h1 : obj P H a = some (.list xs)) (h2 : obj P H b = some (.list ys)) (e : (if xs.length = ys.length then eqL xs ys else some false) = some r)
  | one (e : eqAt a b = some r)
inductive Eq2 (P : PI) (H : Hp) (a b : AV) (r : Bool) : Prop
  | tup (xs ys : List AV) (h1 : obj P H a = some (.tup xs)) (h2 : obj P H b = some (.tup ys)) (e : eq2L P H xs ys = some r)
  | dict (es fs : List (Int × AV)) (h1 : obj P H a = some (.dictI es)) (h2 : obj P H b = some (.dictI fs)) (e : eqDict es fs = some r)
  | list (xs ys : List AV) (h1 : obj P H a = some (.list xs)) (h2 : obj P H b = some (.list ys)) (e : (if xs.length = ys.length then eqL xs ys else some false) = some r)
  | one (e : eqAt a b = some r)
theorem eq1_inv {P : PI} {H : Hp} {a b : AV} {r : Bool} (e : eq1 P H a b = some r) : Eq1 P H a b r := by
  unfold eq1 at e
  generalize h1 : obj P H a = o1 at e
  generalize h2 : obj P H b = o2 at e
  cases o1 with
  | none => cases o2 with
    | none => exact .one e
    | some _ => exact no_some e
  | some x => cases o2 with
    | none => cases x <;> exact no_some e
    | some y => cases x with
      | list xs => cases y with
        | list ys => exact .list xs ys h1 h2 e
        | _ => exact no_some e
      | _ => exact no_some e
theorem eq2_inv {P : PI} {H : Hp} {a b : AV} {r : Bool} (e : eq2 P H a b = some r) : Eq2 P H a b r := by
  unfold eq2 at e
  generalize h1 : obj P H a = o1 at e
  generalize h2 : obj P H b = o2 at e
  cases o1 with
  | none => cases o2 with
    | none => exact .one e
    | some _ => exact no_some e
  | some x => cases o2 with
    | none => cases x <;> exact no_some e
    | some y => cases x with
      | list xs => cases y with
        | list ys => exact .list xs ys h1 h2 e
        | _ => exact no_some e
      | tup xs => cases y with
        | tup ys => exact .tup xs ys h1 h2 e
        | _ => exact no_some e
      | dictI xs => cases y with
        | dictI ys => exact .dict xs ys h1 h2 e
        | _ => exact no_some e
      | _ => exact no_some e
end Mine
end
-- A2
section
set_option tactic.hygienic false
set_option maxRecDepth 20000
namespace Mine
noncomputable def look {α : Type} : List (Nat × α) → Nat → Option α
  | [], _ => none
  | (k, v) :: r, n => cond (Nat.beq k n) (some v) (look r n)
-- slots of bidi_kinds: 0=text 1=data
noncomputable def b_bidi_kinds : List S := [(.ret (.comp [1] .seq [(.loc 0)] 1 [] (.um 20 (.loc 0) [(.lit (.str 19)), (.loc 1)])))]
-- slots of isolate_pairs: 0=kinds 1=found 2=waiting 3=at 4=kind 5=begin
noncomputable def b_isolate_pairs : List S := [(.asg 1 .dictI),
  (.asg 2 (.list [])),
  (.fr [3, 4] .enum [(.loc 0)] [(.iff (.cmp .inn (.loc 4) (.glob 22)) [(.ex (.bm .append (.loc 2) [(.loc 3)]))] [(.iff (.and (.cmp .eq (.loc 4) (.lit (.str 5))) (.cmp .ne (.loc 2) (.list []))) [(.asg 5 (.bm .pop (.loc 2) [])),
  (.setI (.loc 1) (.loc 5) (.loc 3)),
  (.setI (.loc 1) (.loc 3) (.loc 5))] [(.iff (.cmp .eq (.loc 4) (.glob 23)) [(.asg 2 (.list []))] [])])])]),
  (.ret (.loc 1))]
-- slots of bidi_first_strong: 0=kinds 1=begin 2=end 3=pairs 4=at 5=kind
noncomputable def b_bidi_first_strong : List S := [(.asg 4 (.loc 1)),
  (.wh (.cmp .lt (.loc 4) (.loc 2)) [(.asg 5 (.idx (.loc 0) (.loc 4))),
  (.iff (.cmp .inn (.loc 5) (.glob 25)) [(.ret (.loc 5))] []),
  (.iff (.cmp .eq (.loc 5) (.glob 23)) [(.ret (.lit .none))] []),
  (.iff (.cmp .inn (.loc 5) (.glob 22)) [(.iff (.cmp .nin (.loc 4) (.loc 3)) [(.ret (.lit .none))] []),
  (.asg 4 (.idx (.loc 3) (.loc 4)))] []),
  (.asg 4 (.bin .add (.loc 4) (.lit (.int 1))))]),
  (.ret (.lit .none))]
-- slots of base_level: 0=text 1=data 2=word
noncomputable def b_base_level : List S := [(.ret (.call 27 [(.call 21 [(.loc 0), (.loc 1)]), (.loc 2)]))]
-- slots of bidi_base: 0=kinds 1=word 2=strong
noncomputable def b_bidi_base : List S := [(.iff (.or (.cmp .eq (.loc 1) (.lit (.str 30))) (.cmp .eq (.loc 1) (.lit (.str 31)))) [(.ret (.ite (.cmp .eq (.loc 1) (.lit (.str 30))) (.lit (.int 0)) (.lit (.int 1))))] []),
  (.asg 2 (.call 26 [(.loc 0), (.lit (.int 0)), (.prim .len [(.loc 0)]), (.call 24 [(.loc 0)])])),
  (.iff (.cmp .isN (.loc 2) (.lit .none)) [(.ret (.ite (.cmp .eq (.loc 1) (.lit (.str 32))) (.lit (.int 1)) (.lit (.int 0))))] []),
  (.ret (.ite (.cmp .eq (.loc 2) (.lit (.str 2))) (.lit (.int 0)) (.lit (.int 1))))]
-- slots of BidiEntry.__init__: 0=self 1=level 2=override 3=is_isolate
noncomputable def b_BidiEntry___init__ : List S := [(.setA (.loc 0) 33 (.loc 1)),
  (.setA (.loc 0) 34 (.loc 2)),
  (.setA (.loc 0) 35 (.loc 3))]
-- slots of BidiStack.__init__: 0=self 1=base 2=depth
noncomputable def b_BidiStack___init__ : List S := [(.setA (.loc 0) 37 (.loc 2)),
  (.setA (.loc 0) 38 (.list [(.call 39 [(.loc 1), (.lit .none), (.lit (.bool false))])])),
  (.setA (.loc 0) 40 (.lit (.int 0))),
  (.setA (.loc 0) 41 (.lit (.int 0))),
  (.setA (.loc 0) 42 (.lit (.int 0)))]
-- slots of BidiStack.last: 0=self
noncomputable def b_BidiStack_last : List S := [(.ret (.idx (.attr (.loc 0) 38) (.lit (.int (-1)))))]
-- slots of BidiStack.further: 0=self 1=is_right 2=level
noncomputable def b_BidiStack_further : List S := [(.asg 2 (.attr (.um 45 (.loc 0) []) 33)),
  (.iff (.loc 1) [(.ret (.bin .add (.bin .add (.loc 2) (.lit (.int 1))) (.bin .mod (.loc 2) (.lit (.int 2)))))] []),
  (.ret (.bin .sub (.bin .add (.loc 2) (.lit (.int 2))) (.bin .mod (.loc 2) (.lit (.int 2)))))]
-- slots of BidiStack.is_free: 0=self 1=level
noncomputable def b_BidiStack_is_free : List S := [(.ret (.and (.cmp .le (.loc 1) (.attr (.loc 0) 37)) (.and (.cmp .eq (.attr (.loc 0) 40) (.lit (.int 0))) (.cmp .eq (.attr (.loc 0) 41) (.lit (.int 0))))))]
-- slots of BidiStack.embed: 0=self 1=is_right 2=override 3=level
noncomputable def b_BidiStack_embed : List S := [(.asg 3 (.um 48 (.loc 0) [(.loc 1)])),
  (.iff (.um 49 (.loc 0) [(.loc 3)]) [(.ex (.bm .append (.attr (.loc 0) 38) [(.call 39 [(.loc 3), (.loc 2), (.lit (.bool false))])]))] [(.iff (.cmp .eq (.attr (.loc 0) 40) (.lit (.int 0))) [(.setA (.loc 0) 41 (.bin .add (.attr (.loc 0) 41) (.lit (.int 1))))] [])])]
-- slots of BidiStack.isolate: 0=self 1=is_right 2=level
noncomputable def b_BidiStack_isolate : List S := [(.asg 2 (.um 48 (.loc 0) [(.loc 1)])),
  (.iff (.um 49 (.loc 0) [(.loc 2)]) [(.setA (.loc 0) 42 (.bin .add (.attr (.loc 0) 42) (.lit (.int 1)))),
  (.ex (.bm .append (.attr (.loc 0) 38) [(.call 39 [(.loc 2), (.lit .none), (.lit (.bool true))])]))] [(.setA (.loc 0) 40 (.bin .add (.attr (.loc 0) 40) (.lit (.int 1))))])]
-- slots of BidiStack.end_isolate: 0=self
noncomputable def b_BidiStack_end_isolate : List S := [(.iff (.cmp .gt (.attr (.loc 0) 40) (.lit (.int 0))) [(.setA (.loc 0) 40 (.bin .sub (.attr (.loc 0) 40) (.lit (.int 1))))] [(.iff (.cmp .gt (.attr (.loc 0) 42) (.lit (.int 0))) [(.setA (.loc 0) 41 (.lit (.int 0))),
  (.wh (.not (.attr (.um 45 (.loc 0) []) 35)) [(.ex (.bm .pop (.attr (.loc 0) 38) []))]),
  (.ex (.bm .pop (.attr (.loc 0) 38) [])),
  (.setA (.loc 0) 42 (.bin .sub (.attr (.loc 0) 42) (.lit (.int 1))))] [])])]
-- slots of BidiStack.end_embedding: 0=self
noncomputable def b_BidiStack_end_embedding : List S := [(.iff (.cmp .gt (.attr (.loc 0) 40) (.lit (.int 0))) [(.ret (.lit .none))] []),
  (.iff (.cmp .gt (.attr (.loc 0) 41) (.lit (.int 0))) [(.setA (.loc 0) 41 (.bin .sub (.attr (.loc 0) 41) (.lit (.int 1))))] [(.iff (.and (.not (.attr (.um 45 (.loc 0) []) 35)) (.cmp .gt (.prim .len [(.attr (.loc 0) 38)]) (.lit (.int 1)))) [(.ex (.bm .pop (.attr (.loc 0) 38) []))] [])])]
-- slots of explicit: 0=kinds 1=base 2=depth 3=stack 4=pairs 5=levels 6=classes 7=at 8=kind 9=is_right 10=override 11=entry
noncomputable def b_explicit : List S := [(.asg 3 (.call 54 [(.loc 1), (.loc 2)])),
  (.asg 4 (.call 24 [(.loc 0)])),
  (.asg 5 (.list [])),
  (.asg 6 (.list [])),
  (.fr [7, 8] .enum [(.loc 0)] [(.iff (.cmp .inn (.loc 8) (.glob 55)) [(.ex (.bm .append (.loc 5) [(.lit .none)])),
  (.ex (.bm .append (.loc 6) [(.lit (.str 14))])),
  (.iff (.cmp .inn (.loc 8) (.glob 56)) [(.asg 9 (.or (.cmp .eq (.loc 8) (.lit (.str 11))) (.cmp .eq (.loc 8) (.lit (.str 6))))),
  (.asg 10 (.ite (.or (.cmp .eq (.loc 8) (.lit (.str 6))) (.cmp .eq (.loc 8) (.lit (.str 12)))) (.ite (.loc 9) (.lit (.str 4)) (.lit (.str 2))) (.lit .none))),
  (.ex (.um 57 (.loc 3) [(.loc 9), (.loc 10)]))] [(.iff (.cmp .eq (.loc 8) (.lit (.str 1))) [(.ex (.um 58 (.loc 3) []))] [])])] [(.iff (.cmp .eq (.loc 8) (.glob 23)) [(.ex (.bm .append (.loc 5) [(.loc 1)])),
  (.ex (.bm .append (.loc 6) [(.loc 8)]))] [(.iff (.cmp .eq (.loc 8) (.lit (.str 5))) [(.ex (.um 59 (.loc 3) []))] []),
  (.asg 11 (.um 45 (.loc 3) [])),
  (.ex (.bm .append (.loc 5) [(.attr (.loc 11) 33)])),
  (.ex (.bm .append (.loc 6) [(.ite (.cmp .notN (.attr (.loc 11) 34) (.lit .none)) (.attr (.loc 11) 34) (.loc 8))])),
  (.iff (.cmp .inn (.loc 8) (.glob 22)) [(.ex (.um 61 (.loc 3) [(.call 60 [(.loc 0), (.loc 7), (.loc 4)])]))] [])])])]),
  (.ret (.tup [(.loc 5), (.loc 6)]))]
-- slots of bidi_is_right_isolate: 0=kinds 1=at 2=pairs 3=strong
noncomputable def b_bidi_is_right_isolate : List S := [(.iff (.cmp .ne (.idx (.loc 0) (.loc 1)) (.lit (.str 8))) [(.ret (.cmp .eq (.idx (.loc 0) (.loc 1)) (.lit (.str 0))))] []),
  (.asg 3 (.call 26 [(.loc 0), (.bin .add (.loc 1) (.lit (.int 1))), (.bm .get (.loc 2) [(.loc 1), (.prim .len [(.loc 0)])]), (.loc 2)])),
  (.ret (.or (.cmp .eq (.loc 3) (.lit (.str 4))) (.cmp .eq (.loc 3) (.lit (.str 9)))))]
-- slots of place_by_half: 0=firsts 1=number 2=low 3=high 4=middle
noncomputable def b_place_by_half : List S := [(.asg 2 (.lit (.int 0))),
  (.asg 3 (.prim .len [(.loc 0)])),
  (.wh (.cmp .lt (.loc 2) (.loc 3)) [(.asg 4 (.bin .fdiv (.bin .add (.loc 2) (.loc 3)) (.lit (.int 2)))),
  (.iff (.cmp .le (.idx (.loc 0) (.loc 4)) (.loc 1)) [(.asg 2 (.bin .add (.loc 4) (.lit (.int 1))))] [(.asg 3 (.loc 4))])]),
  (.ret (.bin .sub (.loc 2) (.lit (.int 1))))]
-- slots of range_are_like: 0=one 1=other
noncomputable def b_range_are_like : List S := [(.ret (.and (.cmp .eq (.loc 0) (.loc 1)) (.cmp .eq (.prim .isbool [(.loc 0)]) (.prim .isbool [(.loc 1)]))))]
-- slots of RangeMap.__init__: 0=self 1=default
noncomputable def b_RangeMap___init__ : List S := [(.setA (.loc 0) 66 (.loc 1)),
  (.setA (.loc 0) 67 (.list [(.lit (.int 0))])),
  (.setA (.loc 0) 68 (.list [(.loc 1)]))]
-- slots of RangeMap.get: 0=self 1=code
noncomputable def b_RangeMap_get : List S := [(.ret (.idx (.attr (.loc 0) 68) (.call 63 [(.attr (.loc 0) 67), (.loc 1)])))]
-- slots of RangeMap.put: 0=self 1=first 2=last 3=value 4=low 5=high 6=behind 7=starts 8=values
noncomputable def b_RangeMap_put : List S := [(.iff (.cmp .gt (.loc 1) (.loc 2)) [(.ret (.lit .none))] []),
  (.asg 4 (.bin .add (.call 63 [(.attr (.loc 0) 67), (.bin .sub (.loc 1) (.lit (.int 1)))]) (.lit (.int 1)))),
  (.asg 5 (.bin .add (.call 63 [(.attr (.loc 0) 67), (.bin .add (.loc 2) (.lit (.int 1)))]) (.lit (.int 1)))),
  (.asg 6 (.idx (.attr (.loc 0) 68) (.bin .sub (.loc 5) (.lit (.int 1))))),
  (.asgT [7, 8] (.tup [(.list [(.loc 1)]), (.list [(.loc 3)])])),
  (.iff (.and (.cmp .lt (.loc 2) (.glob 71)) (.not (.call 65 [(.loc 6), (.loc 3)]))) [(.ex (.bm .append (.loc 7) [(.bin .add (.loc 2) (.lit (.int 1)))])),
  (.ex (.bm .append (.loc 8) [(.loc 6)]))] []),
  (.iff (.and (.cmp .gt (.loc 4) (.lit (.int 0))) (.call 65 [(.idx (.attr (.loc 0) 68) (.bin .sub (.loc 4) (.lit (.int 1)))), (.loc 3)])) [(.asgT [7, 8] (.tup [(.from (.loc 7) (.lit (.int 1))), (.from (.loc 8) (.lit (.int 1)))]))] []),
  (.setA (.loc 0) 67 (.bin .add (.bin .add (.upto (.attr (.loc 0) 67) (.loc 4)) (.loc 7)) (.from (.attr (.loc 0) 67) (.loc 5)))),
  (.setA (.loc 0) 68 (.bin .add (.bin .add (.upto (.attr (.loc 0) 68) (.loc 4)) (.loc 8)) (.from (.attr (.loc 0) 68) (.loc 5))))]
-- slots of data_defaults: 0=found 1=name
noncomputable def b_data_defaults : List S := [(.asg 0 (.dictS [73, 74, 19, 75, 76, 77, 78, 79] [(.lit (.str 80)), (.lit (.int 0)), (.lit (.str 2)), (.lit (.str 81)), (.lit (.str 82)), (.lit (.str 83)), (.lit (.str 84)), (.lit (.str 85))])),
  (.fr [1] .seq [(.tup [(.lit (.str 86)), (.lit (.str 87)), (.lit (.str 88))])] [(.setI (.loc 0) (.loc 1) (.lit (.str 89)))]),
  (.fr [1] .seq [(.tup [(.lit (.str 90)), (.lit (.str 91)), (.lit (.str 92)), (.lit (.str 93)), (.lit (.str 94)), (.lit (.str 95)), (.lit (.str 96)), (.lit (.str 97)), (.lit (.str 98)), (.lit (.str 99)), (.lit (.str 100)), (.lit (.str 101)), (.lit (.str 102))])] [(.setI (.loc 0) (.loc 1) (.lit (.bool false)))]),
  (.fr [1] .seq [(.tup [(.lit (.str 103)), (.lit (.str 104)), (.lit (.str 105)), (.lit (.str 106)), (.lit (.str 107)), (.lit (.str 108)), (.lit (.str 109)), (.lit (.str 110)), (.lit (.str 111)), (.lit (.str 112)), (.lit (.str 113)), (.lit (.str 114)), (.lit (.str 115))])] [(.setI (.loc 0) (.loc 1) (.lit .none))]),
  (.fr [1] .seq [(.tup [(.lit (.str 116)), (.lit (.str 117)), (.lit (.str 118)), (.lit (.str 119))])] [(.setI (.loc 0) (.loc 1) (.tup []))]),
  (.setI (.loc 0) (.lit (.str 120)) (.tup [(.lit (.str 121)), (.tup [])])),
  (.ret (.loc 0))]
-- slots of Data.__init__: 0=self
noncomputable def b_Data___init__ : List S := [(.setA (.loc 0) 123 (.call 122 [])),
  (.setA (.loc 0) 124 (.dictS [] [])),
  (.setA (.loc 0) 125 (.dictS [] [])),
  (.setA (.loc 0) 126 (.dictS [] []))]
-- slots of Data.put: 0=self 1=name 2=first 3=last 4=value
noncomputable def b_Data_put : List S := [(.ex (.um 128 (.um 129 (.loc 0) [(.loc 1)]) [(.loc 2), (.loc 3), (.loc 4)]))]
-- slots of Data.get: 0=self 1=name 2=code
noncomputable def b_Data_get : List S := [(.iff (.cmp .inn (.loc 1) (.attr (.loc 0) 124)) [(.ret (.um 20 (.idx (.attr (.loc 0) 124) (.loc 1)) [(.loc 2)]))] []),
  (.ret (.bm .get (.attr (.loc 0) 123) [(.loc 1)]))]
-- slots of Data.map_of: 0=self 1=name
noncomputable def b_Data_map_of : List S := [(.iff (.cmp .nin (.loc 1) (.attr (.loc 0) 124)) [(.setI (.attr (.loc 0) 124) (.loc 1) (.call 132 [(.bm .get (.attr (.loc 0) 123) [(.loc 1)])]))] []),
  (.ret (.idx (.attr (.loc 0) 124) (.loc 1)))]
-- slots of _law_opens: 
noncomputable def b__law_opens : List S := [(.ret (.list [(.lit (.str 7)), (.lit (.str 0)), (.lit (.str 8))]))]
-- slots of _law_deck: 0=script
noncomputable def b__law_deck : List S := [(.ret (.dictS [135, 136] [(.comp [] .seq [(.upto (.loc 0) (.lit (.int 40)))] 1 [] (.bin .mod (.prim .int [(.loc 0)]) (.lit (.int 1000000007)))), (.lit (.int 0))]))]
-- slots of _law_draw: 0=deck 1=below 2=at 3=cells
noncomputable def b__law_draw : List S := [(.asgT [2, 3] (.tup [(.idx (.loc 0) (.lit (.str 136))), (.idx (.loc 0) (.lit (.str 135)))])),
  (.setI (.loc 0) (.lit (.str 136)) (.bin .add (.loc 2) (.lit (.int 1)))),
  (.iff (.cmp .lt (.loc 2) (.prim .len [(.loc 3)])) [(.ret (.bin .mod (.idx (.loc 3) (.loc 2)) (.loc 1)))] []),
  (.iff (.cmp .eq (.loc 3) (.list [])) [(.ret (.bin .mod (.bin .add (.bin .mul (.loc 2) (.lit (.int 7))) (.bin .fdiv (.loc 2) (.lit (.int 3)))) (.loc 1)))] []),
  (.ret (.bin .mod (.bin .add (.bin .fdiv (.idx (.loc 3) (.bin .mod (.loc 2) (.prim .len [(.loc 3)]))) (.bin .add (.loc 2) (.lit (.int 1)))) (.bin .mul (.loc 2) (.lit (.int 5)))) (.loc 1)))]
-- slots of _law_first: 0=kinds 1=at 2=is_inside 3=deep 4=kind
noncomputable def b__law_first : List S := [(.asg 3 (.lit (.int 0))),
  (.fr [4] .seq [(.from (.loc 0) (.loc 1))] [(.iff (.or (.cmp .eq (.loc 4) (.lit (.str 16))) (.and (.cmp .eq (.loc 4) (.lit (.str 5))) (.and (.cmp .eq (.loc 3) (.lit (.int 0))) (.loc 2)))) [(.ret (.lit .none))] []),
  (.iff (.cmp .inn (.loc 4) (.call 134 [])) [(.asg 3 (.bin .add (.loc 3) (.lit (.int 1))))] [(.iff (.cmp .eq (.loc 4) (.lit (.str 5))) [(.asg 3 (.prim .max [(.lit (.int 0)), (.bin .sub (.loc 3) (.lit (.int 1)))]))] [(.iff (.and (.cmp .eq (.loc 3) (.lit (.int 0))) (.cmp .inn (.loc 4) (.tup [(.lit (.str 2)), (.lit (.str 4)), (.lit (.str 9))]))) [(.ret (.loc 4))] [])])])]),
  (.ret (.lit .none))]
-- slots of _law_now: 0=frames 1=base 2=frame
noncomputable def b__law_now : List S := [(.fr [2] .seq [(.rev (.loc 0))] [(.iff (.not (.idx (.loc 2) (.lit (.int 3)))) [(.ret (.tup [(.idx (.loc 2) (.lit (.int 0))), (.idx (.loc 2) (.lit (.int 1)))]))] [])]),
  (.ret (.tup [(.loc 1), (.lit (.str 17))]))]
-- slots of _law_frame: 0=frames 1=level 2=is_right 3=depth 4=over 5=is_isolate 6=fresh
noncomputable def b__law_frame : List S := [(.asg 6 (.ite (.cmp .eq (.cmp .eq (.bin .mod (.loc 1) (.lit (.int 2))) (.lit (.int 0))) (.loc 2)) (.bin .add (.loc 1) (.lit (.int 1))) (.bin .add (.loc 1) (.lit (.int 2))))),
  (.ret (.tup [(.loc 6), (.loc 4), (.loc 5), (.or (.cmp .gt (.loc 6) (.loc 3)) (.and (.cmp .ne (.loc 0) (.list [])) (.idx (.idx (.loc 0) (.lit (.int (-1)))) (.lit (.int 3)))))]))]
-- slots of _law_explicit: 0=kinds 1=base 2=depth 3=frames 4=levels 5=classes 6=at 7=kind 8=level 9=over 10=turned 11=strong 12=spots
noncomputable def b__law_explicit : List S := [(.asgT [3, 4, 5] (.tup [(.list []), (.list []), (.list [])])),
  (.fr [6, 7] .enum [(.loc 0)] [(.asgT [8, 9] (.call 140 [(.loc 3), (.loc 1)])),
  (.iff (.cmp .inn (.loc 7) (.tup [(.lit (.str 11)), (.lit (.str 3)), (.lit (.str 6)), (.lit (.str 12))])) [(.asg 10 (.bm .get (.dictS [6, 12] [(.lit (.str 4)), (.lit (.str 2))]) [(.loc 7), (.lit (.str 17))])),
  (.ex (.bm .append (.loc 3) [(.call 141 [(.loc 3), (.loc 8), (.cmp .eq (.idx (.loc 7) (.lit (.int 0))) (.lit (.str 4))), (.loc 2), (.loc 10), (.lit (.bool false))])])),
  (.asgT [8, 9] (.tup [(.lit .none), (.lit (.str 14))]))] [(.iff (.cmp .inn (.loc 7) (.call 134 [])) [(.asg 11 (.ite (.cmp .eq (.loc 7) (.lit (.str 8))) (.call 139 [(.loc 0), (.bin .add (.loc 6) (.lit (.int 1))), (.lit (.bool true))]) (.idx (.loc 7) (.lit (.int 0))))),
  (.ex (.bm .append (.loc 3) [(.call 141 [(.loc 3), (.loc 8), (.cmp .inn (.loc 11) (.tup [(.lit (.str 4)), (.lit (.str 9))])), (.loc 2), (.lit (.str 17)), (.lit (.bool true))])]))] [(.iff (.cmp .eq (.loc 7) (.lit (.str 5))) [(.asg 12 (.comp [] .enum [(.loc 3)] 2 [(.idx (.loc 1) (.lit (.int 2)))] (.loc 0))),
  (.asg 3 (.ite (.cmp .ne (.loc 12) (.list [])) (.upto (.loc 3) (.idx (.loc 12) (.lit (.int (-1))))) (.loc 3))),
  (.asgT [8, 9] (.call 140 [(.loc 3), (.loc 1)]))] [(.iff (.or (.cmp .eq (.loc 7) (.lit (.str 1))) (.cmp .eq (.loc 7) (.lit (.str 14)))) [(.iff (.and (.cmp .eq (.loc 7) (.lit (.str 1))) (.and (.cmp .ne (.loc 3) (.list [])) (.not (.idx (.idx (.loc 3) (.lit (.int (-1)))) (.lit (.int 2)))))) [(.ex (.bm .pop (.loc 3) []))] []),
  (.asgT [8, 9] (.tup [(.lit .none), (.lit (.str 14))]))] [(.iff (.cmp .eq (.loc 7) (.lit (.str 16))) [(.asgT [8, 9] (.tup [(.loc 1), (.lit (.str 16))]))] [])])])])]),
  (.ex (.bm .append (.loc 4) [(.loc 8)])),
  (.ex (.bm .append (.loc 5) [(.ite (.cmp .ne (.loc 9) (.lit (.str 17))) (.loc 9) (.loc 7))]))]),
  (.ret (.tup [(.loc 4), (.loc 5)]))]
-- slots of _law_pairs: 0=kinds 1=found 2=at 3=kind 4=deep 5=far
noncomputable def b__law_pairs : List S := [(.asg 1 .dictI),
  (.fr [2, 3] .enum [(.loc 0)] [(.asg 4 (.ite (.cmp .inn (.loc 3) (.call 134 [])) (.lit (.int 1)) (.lit (.int 0)))),
  (.fr [5] .rng [(.bin .add (.loc 2) (.lit (.int 1))), (.prim .len [(.loc 0)])] [(.iff (.cmp .gt (.loc 4) (.lit (.int 0))) [(.asg 4 (.bin .sub (.bin .add (.loc 4) (.prim .int [(.cmp .inn (.idx (.loc 0) (.loc 5)) (.call 134 []))])) (.prim .int [(.cmp .eq (.idx (.loc 0) (.loc 5)) (.lit (.str 5)))]))),
  (.iff (.cmp .eq (.loc 4) (.lit (.int 0))) [(.setI2 (.loc 1) (.loc 2) (.loc 1) (.loc 5) (.tup [(.loc 5), (.loc 2)]))] [])] [])])]),
  (.ret (.loc 1))]
-- slots of _law_deep_right: 0=deck 1=base 2=kinds 3=levels 4=classes
noncomputable def b__law_deep_right : List S := [(.asg 1 (.call 138 [(.loc 0), (.lit (.int 2))])),
  (.asg 2 (.bin .add (.bin .mul (.upto (.from (.list [(.lit (.str 11)), (.lit (.str 7))]) (.call 138 [(.loc 0), (.lit (.int 2))])) (.lit (.int 1))) (.bin .add (.lit (.int 60)) (.call 138 [(.loc 0), (.lit (.int 8))]))) (.list [(.lit (.str 2)), (.lit (.str 5)), (.lit (.str 4))]))),
  (.asgT [3, 4] (.call 62 [(.prim .list [(.loc 2)]), (.loc 1)])),
  (.ret (.cmp .eq (.tup [(.prim .list [(.loc 3)]), (.prim .list [(.loc 4)])]) (.call 142 [(.loc 2), (.loc 1), (.lit (.int 125))])))]
-- slots of law: 0=script 1=deck 2=kinds 3=base 4=depth 5=levels 6=classes 7=pairs 8=more 9=due 10=data 11=known 12=number 13=kind 14=text 15=strong 16=word
noncomputable def b_law : List S := [(.asg 1 (.call 137 [(.loc 0)])),
  (.iff (.cmp .eq (.call 138 [(.loc 1), (.lit (.int 16))]) (.lit (.int 11))) [(.ret (.call 144 [(.loc 1)]))] []),
  (.asg 2 (.comp [1] .rng [(.call 138 [(.loc 1), (.lit (.int 12))])] 1 [] (.idx (.glob 145) (.call 138 [(.loc 0), (.lit (.int 17))])))),
  (.asgT [3, 4] (.tup [(.call 138 [(.loc 1), (.lit (.int 2))]), (.idx (.list [(.lit (.int 1)), (.lit (.int 2)), (.lit (.int 3)), (.lit (.int 4)), (.lit (.int 5)), (.lit (.int 125))]) (.call 138 [(.loc 1), (.lit (.int 6))]))])),
  (.iff (.cmp .eq (.call 138 [(.loc 1), (.lit (.int 5))]) (.lit (.int 1))) [(.ex (.bm .append (.loc 2) [(.lit (.str 16))]))] []),
  (.asgT [5, 6] (.call 62 [(.prim .list [(.loc 2)]), (.loc 3), (.loc 4)])),
  (.iff (.cmp .ne (.tup [(.prim .list [(.loc 5)]), (.prim .list [(.loc 6)])]) (.call 142 [(.loc 2), (.loc 3), (.loc 4)])) [(.ret (.lit (.bool false)))] []),
  (.asgT [7, 8] (.tup [(.call 143 [(.loc 2)]), (.bin .add (.prim .len [(.loc 2)]) (.lit (.int 1)))])),
  (.asg 9 (.prim .dict [(.bin .add (.prim .items [(.loc 7)]) (.comp [8, 7] .keys [(.loc 7)] 1 [] (.tup [(.bin .addi (.loc 2) (.loc 0)), (.bin .addi (.idx (.loc 1) (.loc 2)) (.loc 0))])))])),
  (.iff (.or (.cmp .ne (.prim .dict [(.call 24 [(.bin .add (.bin .add (.loc 2) (.list [(.lit (.str 16))])) (.loc 2))])]) (.loc 9)) (.cmp .ne (.prim .dict [(.call 24 [(.prim .list [(.loc 2)])])]) (.loc 7))) [(.ret (.lit (.bool false)))] []),
  (.asgT [10, 11] (.tup [(.call 146 []), (.bin .add (.upto (.glob 145) (.lit (.int 16))) (.list [(.lit (.str 16))]))])),
  (.fr [12, 13] .enum [(.loc 11)] [(.iff (.or (.cmp .inn (.loc 13) (.loc 2)) (.cmp .eq (.loc 13) (.lit (.str 4)))) [(.ex (.um 128 (.loc 10) [(.lit (.str 19)), (.bin .add (.lit (.int 100)) (.loc 12)), (.bin .add (.lit (.int 100)) (.loc 12)), (.loc 13)]))] [])]),
  (.asgT [14, 15] (.tup [(.comp [11] .seq [(.loc 2)] 1 [] (.bin .add (.lit (.int 100)) (.bm .index (.loc 0) [(.loc 1)]))), (.call 139 [(.loc 2), (.lit (.int 0)), (.lit (.bool false))])])),
  (.asg 9 (.dictS [30, 31, 28, 32] [(.lit (.int 0)), (.lit (.int 1)), (.prim .int [(.cmp .inn (.loc 15) (.tup [(.lit (.str 4)), (.lit (.str 9))]))]), (.prim .int [(.cmp .ne (.loc 15) (.lit (.str 2)))])])),
  (.asg 16 (.idx (.list [(.lit (.str 28)), (.lit (.str 32)), (.lit (.str 30)), (.lit (.str 31))]) (.call 138 [(.loc 1), (.lit (.int 4))]))),
  (.iff (.and (.cmp .inn (.lit (.str 16)) (.loc 2)) (.cmp .ne (.call 29 [(.bin .add (.loc 14) (.list [(.bin .add (.lit (.int 100)) (.bm .index (.loc 11) [(.lit (.str 4))]))])), (.loc 10), (.lit (.str 28))]) (.idx (.loc 9) (.lit (.str 28))))) [(.ret (.lit (.bool false)))] []),
  (.ret (.and (.cmp .eq (.call 29 [(.loc 14), (.loc 10), (.loc 16)]) (.idx (.loc 9) (.loc 16))) (.cmp .eq (.call 29 [(.loc 14), (.loc 10)]) (.idx (.loc 9) (.lit (.str 28))))))]
noncomputable def fnL : List (Nat × FnI) := [(21, { nslots := 2, defaults := [], nparams := 2, body := b_bidi_kinds }),
  (24, { nslots := 6, defaults := [], nparams := 1, body := b_isolate_pairs }),
  (26, { nslots := 6, defaults := [], nparams := 4, body := b_bidi_first_strong }),
  (29, { nslots := 3, defaults := [(.str 28)], nparams := 3, body := b_base_level }),
  (27, { nslots := 3, defaults := [], nparams := 2, body := b_bidi_base }),
  (36, { nslots := 4, defaults := [], nparams := 4, body := b_BidiEntry___init__ }),
  (43, { nslots := 3, defaults := [], nparams := 3, body := b_BidiStack___init__ }),
  (44, { nslots := 1, defaults := [], nparams := 1, body := b_BidiStack_last }),
  (46, { nslots := 3, defaults := [], nparams := 2, body := b_BidiStack_further }),
  (47, { nslots := 2, defaults := [], nparams := 2, body := b_BidiStack_is_free }),
  (50, { nslots := 4, defaults := [], nparams := 3, body := b_BidiStack_embed }),
  (51, { nslots := 3, defaults := [], nparams := 2, body := b_BidiStack_isolate }),
  (52, { nslots := 1, defaults := [], nparams := 1, body := b_BidiStack_end_isolate }),
  (53, { nslots := 1, defaults := [], nparams := 1, body := b_BidiStack_end_embedding }),
  (62, { nslots := 12, defaults := [(.int 125)], nparams := 3, body := b_explicit }),
  (60, { nslots := 4, defaults := [], nparams := 3, body := b_bidi_is_right_isolate }),
  (63, { nslots := 5, defaults := [], nparams := 2, body := b_place_by_half }),
  (65, { nslots := 2, defaults := [], nparams := 2, body := b_range_are_like }),
  (69, { nslots := 2, defaults := [], nparams := 2, body := b_RangeMap___init__ }),
  (70, { nslots := 2, defaults := [], nparams := 2, body := b_RangeMap_get }),
  (72, { nslots := 9, defaults := [], nparams := 4, body := b_RangeMap_put }),
  (122, { nslots := 2, defaults := [], nparams := 0, body := b_data_defaults }),
  (127, { nslots := 1, defaults := [], nparams := 1, body := b_Data___init__ }),
  (130, { nslots := 5, defaults := [], nparams := 5, body := b_Data_put }),
  (131, { nslots := 3, defaults := [], nparams := 3, body := b_Data_get }),
  (133, { nslots := 2, defaults := [], nparams := 2, body := b_Data_map_of }),
  (134, { nslots := 0, defaults := [], nparams := 0, body := b__law_opens }),
  (137, { nslots := 1, defaults := [], nparams := 1, body := b__law_deck }),
  (138, { nslots := 4, defaults := [], nparams := 2, body := b__law_draw }),
  (139, { nslots := 5, defaults := [], nparams := 3, body := b__law_first }),
  (140, { nslots := 3, defaults := [], nparams := 2, body := b__law_now }),
  (141, { nslots := 7, defaults := [], nparams := 6, body := b__law_frame }),
  (142, { nslots := 13, defaults := [], nparams := 3, body := b__law_explicit }),
  (143, { nslots := 6, defaults := [], nparams := 1, body := b__law_pairs }),
  (144, { nslots := 5, defaults := [], nparams := 1, body := b__law_deep_right }),
  (147, { nslots := 17, defaults := [], nparams := 1, body := b_law })]
noncomputable def fnT (n : Nat) : Option FnI := look fnL n
noncomputable def clsL : List (Nat × Nat) := [(39, 36),
  (54, 43),
  (132, 69),
  (146, 127)]
noncomputable def clsT (n : Nat) : Option Nat := look clsL n
noncomputable def methL : List (Nat × List (Nat × Nat)) := [(39, [(148, 36)]),
  (54, [(148, 43), (45, 44), (48, 46), (49, 47), (57, 50), (61, 51), (59, 52), (58, 53)]),
  (132, [(148, 69), (20, 70), (128, 72)]),
  (146, [(148, 127), (128, 130), (20, 131), (129, 133)])]
noncomputable def methT (c m : Nat) : Option Nat := (look methL c).bind fun l => look l m
noncomputable def gvalL : List (Nat × AV) := [(25, .st 0),
  (56, .st 1),
  (22, .st 2),
  (55, .st 3),
  (145, .st 4),
  (149, (.int 125)),
  (23, (.str 16)),
  (71, (.int 1114111))]
noncomputable def gvalT (n : Nat) : AV := (look gvalL n).getD .unb
noncomputable def statT (script : List Int) : Nat → AO
  | 0 => .tup [(.str 2), (.str 4), (.str 9)]
  | 1 => .tup [(.str 11), (.str 3), (.str 6), (.str 12)]
  | 2 => .tup [(.str 7), (.str 0), (.str 8)]
  | 3 => .tup [(.str 11), (.str 3), (.str 6), (.str 12), (.str 1), (.str 14)]
  | 4 => .list [(.str 0), (.str 1), (.str 2), (.str 3), (.str 4), (.str 5), (.str 6), (.str 7), (.str 8), (.str 9), (.str 10), (.str 11), (.str 12), (.str 13), (.str 14), (.str 15), (.str 5)]
  | _ => .list (script.map .int)
noncomputable def firstL : List (Nat × Nat) := [(0, 4),
  (3, 2),
  (6, 4),
  (7, 2),
  (8, 18),
  (11, 4),
  (12, 2)]
noncomputable def firstT (n : Nat) : Option Nat := look firstL n
noncomputable def thePI (script : List Int) : PI := { gval := gvalT, stat := statT script, fn := fnT, cls := clsT, meth := methT, first := firstT }
noncomputable def strNames : List String := ["RLI", "PDF", "L", "LRE", "R", "PDI", "RLO", "LRI", "FSI", "AL", "EN", "RLE", "LRO", "NSM", "BN", "ON", "B", "", "F", "bc", "get", "bidi_kinds", "INITIATORS", "SEPARATOR", "isolate_pairs", "STRONG", "bidi_first_strong", "bidi_base", "auto", "base_level", "ltr", "rtl", "auto-rtl", "level", "override", "is_isolate", "BidiEntry.__init__", "depth", "entries", "BidiEntry", "over_isolates", "over_embeddings", "valid_isolates", "BidiStack.__init__", "BidiStack.last", "last", "BidiStack.further", "BidiStack.is_free", "further", "is_free", "BidiStack.embed", "BidiStack.isolate", "BidiStack.end_isolate", "BidiStack.end_embedding", "BidiStack", "REMOVED", "EMBEDDINGS", "embed", "end_embedding", "end_isolate", "bidi_is_right_isolate", "isolate", "explicit", "place_by_half", "bool", "range_are_like", "default", "starts", "values", "RangeMap.__init__", "RangeMap.get", "MAX_CODE", "RangeMap.put", "gc", "ccc", "lb", "ea", "sc", "jt", "incb", "Cn", "XX", "N", "Zzzz", "U", "None", "gcb", "wb", "sb", "Other", "ex", "sd", "cased", "ci", "ep", "di", "ids", "idc", "xids", "xidc", "pat_syn", "pat_ws", "idst", "dm", "uc", "lc", "tc", "cf", "bm", "bpb", "scx", "nt", "nv", "name", "conf", "nfkc_cf", "suc", "slc", "stc", "alias", "idna", "disallowed", "data_defaults", "defaults", "maps", "properties", "words", "Data.__init__", "put", "map_of", "Data.put", "Data.get", "RangeMap", "Data.map_of", "_law_opens", "cells", "at", "_law_deck", "_law_draw", "_law_first", "_law_now", "_law_frame", "_law_explicit", "_law_pairs", "_law_deep_right", "_law_kinds", "Data", "law", "__init__", "MAX_DEPTH"]
/-- the law's run on a script gives True -/
noncomputable def runLaw (script : List Int) : Prop := run (thePI script) 200 12 147 [.st 5] [] fun v _ => v = .bool true
end Mine
end
-- V1
section
set_option tactic.hygienic false
set_option linter.unusedVariables false
namespace Mine
/-- an object of the heap -/
abbrev At (H : Hp) (a : Nat) (o : AO) : Prop := H[a]? = some o
/-! a run that brings Q about gives one value and one heap -/
inductive Gv (c : QV → Prop) (Q : QV) : Prop
  | mk (v : AV) (H : Hp) (q : Q v H) (m : ∀ Q' : QV, Q' v H → c Q') : Gv c Q
inductive Gl (c : QL → Prop) (Q : QL) : Prop
  | mk (v : List AV) (H : Hp) (q : Q v H) (m : ∀ Q' : QL, Q' v H → c Q') : Gl c Q
inductive Go (c : QO → Prop) (Q : QO) : Prop
  | mk (v : Option AV) (H : Hp) (q : Q v H) (m : ∀ Q' : QO, Q' v H → c Q') : Go c Q
inductive Gx (c : QL → QV → Prop) (A : QL) (R : QV) : Prop
  | next (ls : List AV) (H : Hp) (a : A ls H) (m : ∀ (A' : QL) (R' : QV), A' ls H → c A' R') : Gx c A R
  | ret (v : AV) (H : Hp) (a : R v H) (m : ∀ (A' : QL) (R' : QV), R' v H → c A' R') : Gx c A R
abbrev GV (c : QV → Prop) : Prop := ∀ Q, c Q → Gv c Q
abbrev GL (c : QL → Prop) : Prop := ∀ Q, c Q → Gl c Q
abbrev GO (c : QO → Prop) : Prop := ∀ Q, c Q → Go c Q
abbrev GX (c : QL → QV → Prop) : Prop := ∀ A R, c A R → Gx c A R
inductive AsB (k : Bool → Prop) : AV → Prop
  | mk (p : Bool) (h : k p) : AsB k (.bool p)
theorem asB_inv {v : AV} {k : Bool → Prop} (h : asB v k) : AsB k v := by
  cases v with
  | bool p => exact ⟨p, h⟩
  | _ => exact False.elim h
inductive LocQ (k : AV → Prop) : Option AV → Prop
  | mk (v : AV) (n : v ≠ .unb) (h : k v) : LocQ k (some v)
theorem locQ_inv {o : Option AV} {k : AV → Prop} (h : locQ o k) : LocQ k o := by
  cases o with
  | none => exact False.elim h
  | some v => exact ⟨v, (fun e => by subst e; exact h), by cases v with
    | unb => exact False.elim h
    | _ => exact h⟩
theorem isUnb_f {v : AV} (n : v ≠ .unb) : isUnb v = false := by
  cases v with
  | unb => exact absurd rfl n
  | _ => rfl
theorem or3 {a b c : Prop} (h : (a ∨ b) ∨ c) : a ∨ b ∨ c := or_assoc.mp h
theorem or4 {a b c d : Prop} (h : ((a ∨ b) ∨ c) ∨ d) : a ∨ b ∨ c ∨ d := or_assoc.mp (or_assoc.mp h)
theorem int_below {v : Int} {n : Nat} {P : Int → Prop} (h0 : 0 ≤ v) (h1 : v < n) (h : ∀ k : Nat, k < n → P k) : P v := by
  obtain ⟨k, rfl⟩ := Int.eq_ofNat_of_zero_le h0
  exact h k (Int.ofNat_lt.mp h1)
theorem int4 {v : Int} (h0 : 0 ≤ v) (h1 : v < 4) : v = 0 ∨ v = 1 ∨ v = 2 ∨ v = 3 := int_below (n := 4) (P := fun v => v = 0 ∨ v = 1 ∨ v = 2 ∨ v = 3) h0 h1 (by decide)
theorem int6 {v : Int} (h0 : 0 ≤ v) (h1 : v < 6) : v = 0 ∨ v = 1 ∨ v = 2 ∨ v = 3 ∨ v = 4 ∨ v = 5 := int_below (n := 6) (P := fun v => v = 0 ∨ v = 1 ∨ v = 2 ∨ v = 3 ∨ v = 4 ∨ v = 5) h0 h1 (by decide)
theorem bool_i {b : Bool} {p q : Prop} (h : b = false) (a : p) : Bool.casesOn (motive := fun _ => Prop) b p q := by subst h; exact a
theorem locQ_i {v : AV} {k : AV → Prop} (n : v ≠ .unb) (h : k v) : locQ (some v) k := bool_i (isUnb_f n) h
theorem locQ_o {o : Option AV} {v : AV} {k : AV → Prop} (e : o = some v) (n : v ≠ .unb) (h : k v) : locQ o k := e ▸ locQ_i n h
theorem globQ_inv {v : AV} {k : AV → Prop} (h : globQ v k) : v ≠ .unb ∧ k v := by
  cases v with
  | unb => exact False.elim h
  | _ => exact ⟨(fun q => AV.noConfusion q), h⟩
theorem asB_i {v : AV} {p : Bool} {k : Bool → Prop} (e : v = .bool p) (h : k p) : asB v k := e ▸ h
theorem Br.of_t {b : Bool} {A B : Prop} (h : b = true) (a : A) : Br b A B := ⟨fun _ => a, fun e => by rw [h] at e; cases e⟩
theorem Br.of_f {b : Bool} {A B : Prop} (h : b = false) (a : B) : Br b A B := ⟨fun e => (by rw [h] at e; cases e), fun _ => a⟩
theorem loc_gv {o : Option AV} {H : Hp} : GV fun Q => locQ o fun v => Q v H := fun Q h => by
  obtain ⟨v, n, q⟩ := locQ_inv h
  exact ⟨v, H, q, fun Q' q' => locQ_i n q'⟩
theorem gvb {c e : QV → Prop} {K : QV → QV} (hc : GV c) (he : ∀ Q, e Q = c (K Q)) (hg : ∀ u H, GV fun Q => K Q u H) : GV e := fun Q h => by
  obtain ⟨u, H, q, m⟩ := hc _ ((he Q).mp h)
  obtain ⟨v, H2, q2, m2⟩ := hg u H Q q
  exact ⟨v, H2, q2, fun Q' q' => (he Q').mpr (m _ (m2 Q' q'))⟩
theorem to_gv {o : Option (AV × Hp)} : GV (TO o) := fun _ ⟨v, H, e, q⟩ => ⟨v, H, q, fun _ q' => ⟨v, H, e, q'⟩⟩
theorem glb {c : QL → Prop} {e : QV → Prop} {K : QV → QL} (hc : GL c) (he : ∀ Q, e Q = c (K Q)) (hg : ∀ u H, GV fun Q => K Q u H) : GV e := fun Q h => by
  obtain ⟨u, H, q, m⟩ := hc _ ((he Q).mp h)
  obtain ⟨v, H2, q2, m2⟩ := hg u H Q q
  exact ⟨v, H2, q2, fun Q' q' => (he Q').mpr (m _ (m2 Q' q'))⟩
theorem br_gv {u : AV} {a b : QV → Prop} (ha : GV a) (hb : GV b) : GV fun Q => asB u fun p => Br p (a Q) (b Q) := fun Q h => by
  obtain ⟨p, h⟩ := asB_inv h
  cases p with
  | true => obtain ⟨v, H, q, m⟩ := ha Q (h.t rfl); exact ⟨v, H, q, fun Q' q' => Br.of_t rfl (m Q' q')⟩
  | false => obtain ⟨v, H, q, m⟩ := hb Q (h.f rfl); exact ⟨v, H, q, fun Q' q' => Br.of_f rfl (m Q' q')⟩
theorem at_gv {v : AV} {H : Hp} : GV fun Q => Q v H := fun _ q => ⟨v, H, q, fun _ q' => q'⟩
theorem ex_gv {α : Type} {o : Option α} {d : α → QV → Prop} (hd : ∀ x, GV (d x)) : GV fun Q => ∃ r, o = some r ∧ d r Q := fun Q ⟨r, e, q⟩ => by
  obtain ⟨v, H, q, m⟩ := hd r Q q
  exact ⟨v, H, q, fun Q' q' => ⟨r, e, m Q' q'⟩⟩
theorem and_gv {p : Prop} {d : QV → Prop} (hd : GV d) : GV fun Q => p ∧ d Q := fun Q ⟨e, q⟩ => by
  obtain ⟨v, H, q, m⟩ := hd Q q
  exact ⟨v, H, q, fun Q' q' => ⟨e, m Q' q'⟩⟩
theorem compL_gl {g : Option (Nat × AO)} {step : List AV → Hp → QO → Prop} (hs : ∀ it H, GO (step it H)) : ∀ its H, GL (compL g step its H) := by
  intro its
  induction its with
  | nil => exact fun H Q h => ⟨[], H, h.2, fun _ q => ⟨h.1, q⟩⟩
  | cons it r ih =>
    intro H Q h
    obtain ⟨ov, H1, q, m⟩ := hs it H _ h.2
    obtain ⟨vs, H2, q2, m2⟩ := ih H1 _ q
    exact ⟨_, H2, q2, fun Q' q' => ⟨h.1, m _ (m2 _ q')⟩⟩
theorem ev_gives {P : PI} {F : Fun} (hF : ∀ f vs H, GV (F f vs H)) (e : E) : ∀ ls H, GV (ev P F e ls H) := by
  have tGV : ∀ {f vs H}, GV (T (F f vs H)) := fun {f vs H} Q ⟨h⟩ => let ⟨v, H', q, m⟩ := hF f vs H Q h; ⟨v, H', q, fun Q' q' => ⟨m Q' q'⟩⟩
  refine E.rec (motive_1 := fun e => ∀ ls H, GV (ev P F e ls H)) (motive_2 := fun es => (∀ ls H, GL (evs P F es ls H)) ∧ ∀ ls H (k : Hp → QO → Prop), (∀ H, GO (k H)) → GO (evTest P F es ls H k)) ?_ ?_ ?_ ?_ ?_ ?_ ?_ ?_ ?_ ?_ ?_ ?_ ?_ ?_ ?_ ?_ ?_ ?_ ?_ ?_ ?_ ?_ ?_ ?_ ?_ e
  · exact fun v ls H => at_gv
  · exact fun i ls H => loc_gv
  · exact fun x ls H Q h => by
      obtain ⟨n, q⟩ := globQ_inv (v := P.gval x) (k := fun v => Q v H) h
      refine ⟨P.gval x, H, q, fun Q' q' => ?_⟩
      show globQ (P.gval x) fun v => Q' v H
      cases e : P.gval x with
      | unb => exact absurd e n
      | _ => rw [e] at q'; exact q'
  · exact fun op a b ha hb ls H => gvb (ha ls H) (fun _ => rfl) fun u H1 => gvb (hb ls H1) (fun _ => rfl) fun v H2 => to_gv
  · exact fun op a b ha hb ls H => gvb (ha ls H) (fun _ => rfl) fun u H1 => gvb (hb ls H1) (fun _ => rfl) fun v H2 Q ⟨r, e, q⟩ => ⟨_, H2, q, fun Q' q' => ⟨r, e, q'⟩⟩
  · exact fun a b ha hb ls H Q ⟨h⟩ => let ⟨v, H', q, m⟩ := gvb (ha ls H) (fun _ => rfl) (fun u H1 => br_gv (hb ls H1) at_gv) Q h; ⟨v, H', q, fun Q' q' => ⟨m Q' q'⟩⟩
  · exact fun a b ha hb ls H Q ⟨h⟩ => let ⟨v, H', q, m⟩ := gvb (ha ls H) (fun _ => rfl) (fun u H1 => br_gv at_gv (hb ls H1)) Q h; ⟨v, H', q, fun Q' q' => ⟨m Q' q'⟩⟩
  · exact fun a ha ls H => gvb (ha ls H) (fun _ => rfl) fun u H1 Q h => by obtain ⟨p, h⟩ := asB_inv h; exact ⟨_, H1, h, fun Q' q' => q'⟩
  · exact fun c a b hc ha hb ls H => gvb (hc ls H) (fun _ => rfl) fun u H1 => br_gv (ha ls H1) (hb ls H1)
  · exact fun es h ls H => glb (h.1 ls H) (fun _ => rfl) fun vs H1 => at_gv
  · exact fun es h ls H => glb (h.1 ls H) (fun _ => rfl) fun vs H1 => at_gv
  · exact fun ls H => at_gv
  · exact fun ks es h ls H => glb (h.1 ls H) (fun _ => rfl) fun vs H1 => at_gv
  · exact fun f es h ls H => glb (h.1 ls H) (fun _ => rfl) fun vs H1 => tGV
  · exact fun p es h ls H => glb (h.1 ls H) (fun _ => rfl) fun vs H1 => to_gv
  · exact fun m o es ho h ls H => gvb (ho ls H) (fun _ => rfl) fun u H1 => and_gv (glb (h.1 ls H1) (fun _ => rfl) fun vs H2 => to_gv)
  · exact fun m o es ho h ls H => gvb (ho ls H) (fun _ => rfl) fun u H1 => ex_gv fun f => glb (h.1 ls H1) (fun _ => rfl) fun vs H2 => tGV
  · exact fun o a ho ls H => gvb (ho ls H) (fun _ => rfl) fun u H1 => ex_gv fun r => at_gv
  · exact fun o i ho hi ls H => gvb (ho ls H) (fun _ => rfl) fun u H1 => gvb (hi ls H1) (fun _ => rfl) fun v H2 => ex_gv fun r => at_gv
  · exact fun o i ho hi ls H => gvb (ho ls H) (fun _ => rfl) fun u H1 => gvb (hi ls H1) (fun _ => rfl) fun v H2 => to_gv
  · exact fun o i ho hi ls H => gvb (ho ls H) (fun _ => rfl) fun u H1 => gvb (hi ls H1) (fun _ => rfl) fun v H2 => to_gv
  · exact fun o ho ls H => gvb (ho ls H) (fun _ => rfl) fun u H1 => to_gv
  · exact fun cap k src tn cond elt hs hc he ls H => ex_gv fun cs => glb (hs.1 ls H) (fun _ => rfl) fun vs H1 Q ⟨its, g, e1, hl, h⟩ => by
      have hstep : ∀ it H, GO fun K => it.length = tn ∧ evTest P F cond (cs ++ it) H (fun H K => ev P F elt (cs ++ it) H (kSome K)) K := fun it H K ⟨e, h⟩ => by
        obtain ⟨v, H', q, m⟩ := hc.2 (cs ++ it) H _ (fun H K h => by obtain ⟨v, H', q, m⟩ := he (cs ++ it) H _ h; exact ⟨_, H', q, fun Q' q' => m _ q'⟩) K h
        exact ⟨v, H', q, fun Q' q' => ⟨e, m _ q'⟩⟩
      obtain ⟨ws, H2, q, m⟩ := compL_gl hstep its H1 _ h
      exact ⟨_, _, q, fun Q' q' => ⟨its, g, e1, hl, m _ q'⟩⟩
  · exact ⟨fun ls H Q q => ⟨[], H, q, fun _ q' => q'⟩, fun ls H k hk => hk H⟩
  · refine fun c r hc hr => ⟨fun ls H Q h => ?_, fun ls H k hk K h => ?_⟩
    · obtain ⟨v, H1, q, m⟩ := hc ls H _ h
      obtain ⟨vs, H2, q2, m2⟩ := hr.1 ls H1 _ q
      exact ⟨_, H2, q2, fun Q' q' => m _ (m2 _ q')⟩
    · obtain ⟨v, H1, q, m⟩ := hc ls H _ h
      obtain ⟨p, q⟩ := asB_inv q
      cases p with
      | true => obtain ⟨o, H2, q2, m2⟩ := hk H1 K (q.t rfl); exact ⟨o, H2, q2, fun Q' q' => m _ (Br.of_t rfl (m2 _ q'))⟩
      | false => exact ⟨none, H1, q.f rfl, fun Q' q' => m _ (Br.of_f rfl q')⟩
theorem evs_gives {P : PI} {F : Fun} (hF : ∀ f vs H, GV (F f vs H)) : ∀ (es : List E) ls H, GL (evs P F es ls H)
  | [], ls, H => fun Q q => ⟨[], H, q, fun _ q' => q'⟩
  | e :: es, ls, H => fun Q h => by
    obtain ⟨v, H1, q, m⟩ := ev_gives hF e ls H _ h
    obtain ⟨vs, H2, q2, m2⟩ := evs_gives hF es ls H1 _ q
    exact ⟨_, H2, q2, fun Q' q' => m _ (m2 _ q')⟩
theorem gx_of {c : QV → Prop} {e : QL → QV → Prop} {K : QL → QV → QV} (hc : GV c) (he : ∀ A R, e A R = c (K A R)) (hd : ∀ u H, GX fun A R => K A R u H) : GX e := fun A R h => by
  obtain ⟨u, H, q, m⟩ := hc _ ((he A R).mp h)
  cases hd u H A R q with
  | next ls H2 a m2 => exact .next ls H2 a fun A' R' q' => (he A' R').mpr (m _ (m2 A' R' q'))
  | ret v H2 a m2 => exact .ret v H2 a fun A' R' q' => (he A' R').mpr (m _ (m2 A' R' q'))
theorem gx_at {ls : List AV} {H : Hp} : GX fun A _ => A ls H := fun _ _ q => .next ls H q fun _ _ q' => q'
theorem gx_ex {α : Type} {o : Option α} {d : α → QL → QV → Prop} (hd : ∀ x, GX (d x)) : GX fun A R => ∃ r, o = some r ∧ d r A R := fun A R ⟨r, e, q⟩ => by
  cases hd r A R q with
  | next ls H2 a m2 => exact .next ls H2 a fun A' R' q' => ⟨r, e, m2 A' R' q'⟩
  | ret v H2 a m2 => exact .ret v H2 a fun A' R' q' => ⟨r, e, m2 A' R' q'⟩
theorem gx_and {p : Prop} {d : QL → QV → Prop} (hd : GX d) : GX fun A R => p ∧ d A R := fun A R ⟨e, q⟩ => by
  cases hd A R q with
  | next ls H2 a m2 => exact .next ls H2 a fun A' R' q' => ⟨e, m2 A' R' q'⟩
  | ret v H2 a m2 => exact .ret v H2 a fun A' R' q' => ⟨e, m2 A' R' q'⟩
theorem gx_br {u : AV} {a b : QL → QV → Prop} (ha : GX a) (hb : GX b) : GX fun A R => asB u fun p => Br p (a A R) (b A R) := fun A R h => by
  obtain ⟨p, h⟩ := asB_inv h
  cases p with
  | true => cases ha A R (h.t rfl) with
    | next ls H2 a m2 => exact .next ls H2 a fun A' R' q' => Br.of_t rfl (m2 A' R' q')
    | ret v H2 a m2 => exact .ret v H2 a fun A' R' q' => Br.of_t rfl (m2 A' R' q')
  | false => cases hb A R (h.f rfl) with
    | next ls H2 a m2 => exact .next ls H2 a fun A' R' q' => Br.of_f rfl (m2 A' R' q')
    | ret v H2 a m2 => exact .ret v H2 a fun A' R' q' => Br.of_f rfl (m2 A' R' q')
theorem gx_seq {c e : QL → QV → Prop} {K : QL → QV → QL} (hc : GX c) (he : ∀ A R, e A R = c (K A R) R) (hd : ∀ ls H, GX fun A R => K A R ls H) : GX e := fun A R h => by
  cases hc _ _ ((he A R).mp h) with
  | ret v H2 a m2 => exact .ret v H2 a fun A' R' q' => (he A' R').mpr (m2 _ R' q')
  | next ls H2 a m => cases hd ls H2 A R a with
    | next ls3 H3 a m2 => exact .next ls3 H3 a fun A' R' q' => (he A' R').mpr (m _ R' (m2 A' R' q'))
    | ret v H3 a m2 => exact .ret v H3 a fun A' R' q' => (he A' R').mpr (m _ R' (m2 A' R' q'))
theorem gx_X {c : QL → QV → Prop} (hc : GX c) : GX (X c) := fun A R ⟨h⟩ => by
  cases hc A R h with
  | next ls H2 a m2 => exact .next ls H2 a fun A' R' q' => ⟨m2 A' R' q'⟩
  | ret v H2 a m2 => exact .ret v H2 a fun A' R' q' => ⟨m2 A' R' q'⟩
theorem forL_gx {g : Option (Nat × AO)} {is : List Nat} {body : List AV → Hp → QL → QV → Prop} (hb : ∀ ls H, GX (body ls H)) : ∀ its ls H, GX (forL g is body its ls H)
  | [], _, _ => gx_and gx_at
  | _ :: r, _, _ => gx_and (gx_and (gx_seq (hb _ _) (fun _ _ => rfl) fun ls H => forL_gx hb r ls H))
theorem whL_gx {c : List AV → Hp → QV → Prop} {body : List AV → Hp → QL → QV → Prop} (hc : ∀ ls H, GV (c ls H)) (hb : ∀ ls H, GX (body ls H)) : ∀ n ls H, GX (whL c body n ls H)
  | 0, _, _ => fun _ _ h => False.elim h
  | n + 1, ls, H => gx_of (hc ls H) (fun _ _ => rfl) fun u H1 => gx_br (gx_seq (hb ls H1) (fun _ _ => rfl) fun ls H => whL_gx hc hb n ls H) gx_at
theorem put_gx {o i : Hp → QV → Prop} {v : AV} {K : Hp → QL → QV → Prop} (ho : ∀ H, GV (o H)) (hi : ∀ H, GV (i H)) (hK : ∀ H, GX (K H)) (H : Hp) : GX fun A R => put o i v (fun H => K H A R) H :=
  gx_of (ho H) (fun _ _ => rfl) fun u H1 => gx_of (hi H1) (fun _ _ => rfl) fun k H2 => gx_ex fun H3 => hK H3
theorem exs_gives {P : PI} {F : Fun} {W : Nat} (hF : ∀ f vs H, GV (F f vs H)) (b : List S) : ∀ ls H, GX (exs P F W b ls H) := by
  have E1 := fun e ls H => ev_gives (P := P) hF e ls H
  refine S.rec_1 (motive_1 := fun s => ∀ ls H, GX (ex P F W s ls H)) (motive_2 := fun b => ∀ ls H, GX (exs P F W b ls H)) ?_ ?_ ?_ ?_ ?_ ?_ ?_ ?_ ?_ ?_ ?_ ?_ b
  · exact fun i e ls H => gx_of (E1 e ls H) (fun _ _ => rfl) fun u H1 => gx_at
  · exact fun is e ls H => gx_of (E1 e ls H) (fun _ _ => rfl) fun u H1 A R ⟨vs, h1, h2, a⟩ => .next _ _ a fun _ _ q' => ⟨vs, h1, h2, q'⟩
  · exact fun o i e ls H => gx_of (E1 e ls H) (fun _ _ => rfl) fun u H1 => put_gx (E1 o ls) (E1 i ls) (fun _ => gx_at) H1
  · exact fun o1 i1 o2 i2 e ls H => gx_of (E1 e ls H) (fun _ _ => rfl) fun u H1 A R ⟨v1, v2, h1, h2⟩ => by
      cases put_gx (E1 o1 ls) (E1 i1 ls) (put_gx (v := v2) (E1 o2 ls) (E1 i2 ls) fun _ => gx_at) H1 A R h2 with
      | next ls H2 a m2 => exact .next ls H2 a fun A' R' q' => ⟨v1, v2, h1, m2 A' R' q'⟩
      | ret v H2 a m2 => exact .ret v H2 a fun A' R' q' => ⟨v1, v2, h1, m2 A' R' q'⟩
  · exact fun o a e ls H => gx_of (E1 e ls H) (fun _ _ => rfl) fun u H1 => gx_of (E1 o ls H1) (fun _ _ => rfl) fun u H2 => gx_ex fun H3 => gx_at
  · exact fun e ls H => gx_of (E1 e ls H) (fun _ _ => rfl) fun u H1 => gx_at
  · exact fun c a b ha hb ls H => gx_of (E1 c ls H) (fun _ _ => rfl) fun u H1 => gx_br (ha ls H1) (hb ls H1)
  · exact fun is k src b hb ls H => gx_X fun A R h => by
      obtain ⟨vs, H1, ⟨its, g, e, q⟩, m⟩ := evs_gives hF src ls H _ h
      cases forL_gx hb its ls H1 A R q with
      | next ls H2 a m2 => exact .next ls H2 a fun A' R' q' => m _ ⟨its, g, e, m2 A' R' q'⟩
      | ret v H2 a m2 => exact .ret v H2 a fun A' R' q' => m _ ⟨its, g, e, m2 A' R' q'⟩
  · exact fun c b hb ls H => gx_X (whL_gx (E1 c) hb W ls H)
  · exact fun e ls H A R h => let ⟨v, H', q, m⟩ := E1 e ls H R h; .ret v H' q fun _ R' q' => m R' q'
  · exact fun ls H => gx_at
  · exact fun s r hs hr ls H => gx_seq (hs ls H) (fun _ _ => rfl) hr
theorem fnRun_gives {P : PI} {F : Fun} {W : Nat} (hF : ∀ f vs H, GV (F f vs H)) (i : FnI) (args : List AV) (H : Hp) : GV (fnRun P F W i args H) := fun Q ⟨ls, e, h⟩ => by
  cases exs_gives hF i.body ls H _ _ h with
  | next ls' H2 a m2 => exact ⟨_, H2, a, fun Q' q' => ⟨ls, e, m2 _ _ q'⟩⟩
  | ret v H2 a m2 => exact ⟨_, H2, a, fun Q' q' => ⟨ls, e, m2 _ _ q'⟩⟩
theorem opt_gv {α : Type} {o : Option α} {e a : QV → Prop} {b : α → QV → Prop} (he : ∀ Q, e Q = Option.casesOn (motive := fun _ => Prop) o (a Q) fun x => b x Q) (ha : GV a) (hb : ∀ x, GV (b x)) : GV e := fun Q h => by
  cases o with
  | none => obtain ⟨v, H2, q2, m2⟩ := ha Q ((he Q).mp h); exact ⟨v, H2, q2, fun Q' q' => (he Q').mpr (m2 Q' q')⟩
  | some x => obtain ⟨v, H2, q2, m2⟩ := hb x Q ((he Q).mp h); exact ⟨v, H2, q2, fun Q' q' => (he Q').mpr (m2 Q' q')⟩
theorem run_gives {P : PI} {W : Nat} : ∀ d f vs H, GV (run P W d f vs H)
  | 0, _, _, _ => fun _ h => False.elim h
  | d + 1, f, vs, H => opt_gv (o := P.fn f) (fun _ => rfl) (opt_gv (o := P.cls f) (fun _ => rfl) (fun _ h => False.elim h) fun g => opt_gv (o := P.fn g) (fun _ => rfl) (fun _ h => False.elim h) fun i => gvb (fnRun_gives (run_gives d) i _ _) (fun _ => rfl) fun u H1 => and_gv at_gv)
      fun i => fnRun_gives (run_gives d) i vs H
section
variable {P : PI} {F : Fun} {W d : Nat} {ls : List AV} {H : Hp} {Q : QV} {A : QL} {R : QV}
theorem X.mono {b : List S} {A' : QL} {R' : QV} (h : X (exs P (run P W d) W b ls H) A R) (a : ∀ ls H, A ls H → A' ls H) (r : ∀ v H, R v H → R' v H) : X (exs P (run P W d) W b ls H) A' R' := by
  cases exs_gives (run_gives d) b ls H _ _ h.go with
  | next ls1 H1 q m => exact ⟨m _ _ (a ls1 H1 q)⟩
  | ret v H1 q m => exact ⟨m _ _ (r v H1 q)⟩
theorem exs_mono {b : List S} {A' : QL} (h : exs P (run P W d) W b ls H A R) (a : ∀ ls H, A ls H → A' ls H) : exs P (run P W d) W b ls H A' R := by
  cases exs_gives (run_gives d) b ls H _ _ h with
  | next ls1 H1 q m => exact m _ _ (a ls1 H1 q)
  | ret v H1 q m => exact m _ _ q
theorem ex_mono {s : S} {A' : QL} (h : ex P (run P W d) W s ls H A R) (a : ∀ ls H, A ls H → A' ls H) : ex P (run P W d) W s ls H A' R := exs_mono (b := [s]) h a
theorem T_and {a b : E} (h : ev P F a ls H (kAnd (ev P F b ls) Q)) : AndW (ev P F a ls H) (ev P F b ls) Q := ⟨h⟩
theorem T_or {a b : E} (h : ev P F a ls H (kOr (ev P F b ls) Q)) : OrW (ev P F a ls H) (ev P F b ls) Q := ⟨h⟩
/-- the second looks and makes nothing: one way -/
structure Sm (H H1 : Hp) (p : Prop) : Prop where
  e : H = H1
  q : p
noncomputable def kOne2 (f : Bool → Bool) (H1 : Hp) (Q : QV) : QV := fun v H => asB v fun q => Sm H H1 (Q (.bool (f q)) H1)
noncomputable def kOne (f : Bool → Bool → Bool) (b : Hp → QV → Prop) (Q : QV) : QV := fun u H => asB u fun p => b H (kOne2 (f p) H Q)
theorem T_and' {a b : E} (h : ev P (run P W d) a ls H (kOne and (ev P (run P W d) b ls) Q)) : AndW (ev P (run P W d) a ls H) (ev P (run P W d) b ls) Q := by
  obtain ⟨u, H1, q, m⟩ := ev_gives (run_gives d) a ls H _ h
  obtain ⟨p, q⟩ := asB_inv q
  obtain ⟨v, H2, q, m2⟩ := ev_gives (run_gives d) b ls H1 _ q
  obtain ⟨c, rfl, q⟩ := asB_inv q
  refine ⟨m _ ?_⟩
  cases p with
  | true => exact Br.of_t rfl (m2 _ q)
  | false => exact Br.of_f rfl q
theorem T_or' {a b : E} (h : ev P (run P W d) a ls H (kOne or (ev P (run P W d) b ls) Q)) : OrW (ev P (run P W d) a ls H) (ev P (run P W d) b ls) Q := by
  obtain ⟨u, H1, q, m⟩ := ev_gives (run_gives d) a ls H _ h
  obtain ⟨p, q⟩ := asB_inv q
  obtain ⟨v, H2, q, m2⟩ := ev_gives (run_gives d) b ls H1 _ q
  obtain ⟨c, rfl, q⟩ := asB_inv q
  refine ⟨m _ ?_⟩
  cases p with
  | true => exact Br.of_t rfl q
  | false => exact Br.of_f rfl (m2 _ q)
/-- where a turn's end stands -/
inductive Iv (I : QL) (ls : List AV) (H : Hp) : Prop
  | mk (h : I ls H) : Iv I ls H
/-- what is handed back -/
inductive Rv (Q : QV) (v : AV) (H : Hp) : Prop
  | mk (h : Q v H) : Rv Q v H
theorem forL_rule {g : Option (Nat × AO)} {is : List Nat} {body : List AV → Hp → QL → QV → Prop} (I : Nat → List AV → Hp → Prop) : ∀ (its : List (List AV)) (n : Nat) (ls : List AV) (H : Hp),
    I n ls H → (∀ j ls H, I j ls H → j ≤ n + its.length → kept g H) →
    (∀ j it ls H, its[j]? = some it → I (n + j) ls H → it.length = is.length ∧ body (setAll is it ls) H (fun ls1 H1 => I (n + j + 1) ls1 H1) R) →
    (∀ ls H, I (n + its.length) ls H → A ls H) → (∀ ls H, GX (body ls H)) → forL g is body its ls H A R
  | [], n, ls, H, h0, hk, _, he, _ => ⟨hk n ls H h0 (Nat.le_refl _), he ls H h0⟩
  | it :: r, n, ls, H, h0, hk, hs, he, hm => by
    obtain ⟨hl, hx⟩ := hs 0 it ls H rfl h0
    refine ⟨hk n ls H h0 (Nat.le_add_right ..), hl, ?_⟩
    cases hm _ _ _ _ hx with
    | ret v H1 q m => exact m _ _ q
    | next ls1 H1 q m =>
      refine m _ _ (forL_rule I r (n + 1) ls1 H1 q (fun j ls H hI hj => hk j ls H hI (by rw [List.length_cons]; lia)) (fun j it' ls H hj hI => ?_) (fun ls H hI => he ls H (by rw [List.length_cons, Nat.add_comm r.length 1, ← Nat.add_assoc]; exact hI)) hm)
      have q := hs (j + 1) it' ls H hj (by rw [Nat.add_comm j 1, ← Nat.add_assoc]; exact hI)
      rwa [Nat.add_comm j 1, ← Nat.add_assoc] at q
theorem X_fr {is : List Nat} {k : IK} {src : List E} {body : List S} (I : Nat → List AV → Hp → Prop)
    (h : evs P (run P W d) src ls H fun vs H1 => ∃ its g, evIter P k vs H1 = some (its, g) ∧ I 0 ls H1 ∧ (∀ j ls H, j ≤ its.length → I j ls H → kept g H) ∧
      (∀ j it ls H, its[j]? = some it → I j ls H → it.length = is.length ∧ X (exs P (run P W d) W body (setAll is it ls) H) (Iv (I (j + 1))) R) ∧ (∀ ls H, I its.length ls H → A ls H)) : X (frW P is k (evs P (run P W d) src) (exs P (run P W d) W body) ls H) A R := by
  obtain ⟨vs, H1, ⟨its, g, e2, h0, hk, hs, he⟩, m⟩ := evs_gives (run_gives d) src ls H _ h
  refine ⟨m _ ⟨its, g, e2, forL_rule I its 0 ls H1 h0 (fun j ls H hI hj => hk j ls H (by simpa using hj) hI) (fun j it ls H hj hI => ?_) (by simpa using he) (exs_gives (run_gives d) body)⟩⟩
  rw [Nat.zero_add] at hI ⊢
  refine ⟨(hs j it ls H hj hI).1, ?_⟩
  cases exs_gives (run_gives d) body _ _ _ _ (hs j it ls H hj hI).2.go with
  | ret v H1 q m => exact m _ _ q
  | next ls1 H1 q m => exact m _ _ q.1
theorem whL_rule {c : List AV → Hp → QV → Prop} {body : List AV → Hp → QL → QV → Prop} (I : Nat → List AV → Hp → Prop) (hc : ∀ ls H, GV (c ls H)) (hb : ∀ ls H, GX (body ls H))
    (hs : ∀ n ls H, I n ls H → c ls H (fun u H1 => asB u fun p => Br p (X (body ls H1) (fun ls2 H2 => ∃ n', n' < n ∧ I n' ls2 H2) R) (A ls H1))) :
    ∀ (w n : Nat) (ls : List AV) (H : Hp), n < w → I n ls H → whL c body w ls H A R
  | 0, _, _, _, hw, _ => absurd hw (Nat.not_lt_zero _)
  | w + 1, n, ls, H, hw, h0 => by
    obtain ⟨u, H1, q, m⟩ := hc ls H _ (hs n ls H h0)
    obtain ⟨p, q⟩ := asB_inv q
    refine m _ ?_
    cases p with
    | false => exact Br.of_f rfl (q.f rfl)
    | true =>
      refine Br.of_t rfl ?_
      cases hb _ _ _ _ (q.t rfl).go with
      | ret v H2 q m => exact m _ _ q
      | next ls2 H2 q m =>
        obtain ⟨n', hn, hI⟩ := q
        exact m _ _ (whL_rule I hc hb hs w n' ls2 H2 (Nat.lt_of_lt_of_le hn (Nat.le_of_lt_succ hw)) hI)
theorem X_wh {c : E} {body : List S} (I : Nat → List AV → Hp → Prop) (n : Nat) (hn : n < W) (h0 : I n ls H)
    (hs : ∀ n ls H, I n ls H → ev P (run P W d) c ls H fun u H1 => asB u fun p => Br p (X (exs P (run P W d) W body ls H1) (fun ls2 H2 => ∃ n', n' < n ∧ I n' ls2 H2) R) (A ls H1)) : X (whL (ev P (run P W d) c) (exs P (run P W d) W body) W ls H) A R :=
  ⟨whL_rule I (ev_gives (run_gives d) c) (exs_gives (run_gives d) body) hs W n ls H hn h0⟩
theorem compL_rule {g : Option (Nat × AO)} {step : List AV → Hp → QO → Prop} (I : Nat → List AV → Hp → Prop) (hm : ∀ it H, GO (step it H)) : ∀ (its : List (List AV)) (n : Nat) (acc : List AV) (H : Hp) (Q : QL),
    I n acc H → (∀ j acc H, j ≤ n + its.length → I j acc H → kept g H) →
    (∀ j it acc H, its[j]? = some it → I (n + j) acc H → step it H fun v H1 => I (n + j + 1) (acc ++ v.toList) H1) →
    (∀ ws H, I (n + its.length) (acc ++ ws) H → Q ws H) → compL g step its H Q
  | [], n, acc, H, Q, h0, hk, _, he => ⟨hk n acc H (Nat.le_refl _) h0, he [] H (by rw [List.append_nil]; exact h0)⟩
  | it :: r, n, acc, H, Q, h0, hk, hs, he => by
    obtain ⟨v, H1, q, m⟩ := hm it H _ (hs 0 it acc H rfl h0)
    refine ⟨hk n acc H (Nat.le_add_right ..) h0, m _ (compL_rule I hm r (n + 1) _ H1 _ q (fun j acc H hj hI => hk j acc H (by rw [List.length_cons]; lia) hI) (fun j it' acc H hj hI => ?_) fun ws H hI => ?_)⟩
    · have q := hs (j + 1) it' acc H hj (by rw [Nat.add_comm j 1, ← Nat.add_assoc]; exact hI)
      rwa [Nat.add_comm j 1, ← Nat.add_assoc] at q
    · exact he _ H (by rw [List.length_cons, Nat.add_comm r.length 1, ← Nat.add_assoc, ← List.append_assoc]; exact hI)
theorem cstep_go {cs : List AV} {tn : Nat} {cond : List E} {elt : E} (it : List AV) (H : Hp) : GO fun K => it.length = tn ∧ evTest P (run P W d) cond (cs ++ it) H (fun H K => ev P (run P W d) elt (cs ++ it) H (kSome K)) K := fun K ⟨e, h⟩ => by
  cases cond with
  | nil => obtain ⟨v, H', q, m⟩ := ev_gives (run_gives d) elt (cs ++ it) H _ h; exact ⟨_, H', q, fun Q' q' => ⟨e, m _ q'⟩⟩
  | cons c r =>
    obtain ⟨u, H1, q, m⟩ := ev_gives (run_gives d) c (cs ++ it) H _ h
    obtain ⟨p, q⟩ := asB_inv q
    cases p with
    | false => exact ⟨none, H1, q.f rfl, fun Q' q' => ⟨e, m _ (Br.of_f rfl q')⟩⟩
    | true => obtain ⟨v, H', q, m2⟩ := ev_gives (run_gives d) elt (cs ++ it) H1 _ (q.t rfl); exact ⟨_, H', q, fun Q' q' => ⟨e, m _ (Br.of_t rfl (m2 _ q'))⟩⟩
theorem T_comp {cap : List Nat} {k : IK} {src : List E} {tn : Nat} {cond : List E} {elt : E} {cs : List AV} (hc : cap.mapM (fun i => ls[i]?) = some cs)
    (h : evs P F src ls H fun vs H1 => ∃ its g, evIter P k vs H1 = some (its, g) ∧ its.length ≤ 1000000 ∧
      compL g (fun it H K => it.length = tn ∧ evTest P F cond (cs ++ it) H (fun H K => ev P F elt (cs ++ it) H (kSome K)) K) its H1 fun ws H2 => Q (.ref H2.length) (H2 ++ [.list ws])) : ev P F (.comp cap k src tn cond elt) ls H Q := ⟨cs, hc, h⟩
/-- a def is entered -/
theorem T_fn {f : Nat} {i : FnI} {args ls : List AV} (hi : P.fn f = some i) (hl : fillArgs i args = some ls) (h : X (exs P (run P W d) W i.body ls H) (Iv fun _ H' => Q .none H') (Rv Q)) : T (run P W (d + 1) f args H) Q := by
  refine ⟨?_⟩
  show Option.casesOn (P.fn f) _ _
  rw [hi]
  cases exs_gives (run_gives d) i.body ls _ _ _ h.go with
  | next ls1 H1 q m => exact ⟨ls, hl, m _ _ q.1⟩
  | ret v H1 q m => exact ⟨ls, hl, m _ _ q.1⟩
/-- an object is made -/
theorem T_cls {c g : Nat} {i : FnI} {args ls : List AV} (hc : P.fn c = none) (hg : P.cls c = some g) (hi : P.fn g = some i) (hl : fillArgs i (.ref (H.length + 1) :: args) = some ls)
    (h : X (exs P (run P W d) W i.body ls (H ++ [.attrs [], .inst c H.length])) (Iv fun _ H' => Q (.ref (H.length + 1)) H') (Rv fun v H' => v = .none ∧ Q (.ref (H.length + 1)) H')) : T (run P W (d + 1) c args H) Q := by
  refine ⟨?_⟩
  show Option.casesOn (P.fn c) (Option.casesOn (P.cls c) _ fun g => Option.casesOn (P.fn g) _ _) _
  rw [hc, hg]
  show Option.casesOn (P.fn g) _ _
  rw [hi]
  cases exs_gives (run_gives d) i.body ls _ _ _ h.go with
  | next ls1 H1 q m => exact ⟨ls, hl, m _ _ ⟨rfl, q.1⟩⟩
  | ret v H1 q m => exact ⟨ls, hl, m _ _ q.1⟩
end
/-- the heap has grown; what stood stands, but for X -/
structure Keep (Y : List Nat) (H H' : Hp) : Prop where
  len : H.length ≤ H'.length
  get : ∀ i o, i ∉ Y → H[i]? = some o → H'[i]? = some o
theorem Keep.refl {Y : List Nat} {H : Hp} : Keep Y H H := ⟨Nat.le_refl _, fun _ _ _ e => e⟩
theorem at_lt {H : Hp} {i : Nat} {o : AO} (e : H[i]? = some o) : i < H.length := (List.getElem?_eq_some_iff.mp e).1
theorem Keep.trans {Y Z : List Nat} {H H1 H2 : Hp} (a : Keep Y H H1) (b : Keep Z H1 H2) (h : ∀ z ∈ Z, z ∈ Y ∨ H.length ≤ z) : Keep Y H H2 :=
  ⟨Nat.le_trans a.len b.len, fun i o hi e => b.get i o (fun hz => (h i hz).elim hi fun q => by have := at_lt e; lia) (a.get i o hi e)⟩
theorem Keep.tr {Y : List Nat} {H H1 H2 : Hp} (a : Keep Y H H1) (b : Keep Y H1 H2) : Keep Y H H2 := a.trans b fun _ h => .inl h
theorem Keep.app {Y : List Nat} {H Z : Hp} : Keep Y H (H ++ Z) :=
  ⟨by simp, fun i o _ e => by rw [List.getElem?_append_left (at_lt e)]; exact e⟩
theorem Keep.set {Y : List Nat} {H : Hp} {a : Nat} {o : AO} (h : a ∈ Y) : Keep Y H (H.set a o) :=
  ⟨by simp, fun i o' hi e => by rw [List.getElem?_set_ne (fun q : a = i => hi (by rw [← q]; exact h))]; exact e⟩
theorem Keep.wide {Y Z : List Nat} {H H' : Hp} (a : Keep Y H H') (h : ∀ y ∈ Y, y ∈ Z ∨ H.length ≤ y) : Keep Z H H' :=
  ⟨a.len, fun i o hi e => a.get i o (fun hy => (h i hy).elim hi fun q => by have := at_lt e; lia) e⟩
theorem Keep.nil {Y : List Nat} {H H' : Hp} (a : Keep [] H H') : Keep Y H H' := a.wide (by simp)
theorem Keep.put {Y : List Nat} {H H1 : Hp} {a : Nat} {o : AO} (k : Keep Y H H1) (h : a ∈ Y ∨ H.length ≤ a) : Keep Y H (H1.set a o) :=
  k.trans (Keep.set (Y := [a]) (by simp)) (fun z hz => by simp at hz; subst hz; exact h)
theorem Keep.more {Y : List Nat} {H H1 Z : Hp} (k : Keep Y H H1) : Keep Y H (H1 ++ Z) := k.tr Keep.app
theorem at_app {H Z : Hp} {a : Nat} {o : AO} (h : H[a]? = some o) : (H ++ Z)[a]? = some o := by rw [List.getElem?_append_left (at_lt h)]; exact h
theorem at_new {H : Hp} {o : AO} {Z : Hp} : (H ++ o :: Z)[H.length]? = some o := by simp
theorem at_new2 {H : Hp} {o o2 : AO} {Z : Hp} : (H ++ o :: o2 :: Z)[H.length + 1]? = some o2 := by simp
theorem at_set {H : Hp} {a : Nat} {o o' : AO} (h : H[a]? = some o') : (H.set a o)[a]? = some o := List.getElem?_set_self (at_lt h)
theorem at_setE {H : Hp} {a : Nat} {o : AO} (h : ∃ o', H[a]? = some o') : (H.set a o)[a]? = some o := let ⟨_, h⟩ := h; at_set h
theorem at_ne {H : Hp} {a b : Nat} {o o' : AO} (hn : a ≠ b) (h : H[b]? = some o) : (H.set a o')[b]? = some o := by rw [List.getElem?_set_ne hn]; exact h
end Mine
end
-- U1
section
set_option tactic.hygienic false
namespace Mine
open PySem PySem.W PyProof.Rows PySem.Calls
structure Wd where
  prog : Program
  w : World
  P : PI
  h₀ : Heap
  mg : Str → Option Value
  mb : Str → Option Value
  K : Frag
  nm : Nat → Str
  nN : Nat
  ga : Nat → Addr
  fa : Nat → Addr
  ca : Nat → Addr
  as : List Nat   -- the fields' names
  calls : List Nat -- what is called by its name
variable (Z : Wd)
noncomputable def VR (ρ : List Addr) : AV → Value → Prop
  | .none, v => v = .none
  | .bool b, v => v = .bool b
  | .int i, v => ∃ t, v = .int i t
  | .str k, v => k < Z.nN ∧ ∃ t, v = .str (Z.nm k) t
  | .ref a, v => ∃ c, ρ[a]? = some c ∧ v = .ref c
  | .st g, v => v = .ref (Z.ga g)
  | .unb, _ => False
noncomputable def VRs (ρ : List Addr) : List AV → List Value → Prop
  | [], [] => True
  | x :: xs, v :: vs => VR Z ρ x v ∧ VRs ρ xs vs
  | _, _ => False
variable {Z}
theorem VR.mono {ρ ρ' : List Addr} (hp : ρ <+: ρ') : ∀ {x : AV} {v : Value}, VR Z ρ x v → VR Z ρ' x v
  | .none, _, h => h
  | .bool _, _, h => h
  | .int _, _, h => h
  | .str _, _, h => h
  | .ref a, _, ⟨c, hc, e⟩ => by
    refine ⟨c, ?_, e⟩
    obtain ⟨t, rfl⟩ := hp
    have hlt : a < ρ.length := (List.getElem?_eq_some_iff.mp hc).1
    rw [List.getElem?_append_left hlt]; exact hc
  | .st _, _, h => h
  | .unb, _, h => h
theorem VRs.mono {ρ ρ' : List Addr} (hp : ρ <+: ρ') : ∀ {xs : List AV} {vs : List Value}, VRs Z ρ xs vs → VRs Z ρ' xs vs
  | [], [], _ => trivial
  | _ :: _, _ :: _, ⟨a, b⟩ => ⟨a.mono hp, VRs.mono hp b⟩
  | [], _ :: _, h => h.elim
  | _ :: _, [], h => h.elim
theorem VRs.length {ρ : List Addr} : ∀ {xs : List AV} {vs : List Value}, VRs Z ρ xs vs → vs.length = xs.length
  | [], [], _ => rfl
  | _ :: _, _ :: _, ⟨_, b⟩ => by simp [VRs.length b]
  | [], _ :: _, h => h.elim
  | _ :: _, [], h => h.elim
theorem VRs.get {ρ : List Addr} : ∀ {xs : List AV} {vs : List Value} {i : Nat} {x : AV}, VRs Z ρ xs vs → xs[i]? = some x → ∃ v, vs[i]? = some v ∧ VR Z ρ x v
  | x :: _, v :: _, 0, _, ⟨a, _⟩, h => by simp at h; subst h; exact ⟨v, rfl, a⟩
  | _ :: xs, _ :: vs, i + 1, y, ⟨_, b⟩, h => by
    have h' : xs[i]? = some y := by simpa using h
    obtain ⟨v, e, r⟩ := VRs.get b h'
    exact ⟨v, by simpa using e, r⟩
  | [], [], _, _, _, h => by simp at h
  | [], _ :: _, _, _, h, _ => h.elim
  | _ :: _, [], _, _, h, _ => h.elim
theorem VRs.append {ρ : List Addr} : ∀ {xs ys : List AV} {vs ws : List Value}, VRs Z ρ xs vs → VRs Z ρ ys ws → VRs Z ρ (xs ++ ys) (vs ++ ws)
  | [], _, [], _, _, h => h
  | _ :: _, _, _ :: _, _, ⟨a, b⟩, h => ⟨a, VRs.append b h⟩
  | [], _, _ :: _, _, h, _ => h.elim
  | _ :: _, _, [], _, h, _ => h.elim
theorem VRs.drop {ρ : List Addr} : ∀ (n : Nat) {xs : List AV} {vs : List Value}, VRs Z ρ xs vs → VRs Z ρ (xs.drop n) (vs.drop n)
  | 0, _, _, h => h
  | _ + 1, [], [], _ => trivial
  | n + 1, _ :: _, _ :: _, ⟨_, b⟩ => VRs.drop n b
  | _ + 1, [], _ :: _, h => h.elim
  | _ + 1, _ :: _, [], h => h.elim
theorem VRs.take {ρ : List Addr} : ∀ (n : Nat) {xs : List AV} {vs : List Value}, VRs Z ρ xs vs → VRs Z ρ (xs.take n) (vs.take n)
  | 0, _, _, _ => trivial
  | _ + 1, [], [], _ => trivial
  | n + 1, _ :: _, _ :: _, ⟨a, b⟩ => ⟨a, VRs.take n b⟩
  | _ + 1, [], _ :: _, h => h.elim
  | _ + 1, _ :: _, [], h => h.elim
theorem VRs.reverse {ρ : List Addr} : ∀ {xs : List AV} {vs : List Value}, VRs Z ρ xs vs → VRs Z ρ xs.reverse vs.reverse
  | [], [], _ => trivial
  | x :: xs, v :: vs, ⟨a, b⟩ => by rw [List.reverse_cons, List.reverse_cons]; exact VRs.append (VRs.reverse b) ⟨a, trivial⟩
  | [], _ :: _, h => h.elim
  | _ :: _, [], h => h.elim
theorem VRs.nil {ρ : List Addr} : VRs Z ρ [] [] := trivial
theorem VRs.cons {ρ : List Addr} {x : AV} {v : Value} {xs : List AV} {vs : List Value} (a : VR Z ρ x v) (b : VRs Z ρ xs vs) : VRs Z ρ (x :: xs) (v :: vs) := ⟨a, b⟩
theorem VRs.cons_inv {ρ : List Addr} {x : AV} {xs : List AV} {ws : List Value} (h : VRs Z ρ (x :: xs) ws) : ∃ v vs, ws = v :: vs ∧ VR Z ρ x v ∧ VRs Z ρ xs vs := by
  cases ws with
  | nil => exact h.elim
  | cons v vs => exact ⟨v, vs, rfl, h.1, h.2⟩
theorem VRs.nil_inv {ρ : List Addr} {ws : List Value} (h : VRs Z ρ [] ws) : ws = [] := by
  cases ws with
  | nil => rfl
  | cons v vs => exact h.elim
variable (Z)
/-- int-keyed pairs -/
def KI (ρ : List Addr) (es : List (Int × AV)) (kvs : List (Int × Value)) : Prop := kvs.map (·.1) = es.map (·.1) ∧ VRs Z ρ (es.map (·.2)) (kvs.map (·.2))
def KS (ρ : List Addr) (es : List (Nat × AV)) (kvs : List (Str × Value)) : Prop :=
  kvs.map (·.1) = es.map (fun e => Z.nm e.1) ∧ (∀ e ∈ es, e.1 < Z.nN) ∧ VRs Z ρ (es.map (·.2)) (kvs.map (·.2))
abbrev listAt (h : Heap) (a : Addr) (vs : List Value) : Prop := ∃ n, h.get? a = some { cls := .type "list", data := .seq vs.toArray n }
abbrev tupAt (h : Heap) (a : Addr) (vs : List Value) : Prop := ∃ n, h.get? a = some { cls := .type "tuple", data := .seq vs.toArray n }
noncomputable def OR (ρ : List Addr) (h : Heap) (a : Addr) : AO → Prop
  | .list xs => ∃ vs, listAt h a vs ∧ VRs Z ρ xs vs
  | .tup xs => ∃ vs, tupAt h a vs ∧ VRs Z ρ xs vs
  | .dictI es => ∃ kvs, h.DictOf (intKind Z.prog Z.w) a kvs ∧ KI Z ρ es kvs
  | .dictS es => ∃ kvs, h.DictOf (strKind Z.prog Z.w) a kvs ∧ KS Z ρ es kvs
  | .attrs es => ∃ m, h.Ns1 a m ∧ Within m (Z.as.map Z.nm) ∧ ∀ k, k < Z.nN → (valS es k = none → m (Z.nm k) = none) ∧ ∀ v, valS es k = some v → ∃ v', m (Z.nm k) = some v' ∧ VR Z ρ v v'
  | .inst c d => ∃ dx, ρ[d]? = some dx ∧ h.get? a = some (instObj (Z.ca c) dx) ∧ ∃ g, Z.P.cls c = some g
variable {Z}
theorem dictOf_same {K : Type} [DecidableEq K] {prog : Program} {w : World} {knd : KeyKind prog w K} {h h' : Heap} {a : Addr} {kvs : List (K × Value)} (hk : ∀ o, h.get? a = some o → h'.get? a = some o) (x : h.DictOf knd a kvs) : h'.DictOf knd a kvs :=
  let ⟨o, es, ep, ho, r⟩ := x; ⟨o, es, ep, hk o ho, r⟩
theorem OR.mono {ρ ρ' : List Addr} {h h' : Heap} {a : Addr} (hp : ρ <+: ρ') (hk : ∀ o, h.get? a = some o → h'.get? a = some o) : ∀ {o : AO}, OR Z ρ h a o → OR Z ρ' h' a o
  | .list _, ⟨vs, ⟨n, e⟩, r⟩ => ⟨vs, ⟨n, hk _ e⟩, r.mono hp⟩
  | .tup _, ⟨vs, ⟨n, e⟩, r⟩ => ⟨vs, ⟨n, hk _ e⟩, r.mono hp⟩
  | .dictI _, ⟨kvs, e, r1, r2⟩ => ⟨kvs, dictOf_same hk e, r1, r2.mono hp⟩
  | .dictS _, ⟨kvs, e, r1, r2, r3⟩ => ⟨kvs, dictOf_same hk e, r1, r2, r3.mono hp⟩
  | .attrs _, ⟨m, ⟨o, es, ep, ho, r⟩, w, q⟩ => ⟨m, ⟨o, es, ep, hk _ ho, r⟩, w, fun k hk => ⟨(q k hk).1, fun v e => let ⟨v', a, b⟩ := (q k hk).2 v e; ⟨v', a, b.mono hp⟩⟩⟩
  | .inst _ d, ⟨dx, e, g, q⟩ => ⟨dx, by
      obtain ⟨t, rfl⟩ := hp
      rw [List.getElem?_append_left (List.getElem?_eq_some_iff.mp e).1]; exact e, hk _ g, q⟩
theorem dict_some {K : Type} [DecidableEq K] {prog : Program} {w : World} {knd : KeyKind prog w K} {h : Heap} {a : Addr} {kvs : List (K × Value)} (q : h.DictOf knd a kvs) : ∃ x, h.get? a = some x := by
  obtain ⟨_, _, _, ho, _⟩ := q
  exact ⟨_, ho⟩
theorem OR.some {ρ : List Addr} {h : Heap} {a : Addr} {o : AO} (q : OR Z ρ h a o) : ∃ x, h.get? a = some x := by
  cases o with
  | list _ => obtain ⟨_, ⟨_, e⟩, _⟩ := q; exact ⟨_, e⟩
  | tup _ => obtain ⟨_, ⟨_, e⟩, _⟩ := q; exact ⟨_, e⟩
  | dictI _ => obtain ⟨_, e, _⟩ := q; exact dict_some e
  | dictS _ => obtain ⟨_, e, _⟩ := q; exact dict_some e
  | attrs _ => obtain ⟨_, ⟨_, _, _, ho, _⟩, _⟩ := q; exact ⟨_, ho⟩
  | inst _ _ => obtain ⟨_, _, g, _⟩ := q; exact ⟨_, g⟩
variable (Z)
structure HR (ρ : List Addr) (H : Hp) (h : Heap) : Prop where
  len : ρ.length = H.length
  nd : ρ.Nodup
  obj : ∀ (i : Nat) (o : AO), H[i]? = some o → ∃ a, ρ[i]? = some a ∧ OR Z ρ h a o
  base : ∀ b o, Z.h₀.get? b = some o → h.get? b = some o
  new : ∀ a ∈ ρ, Z.h₀.get? a = none
structure Grow (X ρ ρ' : List Addr) (h h' : Heap) : Prop where
  pre : ρ <+: ρ'
  new : ∀ a ∈ ρ', a ∈ ρ ∨ h.get? a = none
  keep : ∀ b o, b ∉ ρ → b ∉ X → h.get? b = some o → h'.get? b = some o
  live : ∀ b o, h.get? b = some o → ∃ o', h'.get? b = some o'
variable {Z}
theorem HR.live {ρ : List Addr} {H : Hp} {h : Heap} (R : HR Z ρ H h) {a : Addr} (m : a ∈ ρ) : ∃ o, h.get? a = some o := by
  obtain ⟨i, hi, rfl⟩ := List.mem_iff_getElem.mp m
  have hi' : i < H.length := R.len ▸ hi
  obtain ⟨a, ha, r⟩ := R.obj i H[i] (List.getElem?_eq_getElem hi')
  rw [List.getElem?_eq_getElem hi] at ha
  cases ha
  exact r.some
theorem Grow.refl {X ρ : List Addr} {h : Heap} : Grow X ρ ρ h h := ⟨List.prefix_rfl, fun _ m => .inl m, fun _ _ _ _ e => e, fun _ o e => ⟨o, e⟩⟩
theorem Grow.trans {X ρ ρ1 ρ2 : List Addr} {h h1 h2 : Heap} (a : Grow X ρ ρ1 h h1) (b : Grow X ρ1 ρ2 h1 h2) : Grow X ρ ρ2 h h2 where
  pre := a.pre.trans b.pre
  new := fun x m => (b.new x m).elim (fun m' => a.new x m') fun l => .inr (by
    cases e : h.get? x with
    | none => rfl
    | some o => obtain ⟨o', e'⟩ := a.live x o e; rw [l] at e'; cases e')
  keep := fun x o hn hX e => b.keep x o (fun m => (a.new x m).elim hn fun l => by rw [l] at e; cases e) hX (a.keep x o hn hX e)
  live := fun x o e => let ⟨o', e'⟩ := a.live x o e; b.live x o' e'
theorem Grow.wide {X Y ρ ρ' : List Addr} {h h' : Heap} (a : Grow X ρ ρ' h h') (hs : ∀ x ∈ X, x ∈ Y) : Grow Y ρ ρ' h h' :=
  ⟨a.pre, a.new, fun b o hn hY e => a.keep b o hn (fun m => hY (hs b m)) e, a.live⟩
theorem HR.get {ρ : List Addr} {H : Hp} {h : Heap} (R : HR Z ρ H h) {i : Nat} {o : AO} {c : Addr} (e : H[i]? = some o) (ec : ρ[i]? = some c) : OR Z ρ h c o := by
  obtain ⟨a, ha, r⟩ := R.obj i o e
  rw [ec] at ha; cases ha; exact r
theorem nodup_inj {ρ : List Addr} (nd : ρ.Nodup) {i j : Nat} {a : Addr} (hi : ρ[i]? = some a) (hj : ρ[j]? = some a) : i = j := by
  obtain ⟨li, ei⟩ := List.getElem?_eq_some_iff.mp hi
  obtain ⟨lj, ej⟩ := List.getElem?_eq_some_iff.mp hj
  exact (List.getElem_inj nd).mp (ei.trans ej.symm)
/-- the heap has grown by things of no concern -/
theorem HR.ext {ρ : List Addr} {H : Hp} {h h' : Heap} (R : HR Z ρ H h) (hk : ∀ b o, h.get? b = some o → h'.get? b = some o) : HR Z ρ H h' where
  len := R.len
  nd := R.nd
  obj := fun i o e => let ⟨a, ha, r⟩ := R.obj i o e; ⟨a, ha, r.mono List.prefix_rfl (hk a)⟩
  base := fun b o e => hk b o (R.base b o e)
  new := R.new
theorem Grow.ext {X ρ : List Addr} {h h' : Heap} (hk : ∀ b o, h.get? b = some o → h'.get? b = some o) : Grow X ρ ρ h h' :=
  ⟨List.prefix_rfl, fun _ m => .inl m, fun b o _ _ e => hk b o e, fun b o e => ⟨o, hk b o e⟩⟩
/-- a store outside the walked heap -/
theorem HR.off {ρ : List Addr} {H : Hp} {h h' : Heap} (R : HR Z ρ H h) {c : Addr} (hc : c ∉ ρ) (hb : Z.h₀.get? c = none) (hs : Heap.SameBut c h h') : HR Z ρ H h' where
  len := R.len
  nd := R.nd
  obj := fun i o e => let ⟨a, ha, r⟩ := R.obj i o e; ⟨a, ha, r.mono List.prefix_rfl fun _ e' => (hs.2 a (fun q => hc (q ▸ List.mem_of_getElem? ha))).trans e'⟩
  base := fun b o e => (hs.2 b (fun q => by rw [q, hb] at e; cases e)).trans (R.base b o e)
  new := R.new
theorem Grow.off {X ρ : List Addr} {h h' : Heap} {c : Addr} (hc : c ∈ X) (hs : Heap.SameBut c h h') (hl : ∃ o, h'.get? c = some o) : Grow X ρ ρ h h' :=
  ⟨List.prefix_rfl, fun _ m => .inl m, fun b o _ hX e => (hs.2 b (fun q => hX (q ▸ hc))).trans e, fun b o e => by
    by_cases q : b = c
    · exact q ▸ hl
    · exact ⟨o, (hs.2 b q).trans e⟩⟩
theorem none_size {h : Heap} : h.get? h.objs.size = none := by
  cases e : h.get? h.objs.size with
  | none => rfl
  | some o => exact absurd (Heap.lt_size e) (Nat.lt_irrefl _)
/-- a new object that is walked, at a place that was free -/
theorem HR.add {ρ : List Addr} {H : Hp} {h h' : Heap} (R : HR Z ρ H h) {a : Addr} {o : AO} (hk : ∀ b o, h.get? b = some o → h'.get? b = some o) (ha : h.get? a = none) (r : OR Z (ρ ++ [a]) h' a o) : HR Z (ρ ++ [a]) (H ++ [o]) h' where
  len := by simp [R.len]
  nd := List.nodup_append.mpr ⟨R.nd, by simp, fun b hb c hc => by
    simp at hc; subst hc
    intro q; subst q
    obtain ⟨o, e⟩ := R.live hb
    rw [ha] at e; cases e⟩
  obj := fun i o' e => by
    by_cases hi : i < H.length
    · rw [List.getElem?_append_left hi] at e
      obtain ⟨b, hb, q⟩ := R.obj i o' e
      exact ⟨b, by rw [List.getElem?_append_left (R.len ▸ hi)]; exact hb, q.mono (List.prefix_append ..) (hk b)⟩
    · have hl := (List.getElem?_eq_some_iff.mp e).1
      simp at hl
      have : i = H.length := by lia
      subst this
      rw [List.getElem?_append_right (Nat.le_refl _)] at e
      simp at e; subst e
      exact ⟨a, by rw [← R.len]; simp, r⟩
  base := fun b o' e => hk b o' (R.base b o' e)
  new := fun b m => by
    rcases List.mem_append.mp m with m | m
    · exact R.new b m
    · simp at m; subst m
      cases e : Z.h₀.get? b with
      | none => rfl
      | some o => have := R.base b o e; rw [ha] at this; cases this
theorem Grow.add {X ρ : List Addr} {h h' : Heap} {a : Addr} (hk : ∀ b o, h.get? b = some o → h'.get? b = some o) (ha : h.get? a = none) : Grow X ρ (ρ ++ [a]) h h' where
  pre := List.prefix_append ..
  new := fun b m => by
    rcases List.mem_append.mp m with m | m
    · exact .inl m
    · simp at m; subst m; exact .inr ha
  keep := fun b o _ _ e => hk b o e
  live := fun b o e => ⟨o, hk b o e⟩
theorem HR.push {ρ : List Addr} {H : Hp} {h : Heap} (R : HR Z ρ H h) {x : Obj} {o : AO} (r : OR Z (ρ ++ [h.objs.size]) (h.push x) h.objs.size o) : HR Z (ρ ++ [h.objs.size]) (H ++ [o]) (h.push x) :=
  R.add (fun _ _ e => Heap.get?_push_of_some _ e) none_size r
theorem Grow.push {X ρ : List Addr} {h : Heap} {x : Obj} : Grow X ρ (ρ ++ [h.objs.size]) h (h.push x) := Grow.add (fun _ _ e => Heap.get?_push_of_some _ e) none_size
/-- an object of the walked heap is changed -/
theorem HR.set {ρ : List Addr} {H : Hp} {h h' : Heap} (R : HR Z ρ H h) {i : Nat} {c : Addr} {o : AO} (hi : ρ[i]? = some c) (hs : Heap.SameBut c h h') (r : OR Z ρ h' c o) : HR Z ρ (H.set i o) h' where
  len := by simp [R.len]
  nd := R.nd
  obj := fun j o' e => by
    by_cases hj : i = j
    · subst hj
      rw [List.getElem?_set_self (by have := (List.getElem?_eq_some_iff.mp hi).1; rw [R.len] at this; exact this)] at e
      cases e; exact ⟨c, hi, r⟩
    · rw [List.getElem?_set_ne hj] at e
      obtain ⟨a, ha, q⟩ := R.obj j o' e
      exact ⟨a, ha, q.mono List.prefix_rfl fun _ e' => (hs.2 a (fun z => hj (nodup_inj R.nd hi (z ▸ ha)))).trans e'⟩
  base := fun b o' e => (hs.2 b (fun q => by rw [q, R.new c (List.mem_of_getElem? hi)] at e; cases e)).trans (R.base b o' e)
  new := R.new
theorem Grow.set {X ρ : List Addr} {h h' : Heap} {c : Addr} (hc : c ∈ ρ) (hs : Heap.SameBut c h h') (hl : ∃ o, h'.get? c = some o) : Grow X ρ ρ h h' :=
  ⟨List.prefix_rfl, fun _ m => .inl m, fun b o hn _ e => (hs.2 b (fun q => hn (q ▸ hc))).trans e, fun b o e => by
    by_cases q : b = c
    · exact q ▸ hl
    · exact ⟨o, (hs.2 b q).trans e⟩⟩
variable (Z)
/-- the locals of a block -/
structure LR (env : Env) (nl : List Str) (ls : List AV) (ρ : List Addr) (h : Heap) : Prop where
  len : ls.length = nl.length
  ns : ∃ m, h.Ns env.locals m ∧ ∀ (i : Nat) (x : Str) (v : AV), nl[i]? = some x → ls[i]? = some v → v ≠ .unb → env.kindOf x = some .local → ∃ v', m x = some v' ∧ VR Z ρ v v'
  cells : ∀ (i : Nat) (x : Str) (v : AV), nl[i]? = some x → ls[i]? = some v → env.kindOf x = some .cell → ∃ c v0, env.cells.lookup x = some c ∧ h.IsCell c v0 ∧ (v ≠ .unb → ∃ v', v0 = some v' ∧ VR Z ρ v v')
  offL : env.locals ∉ ρ
  offC : ∀ p ∈ env.cells, p.2 ∉ ρ
  newL : Z.h₀.get? env.locals = none
  newC : ∀ p ∈ env.cells, Z.h₀.get? p.2 = none
  liveC : ∀ p ∈ env.cells, ∃ o, h.get? p.2 = some o
  apart : ∀ p ∈ env.cells, p.2 ≠ env.locals
  apartC : env.cells.Pairwise fun x y => x.2 ≠ y.2
variable {Z}
theorem LR.grow {env : Env} {nl : List Str} {ls : List AV} {ρ ρ' : List Addr} {h h' : Heap} (L : LR Z env nl ls ρ h) (G : Grow [] ρ ρ' h h') : LR Z env nl ls ρ' h' := by
  obtain ⟨m, hm, hv⟩ := L.ns
  refine ⟨L.len, ⟨m, ?_, fun i x v h1 h2 h3 h4 => ?_⟩, fun i x v h1 h2 h4 => ?_, fun hm' => ?_, fun p hp hm' => ?_, L.newL, L.newC, fun p hp => ?_, L.apart, L.apartC⟩
  · obtain ⟨o, es, ep, ho, r⟩ := hm
    exact ⟨o, es, ep, G.keep _ _ L.offL (by simp) ho, r⟩
  · obtain ⟨v', a, b⟩ := hv i x v h1 h2 h3 h4
    exact ⟨v', a, b.mono G.pre⟩
  · obtain ⟨c, v0, hc, ⟨o, ho, hd⟩, hq⟩ := L.cells i x v h1 h2 h4
    refine ⟨c, v0, hc, ⟨o, G.keep _ _ (L.offC (x, c) (mem_of_lookup hc)) (by simp) ho, hd⟩, fun hn => ?_⟩
    obtain ⟨v', a, b⟩ := hq hn
    exact ⟨v', a, b.mono G.pre⟩
  · obtain ⟨o, es, ep, ho, r⟩ := hm
    exact (G.new _ hm').elim L.offL fun l => by rw [l] at ho; cases ho
  · obtain ⟨o, ho⟩ := L.liveC p hp
    exact (G.new _ hm').elim (L.offC p hp) fun l => by rw [l] at ho; cases ho
  · obtain ⟨o, ho⟩ := L.liveC p hp
    exact G.live _ _ ho
variable (Z)
/-- what an expression's tree comes to -/
inductive PV (X : List Addr) (ρ : List Addr) (s : Shared) (v : AV) (H' : Hp) (v' : Value) : Shared → Prop
  | mk (h' : Heap) (tk : Nat) (ρ' : List Addr) (R : HR Z ρ' H' h') (G : Grow X ρ ρ' s.heap h') (r : VR Z ρ' v v') : PV X ρ s v H' v' { s with heap := h', toks := tk }
inductive PU (X : List Addr) (ρ : List Addr) (s : Shared) (H' : Hp) : Shared → Prop
  | mk (h' : Heap) (tk : Nat) (ρ' : List Addr) (R : HR Z ρ' H' h') (G : Grow X ρ ρ' s.heap h') : PU X ρ s H' { s with heap := h', toks := tk }
/-- the same, of a run that brings Q about -/
inductive PQ (ρ : List Addr) (s : Shared) (Q : QV) (v' : Value) : Shared → Prop
  | mk (v : AV) (H' : Hp) (h' : Heap) (tk : Nat) (ρ' : List Addr) (q : Q v H') (R : HR Z ρ' H' h') (G : Grow [] ρ ρ' s.heap h') (r : VR Z ρ' v v') : PQ ρ s Q v' { s with heap := h', toks := tk }
inductive PQs (ρ : List Addr) (s : Shared) (Q : QL) (vs' : List Value) : Shared → Prop
  | mk (vs : List AV) (H' : Hp) (h' : Heap) (tk : Nat) (ρ' : List Addr) (q : Q vs H') (R : HR Z ρ' H' h') (G : Grow [] ρ ρ' s.heap h') (r : VRs Z ρ' vs vs') : PQs ρ s Q vs' { s with heap := h', toks := tk }
/-- of a test -/
inductive PT (ρ : List Addr) (s : Shared) (Q : QV) (b : Bool) : Shared → Prop
  | mk (H' : Hp) (h' : Heap) (tk : Nat) (ρ' : List Addr) (q : Q (.bool b) H') (R : HR Z ρ' H' h') (G : Grow [] ρ ρ' s.heap h') : PT ρ s Q b { s with heap := h', toks := tk }
abbrev Wp {α : Type} (A : Around) (t : Sem α) (Q : α → Shared → Prop) (s : Shared) : Prop := wpAny (model Z.prog Z.w) A t Q (fun _ _ => False) s
variable {Z}
theorem Wp.mono {α : Type} {A : Around} {t : Sem α} {Q Q' : α → Shared → Prop} {s : Shared} (h : Wp Z A t Q s) (q : ∀ a s, Q a s → Q' a s) : Wp Z A t Q' s :=
  wpAny_mono h q fun _ _ e => e
theorem Wp.any {α : Type} {A : Around} {t : Sem α} {Q : α → Shared → Prop} {E : Value → Shared → Prop} {s : Shared} (h : Wp Z A t Q s) : wpAny (model Z.prog Z.w) A t Q E s :=
  wpAny_mono h (fun _ _ q => q) fun _ _ e => e.elim
/-- the room that a call d deep wants -/
theorem lt_of {a b c d : Nat} (h : a + c < d) (e : b ≤ a + c) : b < d := Nat.lt_of_le_of_lt e h
theorem deep_le {a d k m j : Nat} (h : j ≤ m) : a + j + m * d + k ≤ a + m * (d + 1) + k := by
  rw [Nat.mul_succ, Nat.add_assoc a j, Nat.add_comm j]
  exact Nat.add_le_add_right (Nat.add_le_add_left (Nat.add_le_add_left h _) _) _
theorem turn_lt {n i : Nat} (h : i < n) : n + 1 - (i + 1) < n + 1 - i := by rw [Nat.add_sub_add_right, Nat.sub_add_comm (Nat.le_of_lt h)]; exact Nat.lt_succ_self _
theorem drop_end {α : Type} {l : List α} {i : Nat} (h : l.drop i = []) (hi : i ≤ l.length) : i = l.length := Nat.le_antisymm hi (List.drop_eq_nil_iff.mp h)
structure AOk (d : Nat) (A : Around) : Prop where
  hh : A.handled = none
  dep : A.depth + 4 * d + 20 < recursionLimit
  un : A.units + 10 * d + 100 < cLine
end Mine
end
-- U2
section
set_option tactic.hygienic false
namespace Mine
open PySem PySem.W PyProof.Rows PySem.Calls PySem.SeqAt
structure WF0 (Z : Wd) : Prop where
  stat : ∀ g, OR Z [] Z.h₀ (Z.ga g) (Z.P.stat g)
  inj : ∀ i j, i < Z.nN → j < Z.nN → Z.nm i = Z.nm j → i = j
  nodict : ∀ g es, Z.P.stat g ≠ .dictI es
  nodictS : ∀ g es, Z.P.stat g ≠ .dictS es
  sys : ∀ a : Addr, Z.h₀.get? a = none → (a == sysModules) = false
  first : ∀ k c, Z.P.first k = some c → k < Z.nN → c < Z.nN ∧ ∃ n, (Z.nm k).cps[0]? = some n ∧ Z.nm c = ⟨#[n]⟩
variable {Z : Wd}
theorem HR.stat {ρ : List Addr} {H : Hp} {h : Heap} (W : WF0 Z) (R : HR Z ρ H h) (g : Nat) : OR Z ρ h (Z.ga g) (Z.P.stat g) :=
  (W.stat g).mono (List.nil_prefix) fun o e => R.base _ o e
theorem HR.robj {ρ : List Addr} {H : Hp} {h : Heap} (W : WF0 Z) (R : HR Z ρ H h) {v : AV} {v' : Value} {o : AO} (r : VR Z ρ v v') (e : Mine.obj Z.P H v = some o) : ∃ a, v' = .ref a ∧ OR Z ρ h a o := by
  cases v with
  | ref i =>
    obtain ⟨c, hc, rfl⟩ := r
    exact ⟨c, rfl, R.get e hc⟩
  | st g =>
    cases r
    simp only [Mine.obj, Option.some.injEq] at e
    subst e
    exact ⟨_, rfl, R.stat W g⟩
  | _ => simp [Mine.obj] at e
theorem listAt.isList {h : Heap} {a : Addr} {vs : List Value} (x : listAt h a vs) : h.IsList a vs.toArray := let ⟨n, e⟩ := x; ⟨_, e, rfl, n, rfl⟩
theorem tupAt.isTuple {h : Heap} {a : Addr} {vs : List Value} (x : tupAt h a vs) : h.IsTuple a vs.toArray := let ⟨n, e⟩ := x; ⟨_, e, rfl, n, rfl⟩
theorem tupAt.isTup {h : Heap} {a : Addr} {vs : List Value} (x : tupAt h a vs) : IsTup h a vs.toArray := let ⟨n, e⟩ := x; ⟨_, e, rfl, n, rfl⟩
/-- a value by itself -/
theorem PV.here {X ρ : List Addr} {s : Shared} {v : AV} {H : Hp} {v' : Value} {tk : Nat} (R : HR Z ρ H s.heap) (r : VR Z ρ v v') : PV Z X ρ s v H v' { s with toks := tk } :=
  ⟨s.heap, tk, ρ, R, Grow.refl, r⟩
/-- a new object -/
theorem PV.made {X ρ : List Addr} {s : Shared} {H : Hp} {x : Obj} {o : AO} {tk : Nat} (R : HR Z ρ H s.heap) (r : OR Z (ρ ++ [s.heap.objs.size]) (s.heap.push x) s.heap.objs.size o) :
    PV Z X ρ s (.ref H.length) (H ++ [o]) (.ref s.heap.objs.size) { s with heap := s.heap.push x, toks := tk } :=
  ⟨_, tk, _, R.push r, Grow.push, ⟨s.heap.objs.size, by rw [← R.len]; simp, rfl⟩⟩
theorem list_new {ρ : List Addr} {h : Heap} {xs : List AV} {vs : List Value} (r : VRs Z ρ xs vs) : OR Z (ρ ++ [h.objs.size]) (h.push { cls := .type "list", data := .seq vs.toArray }) h.objs.size (.list xs) :=
  ⟨vs, ⟨0, Heap.get?_push_size _ rfl⟩, r.mono (List.prefix_append ..)⟩
theorem tup_new {ρ : List Addr} {h : Heap} {xs : List AV} {vs : List Value} (r : VRs Z ρ xs vs) : OR Z (ρ ++ [h.objs.size]) (h.push { cls := .type "tuple", data := .seq vs.toArray }) h.objs.size (.tup xs) :=
  ⟨vs, ⟨0, Heap.get?_push_size _ rfl⟩, r.mono (List.prefix_append ..)⟩
theorem small_iff {i : Int} : small i = true ↔ -(2 ^ 62) ≤ i ∧ i < 2 ^ 62 := by simp [small]
theorem vrs_replicate {ρ : List Addr} {x : AV} {v : Value} (r : VR Z ρ x v) : ∀ n, VRs Z ρ (List.replicate n x) (List.replicate n v)
  | 0 => trivial
  | n + 1 => ⟨r, vrs_replicate r n⟩
theorem foldl_push1 (v : Value) : ∀ (n : Nat) (acc : Array Value), List.foldl (fun x1 x2 => x1 ++ x2) acc (List.replicate n #[v]) = (acc.toList ++ List.replicate n v).toArray
  | 0, acc => by simp
  | n + 1, acc => by
    rw [List.replicate_succ, List.foldl_cons, foldl_push1 v n]
    simp [List.replicate_succ]
noncomputable def opOf : Op → Operator
  | .add => .Add | .addi => .Add | .sub => .Sub | .mul => .Mult | .fdiv => .FloorDiv | .mod => .Mod
theorem size24 : sizeLine = 16777216 := by decide
theorem ints_inv {α : Type} {a b : AV} {k : Int → Int → Option α} {r : α} (e : (match a, b with | .int x, .int y => k x y | _, _ => none) = some r) : ∃ x y, a = .int x ∧ b = .int y ∧ k x y = some r := by
  cases a with
  | int x => cases b with
    | int y => exact ⟨x, y, rfl, rfl, e⟩
    | _ => exact no_some e
  | _ => exact no_some e
theorem bin_sound (W : WF0 Z) {ρ : List Addr} {H H' : Hp} {op : Op} {a b v : AV} {a' b' : Value} {A : Around} {s : Shared} (R : HR Z ρ H s.heap) (ra : VR Z ρ a a') (rb : VR Z ρ b b')
    (e : evBin Z.P op a b H = some (v, H')) : Wp Z A (binaryOp (opOf op) a' b') (PV Z [] ρ s v H') s := by
  cases op with
  | add =>
    have e : evAdd Z.P a b H = some (v, H') := e
    unfold evAdd at e
    cases h1 : obj Z.P H a with
    | none =>
      rw [h1] at e
      cases h2 : obj Z.P H b with
      | some _ => rw [h2] at e; exact no_some e
      | none =>
        rw [h2] at e
        obtain ⟨x, y, rfl, rfl, e⟩ := ints_inv (k := fun x y => some (AV.int (x + y), H)) e
        obtain ⟨t, rfl⟩ := ra; obtain ⟨u, rfl⟩ := rb; cases e
        exact add_int (PV.here R ⟨_, rfl⟩)
    | some o =>
      rw [h1] at e
      cases h2 : obj Z.P H b with
      | none => rw [h2] at e; cases o <;> exact no_some e
      | some o2 =>
        rw [h2] at e
        cases o with
        | list xs => cases o2 with
          | list ys =>
            by_cases hl : xs.length + ys.length ≤ 1000000
            · cases (if_pos hl).symm.trans e
              obtain ⟨l1, rfl, vs, ⟨n1, e1⟩, r1⟩ := R.robj W ra h1
              obtain ⟨l2, rfl, ws, ⟨n2, e2⟩, r2⟩ := R.robj W rb h2
              refine PySem.P.add_list (items := vs.toArray) (items2 := ws.toArray) e1 e2 ?_ (by simp [r1.length, r2.length, size24]; lia)
              rw [List.append_toArray]
              exact PV.made R (list_new (r1.append r2))
            · exact no_some ((if_neg hl).symm.trans e)
          | _ => exact no_some e
        | _ => exact no_some e
  | addi =>
    obtain ⟨x, y, rfl, rfl, e⟩ := ints_inv (k := fun x y => some (AV.int (x + y), H)) e
    obtain ⟨t, rfl⟩ := ra; obtain ⟨u, rfl⟩ := rb; cases e
    exact add_int (PV.here R ⟨_, rfl⟩)
  | sub =>
    obtain ⟨x, y, rfl, rfl, e⟩ := ints_inv (k := fun x y => some (AV.int (x - y), H)) e
    obtain ⟨t, rfl⟩ := ra; obtain ⟨u, rfl⟩ := rb; cases e
    exact sub_int (PV.here R ⟨_, rfl⟩)
  | mul =>
    have e : evMul Z.P a b H = some (v, H') := e
    unfold evMul at e
    cases h1 : obj Z.P H a with
    | none =>
      rw [h1] at e
      cases b with
      | int y => cases a with
        | int x =>
          by_cases hs : small x = true
          · cases (if_pos hs).symm.trans e
            obtain ⟨t, rfl⟩ := ra; obtain ⟨u, rfl⟩ := rb
            obtain ⟨h1, h2⟩ := small_iff.mp hs
            exact mul_int (PV.here R ⟨_, rfl⟩) (IntMulOk.of_left (intBits_le_64 (by lia) (by lia)))
          · exact no_some ((if_neg hs).symm.trans e)
        | _ => exact no_some e
      | _ => exact no_some e
    | some o =>
      rw [h1] at e
      cases o with
      | list xs => cases b with
        | int n => cases xs with
          | nil => exact no_some e
          | cons x xs => cases xs with
            | cons _ _ => exact no_some e
            | nil =>
              by_cases hn : n ≤ 1000000 ∧ -1000000 ≤ n
              · cases (if_pos hn).symm.trans e
                obtain ⟨u, rfl⟩ := rb
                obtain ⟨l, rfl, vs, ⟨k, e1⟩, r1⟩ := R.robj W ra h1
                obtain ⟨v, vs', rfl, rv, r2⟩ := r1.cons_inv
                obtain rfl := r2.nil_inv
                have q := wpAny_binaryOp_repeat_ref (M := model Z.prog Z.w) (A := A) (E := fun _ _ => False) (s := s) (a := .ref l) (n := .int n u) (T := "list") (U := "int") (Q := PV Z [] ρ s (.ref H.length) (H ++ [.list (List.replicate n.toNat x)]))
                  (by decide) ⟨_, e1, rfl⟩ (fun s' => typeIs_int s' n u) noFill_list_mul F.fills_int_mul F.slot_int_rmul repeat_list F.slot_int_index.lookup
                refine q (call_meets F.slot_int_rmul (typeIs_int s n u) F.entry_int_rmul (F.args_int_rmul_2 _ _) (int___rmul___int_list n u l _ k) ⟨e1, rfl, ⟨_, e1, rfl⟩, ?_⟩)
                refine call_meets F.slot_list_mul ⟨_, e1, rfl⟩ F.entry_list_mul (F.args_list_mul_2 _ _) (AutoListH.list___mul___list_int_3 l _ k n u ?_ ?_ ?_) ⟨e1, ?_⟩
                · simp [Builtin.List.listFitsIndex]; lia
                · simp; lia
                · simp [Builtin.List.listTooLong, size24]; lia
                · have e2 : (List.foldl (fun x1 x2 => x1 ++ x2) #[] (List.replicate (if ([v].toArray).isEmpty = true then 0 else n.toNat) [v].toArray)) = (List.replicate n.toNat v).toArray := by
                    simp [foldl_push1]
                  rw [e2]
                  exact PV.made R (list_new (vrs_replicate rv _))
              · exact no_some ((if_neg hn).symm.trans e)
        | _ => cases xs with
          | nil => exact no_some e
          | cons x xs => cases xs <;> exact no_some e
      | _ => exact no_some e
  | fdiv =>
    obtain ⟨x, y, rfl, rfl, e⟩ := ints_inv (k := fun x y => if y = 0 then none else if y.natAbs < 1073741824 then some (AV.int (Int.fdiv x y), H) else none) e
    obtain ⟨t, rfl⟩ := ra; obtain ⟨u, rfl⟩ := rb
    by_cases hb : y = 0
    · exact no_some ((if_pos hb).symm.trans e)
    · have e := (if_neg hb).symm.trans e
      by_cases hy : y.natAbs < 1073741824
      · cases (if_pos hy).symm.trans e
        exact floordiv_int hb (PV.here R ⟨_, rfl⟩) (.inl (PyProof.noPylong_small hy))
      · exact no_some ((if_neg hy).symm.trans e)
  | mod =>
    obtain ⟨x, y, rfl, rfl, e⟩ := ints_inv (k := fun x y => if y = 0 then none else some (AV.int (Int.fmod x y), H)) e
    obtain ⟨t, rfl⟩ := ra; obtain ⟨u, rfl⟩ := rb
    by_cases hb : y = 0
    · exact no_some ((if_pos hb).symm.trans e)
    · cases (if_neg hb).symm.trans e
      exact mod_int' hb (PV.here R ⟨_, rfl⟩)
end Mine
end
-- U3
section
set_option tactic.hygienic false
namespace Mine
open PySem PySem.W PyProof.Rows PySem.Calls PySem.SeqAt
variable {Z : Wd}
theorem eqAt_sound (W : WF0 Z) {ρ : List Addr} {a b : AV} {a' b' : Value} {r : Bool} (A : Around) (s : Shared) (ra : VR Z ρ a a') (rb : VR Z ρ b b') (e : eqAt a b = some r) :
    EqAt A s a' b' r ∧ RcAt A s a' b' r ∧ RcNeAt A s a' b' (!r) := by
  cases eqAt_inv e with
  | n => cases ra; cases rb; exact ⟨EqAt.same _, RcAt.none_none, RcNeAt.none_none⟩
  | i x y =>
    obtain ⟨t, rfl⟩ := ra; obtain ⟨u, rfl⟩ := rb
    exact ⟨EqAt.int_int _ _ _ _, RcAt.int_int _ _ _ _, RcNeAt.int_int _ _ _ _⟩
  | s x y =>
    obtain ⟨h1, t, rfl⟩ := ra; obtain ⟨h2, u, rfl⟩ := rb
    have q : decide (x = y) = (Z.nm x == Z.nm y) := by
      by_cases h : x = y
      · subst h; rw [decide_eq_true rfl, beq_self_eq_true]
      · rw [decide_eq_false h, beq_eq_false_iff_ne.mpr fun q => h (W.inj _ _ h1 h2 q)]
    rw [q]
    exact ⟨EqAt.str_str _ _ _ _, RcAt.str_str _ _ _ _, RcNeAt.str_str _ _ _ _⟩
  | b x y =>
    cases ra; cases rb
    have q : decide (x = y) = (x == y) := by cases x <;> cases y <;> rfl
    rw [q]
    exact ⟨EqAt.bool_bool _ _, RcAt.bool_bool _ _, RcNeAt.bool_bool _ _⟩
  | ni => cases ra; obtain ⟨u, rfl⟩ := rb; exact ⟨EqAt.none_int _ _, RcAt.none_int _ _, RcNeAt.none_int _ _⟩
  | «in» => cases rb; obtain ⟨u, rfl⟩ := ra; exact ⟨EqAt.int_none _ _, RcAt.int_none _ _, RcNeAt.int_none _ _⟩
  | ns => cases ra; obtain ⟨_, u, rfl⟩ := rb; exact ⟨EqAt.none_str _ _, RcAt.none_str _ _, RcNeAt.none_str _ _⟩
  | sn => cases rb; obtain ⟨_, u, rfl⟩ := ra; exact ⟨EqAt.str_none _ _, RcAt.str_none _ _, RcNeAt.str_none _ _⟩
theorem eqAt_same (W : WF0 Z) {ρ : List Addr} {a b : AV} {v : Value} {r : Bool} (ra : VR Z ρ a v) (rb : VR Z ρ b v) (e : eqAt a b = some r) : r = true := by
  cases eqAt_inv e with
  | n => rfl
  | i => obtain ⟨t, rfl⟩ := ra; obtain ⟨u, q⟩ := rb; cases q; exact decide_eq_true rfl
  | s =>
    obtain ⟨h1, t, rfl⟩ := ra; obtain ⟨h2, u, q⟩ := rb
    injection q with q _
    exact decide_eq_true (W.inj _ _ h1 h2 q)
  | b => cases ra; cases rb; exact decide_eq_true rfl
  | ni => cases ra; obtain ⟨u, q⟩ := rb; cases q
  | «in» => cases rb; obtain ⟨u, q⟩ := ra; cases q
  | ns => cases ra; obtain ⟨_, u, q⟩ := rb; cases q
  | sn => cases rb; obtain ⟨_, u, q⟩ := ra; cases q
noncomputable def shiftE (b : Bool) (e : Nat → Bool) : Nat → Bool
  | 0 => b
  | n + 1 => e n
theorem all_shift (b : Bool) (e : Nat → Bool) (n : Nat) : (List.range (n + 1)).all (shiftE b e) = (b && (List.range n).all e) := by
  rw [List.range_succ_eq_map, List.all_cons, List.all_map]
  rfl
theorem eqL_sound (W : WF0 Z) {ρ : List Addr} (A : Around) (s : Shared) : ∀ {xs ys : List AV} {vs ws : List Value} {r : Bool}, VRs Z ρ xs vs → VRs Z ρ ys ws → eqL xs ys = some r →
    ∃ e : Nat → Bool, (∀ j (h1 : j < vs.length) (h2 : j < ws.length), EqAt A s vs[j] ws[j] (e j)) ∧ (List.range vs.length).all e = r := by
  intro xs
  induction xs with
  | nil =>
    intro ys vs ws r h1 h2 e
    cases ys with
    | nil =>
      obtain rfl := h1.nil_inv
      cases e
      exact ⟨fun _ => true, fun j h => by simp at h, rfl⟩
    | cons y ys => simp [eqL] at e
  | cons x xs ih =>
    intro ys vs ws r h1 h2 e
    cases ys with
    | nil => simp [eqL] at e
    | cons y ys =>
      obtain ⟨v, vs, rfl, r1, h1⟩ := h1.cons_inv
      obtain ⟨w, ws, rfl, r2, h2⟩ := h2.cons_inv
      simp only [eqL] at e
      split at e
      · rename_i a b ea eb
        cases e
        obtain ⟨g, hg, hr⟩ := ih h1 h2 eb
        refine ⟨shiftE a g, fun j j1 j2 => ?_, by rw [List.length_cons, all_shift, hr]⟩
        cases j with
        | zero => exact (eqAt_sound W A s r1 r2 ea).1
        | succ j => exact hg j (by simpa using j1) (by simpa using j2)
      · cases e
set_option tactic.hygienic true in
theorem eqL_same (W : WF0 Z) {ρ : List Addr} : ∀ {xs ys : List AV} {vs : List Value} {r : Bool}, VRs Z ρ xs vs → VRs Z ρ ys vs → eqL xs ys = some r → r = true := by
  intro xs
  induction xs with
  | nil =>
    intro ys vs r h1 h2 e
    cases ys with
    | nil => cases e; rfl
    | cons y ys => simp [eqL] at e
  | cons x xs ih =>
    intro ys vs r h1 h2 e
    cases ys with
    | nil => simp [eqL] at e
    | cons y ys =>
      obtain ⟨v, vs, rfl, r1, h1⟩ := h1.cons_inv
      obtain ⟨r2, h2⟩ := h2
      simp only [eqL] at e
      split at e
      · rename_i a b ea eb
        cases e
        rw [eqAt_same W r1 r2 ea, ih h1 h2 eb]; rfl
      · cases e
theorem lists_sound (W : WF0 Z) {ρ : List Addr} {A : Around} {s : Shared} {l1 l2 : Addr} {xs ys : List AV} {vs ws : List Value} {r : Bool} (hu : A.units < cLine) (h1 : listAt s.heap l1 vs) (h2 : listAt s.heap l2 ws) (r1 : VRs Z ρ xs vs) (r2 : VRs Z ρ ys ws)
    (e : (if xs.length = ys.length then eqL xs ys else some false) = some r) :
    EqAt A s (.ref l1) (.ref l2) r ∧ RcAt A s (.ref l1) (.ref l2) r ∧ RcNeAt A s (.ref l1) (.ref l2) (!r) := by
  split at e
  · rename_i hl
    obtain ⟨g, hg, hr⟩ := eqL_sound W A.in1 s r1 r2 e
    have hsz : vs.toArray.size = ws.toArray.size := by simp [r1.length, r2.length, hl]
    have q1 := RcAt.lists (A := A) (e := g) h1.isList h2.isList hsz hu (fun j j1 j2 => by simpa using hg j (by simpa using j1) (by simpa using j2))
    have q2 := RcNeAt.lists (A := A) (e := g) h1.isList h2.isList hsz hu (fun j j1 j2 => by simpa using hg j (by simpa using j1) (by simpa using j2))
    rw [List.size_toArray, hr] at q1 q2
    refine ⟨?_, q1, q2⟩
    by_cases hne : l1 = l2
    · subst hne
      obtain ⟨n1, e1⟩ := h1
      obtain ⟨n2, e2⟩ := h2
      rw [e1] at e2
      have : vs = ws := by
        injection e2 with e2
        injection e2 with _ _ e2 _
        injection e2 with e2 _
        simpa using e2
      subst this
      rw [eqL_same W r1 r2 e]
      exact EqAt.same _
    · exact EqAt.of_refs hne q1
  · rename_i hl
    cases e
    have hsz : (vs.toArray.size != ws.toArray.size) = true := by simp [r1.length, r2.length, hl]
    have q1 := RcAt.lists_lengths (A := A) h1.isList h2.isList hsz hu
    refine ⟨?_, q1, RcNeAt.lists_lengths (A := A) h1.isList h2.isList hsz hu⟩
    by_cases hne : l1 = l2
    · subst hne
      obtain ⟨n1, e1⟩ := h1
      obtain ⟨n2, e2⟩ := h2
      rw [e1] at e2
      have : vs = ws := by
        injection e2 with e2
        injection e2 with _ _ e2 _
        injection e2 with e2 _
        simpa using e2
      subst this
      exact absurd (r1.length.symm.trans r2.length) hl
    · exact EqAt.of_refs hne q1
theorem eq1_sound (W : WF0 Z) {ρ : List Addr} {H : Hp} {A : Around} {s : Shared} {a b : AV} {a' b' : Value} {r : Bool} (hu : A.units < cLine) (R : HR Z ρ H s.heap) (ra : VR Z ρ a a') (rb : VR Z ρ b b') (e : eq1 Z.P H a b = some r) :
    EqAt A s a' b' r := by
  rcases eq1_inv e with ⟨xs, ys, h1, h2, e⟩ | e
  · obtain ⟨l1, rfl, vs, e1, r1⟩ := R.robj W ra h1
    obtain ⟨l2, rfl, ws, e2, r2⟩ := R.robj W rb h2
    exact (lists_sound W hu e1 e2 r1 r2 e).1
  · exact (eqAt_sound W A s ra rb e).1
theorem eq2L_sound (W : WF0 Z) {ρ : List Addr} {H : Hp} {A : Around} {s : Shared} (hu : A.units < cLine) (R : HR Z ρ H s.heap) : ∀ {xs ys : List AV} {vs ws : List Value} {r : Bool}, VRs Z ρ xs vs → VRs Z ρ ys ws → eq2L Z.P H xs ys = some r →
    xs.length = ys.length ∧ ∃ e : Nat → Bool, (∀ j (h1 : j < vs.length) (h2 : j < ws.length), EqAt A s vs[j] ws[j] (e j)) ∧ (List.range vs.length).all e = r := by
  intro xs
  induction xs with
  | nil =>
    intro ys vs ws r h1 h2 e
    cases ys with
    | nil =>
      obtain rfl := h1.nil_inv
      cases e
      exact ⟨rfl, fun _ => true, fun j h => by simp at h, rfl⟩
    | cons y ys => simp [eq2L] at e
  | cons x xs ih =>
    intro ys vs ws r h1 h2 e
    cases ys with
    | nil => simp [eq2L] at e
    | cons y ys =>
      obtain ⟨v, vs, rfl, r1, h1⟩ := h1.cons_inv
      obtain ⟨w, ws, rfl, r2, h2⟩ := h2.cons_inv
      simp only [eq2L] at e
      split at e
      · rename_i a b ea eb
        cases e
        obtain ⟨hl, g, hg, hr⟩ := ih h1 h2 eb
        refine ⟨by simp [hl], shiftE a g, fun j j1 j2 => ?_, by rw [List.length_cons, all_shift, hr]⟩
        cases j with
        | zero => exact eq1_sound W hu R r1 r2 ea
        | succ j => exact hg j (by simpa using j1) (by simpa using j2)
      · cases e
theorem valI_sound {ρ : List Addr} : ∀ {es : List (Int × AV)} {kvs : List (Int × Value)} (k : Int), KI Z ρ es kvs →
    (valI es k = none ∧ valueAt kvs k = none) ∨ ∃ v w, valI es k = some v ∧ valueAt kvs k = some w ∧ VR Z ρ v w
  | [], [], k, _ => .inl ⟨rfl, rfl⟩
  | [], _ :: _, _, h => by simp [KI] at h
  | _ :: _, [], _, h => by simp [KI] at h
  | (a, v) :: es, (b, w) :: kvs, k, h => by
    obtain ⟨h1, h2⟩ := h
    simp only [List.map_cons, List.cons.injEq] at h1
    obtain ⟨rfl, h1⟩ := h1
    have ih := valI_sound k (es := es) (kvs := kvs) ⟨h1, h2.2⟩
    simp only [valI, valueAt, List.find?_cons] at ih ⊢
    by_cases hk : b = k
    · subst hk
      exact .inr ⟨v, w, by simp, by simp, h2.1⟩
    · simp only [hk, decide_false]
      exact ih
theorem valS_sound (W : WF0 Z) {ρ : List Addr} : ∀ {es : List (Nat × AV)} {kvs : List (Str × Value)} (k : Nat), k < Z.nN → KS Z ρ es kvs →
    (valS es k = none ∧ valueAt kvs (Z.nm k) = none) ∨ ∃ v w, valS es k = some v ∧ valueAt kvs (Z.nm k) = some w ∧ VR Z ρ v w
  | [], [], k, _, _ => .inl ⟨rfl, rfl⟩
  | [], _ :: _, _, _, h => by simp [KS] at h
  | _ :: _, [], _, _, h => by simp [KS] at h
  | (a, v) :: es, (b, w) :: kvs, k, hk, h => by
    obtain ⟨h1, h3, h2⟩ := h
    simp only [List.map_cons, List.cons.injEq] at h1
    obtain ⟨rfl, h1⟩ := h1
    have ha := h3 (a, v) (by simp)
    have ih := valS_sound W k hk (es := es) (kvs := kvs) ⟨h1, fun e m => h3 e (by simp [m]), h2.2⟩
    simp only [valS, valueAt, List.find?_cons] at ih ⊢
    by_cases hq : a = k
    · subst hq
      exact .inr ⟨v, w, by simp, by simp, h2.1⟩
    · have hq' : Z.nm a ≠ Z.nm k := fun q => hq (W.inj _ _ ha hk q)
      simp only [hq, hq', decide_false]
      exact ih
theorem eqDict_sound (W : WF0 Z) {ρ : List Addr} {A : Around} {s : Shared} {fs : List (Int × AV)} {kb : List (Int × Value)} (hb : KI Z ρ fs kb) : ∀ {es : List (Int × AV)} {ka : List (Int × Value)} {r : Bool}, KI Z ρ es ka →
    es.foldr (fun kv r => match valI fs kv.1 with
      | none => some false
      | some w => match eqAt kv.2 w, r with
        | some a, some b => some (a && b)
        | _, _ => none) (some true) = some r → KeqHits A s kb ka r
  | [], [], r, _, e => by cases e; exact .nil
  | [], _ :: _, _, h, _ => by simp [KI] at h
  | _ :: _, [], _, h, _ => by simp [KI] at h
  | (a, v) :: es, (b, w) :: ka, r, h, e => by
    obtain ⟨h1, h2⟩ := h
    simp only [List.map_cons, List.cons.injEq] at h1
    obtain ⟨rfl, h1⟩ := h1
    rw [List.foldr_cons] at e
    rcases valI_sound b hb with ⟨q1, q2⟩ | ⟨y, y', q1, q2, q3⟩
    · simp only [q1] at e
      cases e
      exact .miss q2
    · simp only [q1] at e
      split at e
      · rename_i e1 e2
        cases e
        exact .hit q2 (eqAt_sound W A s h2.1 q3 e1).1 (eqDict_sound W hb ⟨h1, h2.2⟩ e2)
      · cases e
theorem eq2_sound (W : WF0 Z) {ρ : List Addr} {H : Hp} {A : Around} {s : Shared} {a b : AV} {a' b' : Value} {r : Bool} (hu : A.units + 1 < cLine) (R : HR Z ρ H s.heap) (ra : VR Z ρ a a') (rb : VR Z ρ b b') (e : eq2 Z.P H a b = some r) :
    (∀ Q : Value → Shared → Prop, Q (.bool r) s → Wp Z A (compareOp .Eq a' b') Q s) ∧ (∀ Q : Value → Shared → Prop, Q (.bool (!r)) s → Wp Z A (compareOp .NotEq a' b') Q s) := by
  rcases eq2_inv e with ⟨xs, ys, h1, h2, e⟩ | ⟨es, fs, h1, h2, e⟩ | ⟨xs, ys, h1, h2, e⟩ | e
  · skip
    obtain ⟨l1, rfl, vs, e1, r1⟩ := R.robj W ra h1
    obtain ⟨l2, rfl, ws, e2, r2⟩ := R.robj W rb h2
    obtain ⟨hl, g, hg, hr⟩ := eq2L_sound W (A := A.in1) hu R r1 r2 e
    have hsz : vs.length = ws.length := by rw [r1.length, r2.length, hl]
    have q1 := RcAt.tuples (A := A) (e := g) e1.isTuple e2.isTuple (Nat.lt_of_succ_lt hu) (fun j j1 j2 => by simpa using hg j (by simpa using j1) (by simpa using j2))
    have q2 := RcNeAt.tuples (A := A) (e := g) e1.isTuple e2.isTuple (Nat.lt_of_succ_lt hu) (fun j j1 j2 => by simpa using hg j (by simpa using j1) (by simpa using j2))
    have z : ((List.range (min vs.toArray.size ws.toArray.size)).all g && vs.toArray.size == ws.toArray.size) = r := by
      simp only [List.size_toArray, ← hsz, Nat.min_self, hr, beq_self_eq_true, Bool.and_true]
    rw [z] at q1 q2
    exact ⟨fun Q h => q1 _ _ _ _ h, fun Q h => q2 _ _ _ _ h⟩
  · skip
    obtain ⟨l1, rfl, ka, e1, r1⟩ := R.robj W ra h1
    obtain ⟨l2, rfl, kb, e2, r2⟩ := R.robj W rb h2
    have sy : ∀ {l : Addr} {v : AV} {es : List (Int × AV)}, Mine.obj Z.P H v = some (.dictI es) → VR Z ρ v (.ref l) → (l == sysModules) = false := by
      intro l v es ho hv
      cases v with
      | ref i => obtain ⟨c, hc, q⟩ := hv; cases q; exact W.sys _ (R.new _ (List.mem_of_getElem? hc))
      | st g => simp only [Mine.obj, Option.some.injEq] at ho; exact absurd ho (W.nodict g es)
      | _ => simp [Mine.obj] at ho
    have ek : ka.length = es.length := by have := congrArg List.length r1.1; simpa using this
    have ek2 : kb.length = fs.length := by have := congrArg List.length r2.1; simpa using this
    unfold eqDict at e
    split at e
    · rename_i hl
      have hits := eqDict_sound W (A := A.in1) (s := s) r2 r1 e
      have z : (ka.length == kb.length && r) = r := by rw [ek, ek2, hl]; simp
      refine ⟨fun Q h => keq_eq (sy h1 ra) (sy h2 rb) e1 e2 (Nat.lt_of_succ_lt hu) (fun _ => hits) (by rw [z]; exact h), fun Q h => keq_ne (sy h1 ra) (sy h2 rb) e1 e2 (Nat.lt_of_succ_lt hu) (fun _ => hits) (by rw [z]; exact h)⟩
    · rename_i hl
      cases e
      have z : (ka.length == kb.length && false) = false := by simp
      have hn : ka.length = kb.length → KeqHits A.in1 s kb ka false := fun q => absurd (by rw [← ek, ← ek2]; exact q) hl
      refine ⟨fun Q h => keq_eq (sy h1 ra) (sy h2 rb) e1 e2 (Nat.lt_of_succ_lt hu) hn (by rw [z]; exact h), fun Q h => keq_ne (sy h1 ra) (sy h2 rb) e1 e2 (Nat.lt_of_succ_lt hu) hn (by rw [z]; exact h)⟩
  · skip
    obtain ⟨l1, rfl, vs, e1, r1⟩ := R.robj W ra h1
    obtain ⟨l2, rfl, ws, e2, r2⟩ := R.robj W rb h2
    obtain ⟨_, q1, q2⟩ := lists_sound W (Nat.lt_of_succ_lt hu) e1 e2 r1 r2 e
    exact ⟨fun Q h => q1 _ _ _ _ h, fun Q h => q2 _ _ _ _ h⟩
  · obtain ⟨_, q1, q2⟩ := eqAt_sound W A s ra rb e
    exact ⟨fun Q h => q1 _ _ _ _ h, fun Q h => q2 _ _ _ _ h⟩
end Mine
end
-- U4
section
set_option tactic.hygienic false
namespace Mine
open PySem PySem.W PyProof.Rows PySem.Calls PySem.SeqAt
variable {Z : Wd}
noncomputable def cmOf : Cm → CmpOp
  | .eq => .Eq | .ne => .NotEq | .lt => .Lt | .le => .LtE | .gt => .Gt | .isN => .Is | .notN => .IsNot | .inn => .In | .nin => .NotIn
noncomputable def strIs (x : Str) : Value → Bool
  | .str y _ => y == x
  | _ => false
theorem allStr_cons {x : AV} {xs : List AV} (h : allStr (x :: xs) = true) : (∃ k, x = .str k) ∧ allStr xs = true := by
  simp only [allStr, List.all_cons, Bool.and_eq_true] at h
  refine ⟨?_, h.2⟩
  have := h.1
  cases x <;> simp at this
  exact ⟨_, rfl⟩
theorem any_strs (W : WF0 Z) {ρ : List Addr} {k : Nat} (hk : k < Z.nN) : ∀ {xs : List AV} {vs : List Value}, VRs Z ρ xs vs → allStr xs = true → vs.any (strIs (Z.nm k)) = xs.any fun x => x = .str k
  | [], [], _, _ => rfl
  | [], _ :: _, h, _ => h.elim
  | _ :: _, [], h, _ => h.elim
  | x :: xs, v :: vs, ⟨r, h⟩, e => by
    obtain ⟨⟨j, rfl⟩, e⟩ := allStr_cons e
    obtain ⟨hj, t, rfl⟩ := r
    rw [List.any_cons, List.any_cons, any_strs W hk h e]
    congr 1
    show (Z.nm j == Z.nm k) = _
    by_cases q : j = k
    · subst q; simp
    · have : Z.nm j ≠ Z.nm k := fun z => q (W.inj _ _ hj hk z)
      simp [q, this]
theorem mem_strs {ρ : List Addr} : ∀ {xs : List AV} {vs : List Value}, VRs Z ρ xs vs → allStr xs = true → ∀ y ∈ vs, ∃ x t, y = .str x t
  | [], [], _, _, _, m => by cases m
  | [], _ :: _, h, _, _, _ => h.elim
  | _ :: _, [], h, _, _, _ => h.elim
  | x :: xs, v :: vs, ⟨r, h⟩, e, y, m => by
    obtain ⟨⟨j, rfl⟩, e⟩ := allStr_cons e
    obtain ⟨hj, t, rfl⟩ := r
    rcases List.mem_cons.mp m with rfl | m
    · exact ⟨_, _, rfl⟩
    · exact mem_strs h e y m
theorem str_eqs {ρ : List Addr} {xs : List AV} {vs : List Value} {A : Around} {s : Shared} {k : Str} {t : Tok} (r1 : VRs Z ρ xs vs) (hs : allStr xs = true) : ∀ y, y ∈ vs.toArray → EqAt A s y (.str k t) (strIs k y) := fun y m => by
  obtain ⟨x, u, rfl⟩ := mem_strs r1 hs y (by simpa using m)
  exact EqAt.str_str _ _ _ _
theorem none_eqs {ρ : List Addr} {xs : List AV} {vs : List Value} {A : Around} {s : Shared} (r1 : VRs Z ρ xs vs) (hs : allStr xs = true) : ∀ y, y ∈ vs.toArray → EqAt A s y .none ((fun _ => false) y) := fun y m => by
  obtain ⟨x, u, rfl⟩ := mem_strs r1 hs y (by simpa using m)
  exact EqAt.str_none _ _
theorem any_arr {vs : List Value} {f : Value → Bool} : vs.toArray.any f = vs.any f := by simp
theorem any_no {vs : List Value} : vs.toArray.any (fun _ => false) = false := by simp
theorem in_sound (W : WF0 Z) {ρ : List Addr} {H : Hp} {A : Around} {s : Shared} {a b : AV} {a' b' : Value} {r : Bool} (R : HR Z ρ H s.heap) (ra : VR Z ρ a a') (rb : VR Z ρ b b') (e : evIn Z.P H a b = some r) :
    (∀ Q : Value → Shared → Prop, (∀ tk, Q (.bool r) { s with toks := tk }) → Wp Z A (compareOp .In a' b') Q s) ∧ (∀ Q : Value → Shared → Prop, (∀ tk, Q (.bool (!r)) { s with toks := tk }) → Wp Z A (compareOp .NotIn a' b') Q s) := by
  unfold evIn at e
  cases h1 : obj Z.P H b with
  | none => rw [h1] at e; exact no_some e
  | some o =>
  rw [h1] at e
  cases o with
  | list xs =>
    obtain ⟨l, rfl, vs, e1, r1⟩ := R.robj W rb h1
    by_cases hs : allStr xs = true
    · have e := (if_pos hs).symm.trans e
      cases a with
      | str k =>
        cases e
        obtain ⟨hk, t, rfl⟩ := ra
        have q : vs.toArray.any (strIs (Z.nm k)) = xs.any fun x => x = .str k := any_arr.trans (any_strs W hk r1 hs)
        exact ⟨fun Q h => in_listAt _ e1.isList (str_eqs r1 hs) (q ▸ h s.toks), fun Q h => notIn_listAt _ e1.isList (str_eqs r1 hs) (q ▸ h s.toks)⟩
      | none =>
        cases e
        cases ra
        exact ⟨fun Q h => in_listAt (fun _ => false) e1.isList (none_eqs r1 hs) (by rw [any_no]; exact h s.toks), fun Q h => notIn_listAt (fun _ => false) e1.isList (none_eqs r1 hs) (by rw [any_no]; exact h s.toks)⟩
      | _ => exact no_some e
    · exact no_some ((if_neg hs).symm.trans e)
  | tup xs =>
    obtain ⟨l, rfl, vs, e1, r1⟩ := R.robj W rb h1
    by_cases hs : allStr xs = true
    · have e := (if_pos hs).symm.trans e
      cases a with
      | str k =>
        cases e
        obtain ⟨hk, t, rfl⟩ := ra
        have q : vs.toArray.any (strIs (Z.nm k)) = xs.any fun x => x = .str k := any_arr.trans (any_strs W hk r1 hs)
        exact ⟨fun Q h => in_tupleAt _ e1.isTuple (str_eqs r1 hs) (q ▸ h s.toks), fun Q h => notIn_tupleAt _ e1.isTuple (str_eqs r1 hs) (q ▸ h s.toks)⟩
      | none =>
        cases e
        cases ra
        exact ⟨fun Q h => in_tupleAt (fun _ => false) e1.isTuple (none_eqs r1 hs) (by rw [any_no]; exact h s.toks), fun Q h => notIn_tupleAt (fun _ => false) e1.isTuple (none_eqs r1 hs) (by rw [any_no]; exact h s.toks)⟩
      | _ => exact no_some e
    · exact no_some ((if_neg hs).symm.trans e)
  | dictI es =>
    cases a with
    | int k =>
      cases e
      obtain ⟨l, rfl, kvs, e1, r1⟩ := R.robj W rb h1
      have sy : (l == sysModules) = false := by
        cases b with
        | ref i => obtain ⟨c, hc, q⟩ := rb; cases q; exact W.sys _ (R.new _ (List.mem_of_getElem? hc))
        | st g => exact absurd (Option.some.inj h1) (W.nodict g es)
        | _ => exact no_some h1
      obtain ⟨t, rfl⟩ := ra
      have q : (valueAt kvs k).isSome = (valI es k).isSome := by
        rcases valI_sound k r1 with ⟨a, b⟩ | ⟨v, w, a, b, _⟩ <;> rw [a, b] <;> rfl
      exact ⟨fun Q h => wpAny_in_of (intKind_is _ _ _ _) sy e1.mapOf (q ▸ h _), fun Q h => wpAny_notIn_of (intKind_is _ _ _ _) sy e1.mapOf (q ▸ h _)⟩
    | _ => exact no_some e
  | dictS es =>
    cases a with
    | str k =>
      cases e
      obtain ⟨l, rfl, kvs, e1, r1⟩ := R.robj W rb h1
      have sy : (l == sysModules) = false := by
        cases b with
        | ref i => obtain ⟨c, hc, q⟩ := rb; cases q; exact W.sys _ (R.new _ (List.mem_of_getElem? hc))
        | st g => exact absurd (Option.some.inj h1) (W.nodictS g es)
        | _ => exact no_some h1
      obtain ⟨hk, t, rfl⟩ := ra
      have q : (valueAt kvs (Z.nm k)).isSome = (valS es k).isSome := by
        rcases valS_sound W k hk r1 with ⟨a, b⟩ | ⟨v, w, a, b, _⟩ <;> rw [a, b] <;> rfl
      exact ⟨fun Q h => wpAny_in_of (strKind_is _ _ _ _) sy e1.mapOf (q ▸ h _), fun Q h => wpAny_notIn_of (strKind_is _ _ _ _) sy e1.mapOf (q ▸ h _)⟩
    | _ => exact no_some e
  | _ => exact no_some e
theorem none_sound {ρ : List Addr} {a : AV} {a' : Value} (ra : VR Z ρ a a') : (a' == Value.none) = decide (a = .none) := by
  cases a with
  | none => cases ra; rfl
  | bool b => cases ra; rfl
  | int i => obtain ⟨t, rfl⟩ := ra; rfl
  | str k => obtain ⟨_, t, rfl⟩ := ra; rfl
  | ref i => obtain ⟨_, _, rfl⟩ := ra; rfl
  | st g => cases ra; rfl
  | unb => exact ra.elim
theorem cmp_sound (W : WF0 Z) {ρ : List Addr} {H : Hp} {op : Cm} {a b : AV} {a' b' : Value} {r : Bool} {A : Around} {s : Shared} (hu : A.units + 1 < cLine) (R : HR Z ρ H s.heap) (ra : VR Z ρ a a') (rb : VR Z ρ b b')
    (e : evCmp Z.P op a b H = some r) : Wp Z A (compareOp (cmOf op) a' b') (PV Z [] ρ s (.bool r) H) s := by
  cases op with
  | eq => exact (eq2_sound W hu R ra rb e).1 _ (PV.here R rfl)
  | ne =>
    simp only [evCmp, Option.map_eq_some_iff] at e
    obtain ⟨q, e, rfl⟩ := e
    exact (eq2_sound W hu R ra rb e).2 _ (PV.here R rfl)
  | lt =>
    simp only [evCmp] at e
    split at e
    · obtain ⟨t, rfl⟩ := ra; obtain ⟨u, rfl⟩ := rb; cases e
      exact lt_int (PV.here R rfl)
    · cases e
  | le =>
    simp only [evCmp] at e
    split at e
    · obtain ⟨t, rfl⟩ := ra; obtain ⟨u, rfl⟩ := rb; cases e
      exact le_int (PV.here R rfl)
    · cases e
  | gt =>
    simp only [evCmp] at e
    split at e
    · obtain ⟨t, rfl⟩ := ra; obtain ⟨u, rfl⟩ := rb; cases e
      exact gt_int (PV.here R rfl)
    · cases e
  | isN =>
    simp only [evCmp] at e
    split at e
    · cases rb
      cases e
      exact is_none (by rw [none_sound ra]; exact PV.here R rfl)
    · cases e
  | notN =>
    simp only [evCmp] at e
    split at e
    · cases rb
      cases e
      exact isNot_none (by rw [none_sound ra]; exact PV.here R rfl)
    · cases e
  | inn => exact (in_sound W R ra rb e).1 _ fun tk => PV.here R rfl
  | nin =>
    simp only [evCmp, Option.map_eq_some_iff] at e
    obtain ⟨q, e, rfl⟩ := e
    exact (in_sound W R ra rb e).2 _ fun tk => PV.here R rfl
theorem place_seq {n : Nat} {i : Int} {j : Nat} (h : place n i = some j) : seqIndex? i n = some j := by
  unfold place at h
  unfold seqIndex?
  split at h
  · rename_i h0
    split at h
    · rename_i h1
      cases h
      have : ¬ i < 0 := by lia
      simp [this, h0, h1]
    · cases h
  · rename_i h0
    split at h
    · rename_i h1
      cases h
      have h2 : i < 0 := by lia
      have h3 : i + (n : Int) < n := by lia
      simp only [h2, if_true, h1, h3, decide_true, Bool.and_self]
    · cases h
/-- reading an item: what the tail of a subscript wants -/
def ItemAt (A : Around) (s : Shared) (o i : Value) (Q : Value → Shared → Prop) : Prop :=
  ∃ T id, s.TypeIs o T ∧ typeLookup (.type T) "__getitem__" = pure (some (.builtin id)) ∧ Wp Z A (getItem o i) Q s
variable (Z) in
def IdxQ (ρ : List Addr) (s : Shared) (r : AV) (v' : Value) (s' : Shared) : Prop := VR Z ρ r v' ∧ ∃ tk, s' = { s with toks := tk }
theorem idx_still (W : WF0 Z) {ρ : List Addr} {H : Hp} {o i r : AV} {o' i' : Value} {A : Around} {s : Shared} (R : HR Z ρ H s.heap) (ro : VR Z ρ o o') (ri : VR Z ρ i i')
    (e : evIdx Z.P o i H = some r) : ItemAt (Z := Z) A s o' i' (IdxQ Z ρ s r) := by
  unfold evIdx at e
  cases h1 : obj Z.P H o with
  | none =>
    rw [h1] at e
    cases o with
    | str k => cases i with
      | int n =>
        by_cases hn : n = 0
        · subst hn
          obtain ⟨c, hc, rfl⟩ := Option.map_eq_some_iff.mp ((if_pos rfl).symm.trans e)
          obtain ⟨hk, t, rfl⟩ := ro
          obtain ⟨u, rfl⟩ := ri
          obtain ⟨hcN, d, hd, hq⟩ := W.first k c hc hk
          refine ⟨"str", _, rfl, F.slot_str_getitem.lookup, P.getItem_str (c := d) (by decide) ?_ ⟨⟨hcN, _, by rw [hq]⟩, _, rfl⟩⟩
          have hz : 0 < (Z.nm k).length := (Array.getElem?_eq_some_iff.mp hd).1
          simp only [seqIndex?]
          simp [hz, hd]
        · exact no_some ((if_neg hn).symm.trans e)
      | _ => exact no_some e
    | _ => cases i <;> exact no_some e
  | some ob =>
  rw [h1] at e
  cases ob with
  | list xs =>
    cases i with
    | int n =>
      obtain ⟨l, rfl, vs, e1, r1⟩ := R.robj W ro h1
      obtain ⟨t, rfl⟩ := ri
      by_cases hs : small n = true
      · obtain ⟨hs1, hs2⟩ := small_iff.mp hs
        obtain ⟨j, hj, hx⟩ := Option.bind_eq_some_iff.mp ((if_pos hs).symm.trans e)
        obtain ⟨v, hv, rv⟩ := r1.get hx
        refine ⟨"list", _, e1.isList.typeIs, slot_list_getitem.lookup, ?_⟩
        unfold place at hj
        by_cases h0 : 0 ≤ n
        · have hj := (if_pos h0).symm.trans hj
          by_cases h2 : n < xs.length
          · cases (if_pos h2).symm.trans hj
            exact wpAny_getItem_list e1.isList h0 (by lia) (by simpa using hv) ⟨rv, _, rfl⟩
          · exact no_some ((if_neg h2).symm.trans hj)
        · have hj := (if_neg h0).symm.trans hj
          by_cases h2 : 0 ≤ n + xs.length
          · cases (if_pos h2).symm.trans hj
            have hl := r1.length
            exact wpAny_getItem_list_neg e1.isList (by lia) (by simp [hl]; lia) (by lia) (by simpa [hl] using hv) ⟨rv, _, rfl⟩
          · exact no_some ((if_neg h2).symm.trans hj)
      · exact no_some ((if_neg hs).symm.trans e)
    | _ => exact no_some e
  | tup xs =>
    cases i with
    | int n =>
      obtain ⟨l, rfl, vs, e1, r1⟩ := R.robj W ro h1
      obtain ⟨t, rfl⟩ := ri
      by_cases hs : small n = true
      · obtain ⟨hs1, hs2⟩ := small_iff.mp hs
        obtain ⟨j, hj, hx⟩ := Option.bind_eq_some_iff.mp ((if_pos hs).symm.trans e)
        obtain ⟨v, hv, rv⟩ := r1.get hx
        refine ⟨"tuple", _, e1.isTuple.typeIs, F.slot_tuple_getitem.lookup, ?_⟩
        exact getItem_tuple e1.isTup (by lia) (by lia) (by rw [List.size_toArray, r1.length]; exact place_seq hj) (by simpa using hv) ⟨rv, _, rfl⟩
      · exact no_some ((if_neg hs).symm.trans e)
    | _ => exact no_some e
  | dictI es =>
    cases i with
    | int n =>
      obtain ⟨l, rfl, kvs, e1, r1⟩ := R.robj W ro h1
      obtain ⟨t, rfl⟩ := ri
      rcases valI_sound n r1 with ⟨a, b⟩ | ⟨v, w, a, b, q⟩
      · exact no_some (a.symm.trans e)
      · cases a.symm.trans e
        exact ⟨"dict", _, e1.typeIs, slot_dict_getitem.lookup, wpAny_getItem_of (intKind_is _ _ _ _) e1.mapOf b ⟨q, _, rfl⟩⟩
    | _ => exact no_some e
  | dictS es =>
    cases i with
    | str k =>
      obtain ⟨l, rfl, kvs, e1, r1⟩ := R.robj W ro h1
      obtain ⟨hk, t, rfl⟩ := ri
      rcases valS_sound W k hk r1 with ⟨a, b⟩ | ⟨v, w, a, b, q⟩
      · exact no_some (a.symm.trans e)
      · cases a.symm.trans e
        exact ⟨"dict", _, e1.typeIs, slot_dict_getitem.lookup, wpAny_getItem_of (strKind_is _ _ _ _) e1.mapOf b ⟨q, _, rfl⟩⟩
    | _ => exact no_some e
  | _ => exact no_some e
theorem idx_sound (W : WF0 Z) {ρ : List Addr} {H : Hp} {o i r : AV} {o' i' : Value} {A : Around} {s : Shared} (R : HR Z ρ H s.heap) (ro : VR Z ρ o o') (ri : VR Z ρ i i')
    (e : evIdx Z.P o i H = some r) : ItemAt (Z := Z) A s o' i' (PV Z [] ρ s r H) := by
  obtain ⟨T, id, hT, hl, hw⟩ := idx_still (A := A) W R ro ri e
  refine ⟨T, id, hT, hl, hw.mono ?_⟩
  rintro v' s' ⟨r1, tk, rfl⟩
  exact PV.here R r1
end Mine
end
-- U5
section
set_option tactic.hygienic false
namespace Mine
open PySem PySem.W PyProof.Rows PySem.Calls PySem.SeqAt
variable {Z : Wd}
/-- what is looked up in a class of the text's, by computation -/
noncomputable def clsOkB (K : Frag) (C : Addr) (attrs : List Str) (fI : Addr) : Bool :=
  plainGet K C "__init__" && hasDictIn K C && (findIn K (.ref C) "__setattr__" == some (some (.builtin "object.__setattr__"))) && plainOver K C && makesIn K C &&
  (findIn K (.ref C) "__init__" == some (some (.ref fI))) && isFn K (.ref fI) &&
  attrs.all fun n => findIn K (.ref C) n == some none && takerIn K C n == some none
noncomputable def methOkB (K : Frag) (C : Addr) (n : Str) (f : Addr) : Bool := (findIn K (.ref C) n == some (some (.ref f))) && isFn K (.ref f)
structure WFK (Z : Wd) : Prop where
  kin : Z.K.In Z.h₀
  cls : ∀ c g, Z.P.cls c = some g → clsOkB Z.K (Z.ca c) (Z.as.map Z.nm) (Z.fa g) = true
  meth : ∀ c m f, Z.P.meth c m = some f → methOkB Z.K (Z.ca c) (Z.nm m) (Z.fa f) = true ∧ m < Z.nN
  lt : ∀ a ∈ Z.as, a < Z.nN
  few : Z.as.length ≤ 1000
theorem HR.kin {ρ : List Addr} {H : Hp} {h : Heap} (W : WFK Z) (R : HR Z ρ H h) : Z.K.In h := W.kin.keeps R.base
theorem lookIn_ns {h : Heap} {a : Addr} {m : Str → Option Value} (n : h.Ns a m) : ∃ o, h.get? a = some o ∧ ∀ name, lookIn name o = some (m name) := by
  obtain ⟨o, es, ep, ho, hd, hk, hf⟩ := n
  refine ⟨o, ho, fun name => ?_⟩
  have q := hf name
  unfold nsFind findBy at q
  rw [← Array.find?_toList] at q
  unfold lookIn
  rw [hd]
  dsimp only
  cases e : es.toList.find? fun x => x.key.isStr name with
  | some x => rw [e] at q; simp only [Option.map_some] at q; rw [← q]
  | none =>
    rw [e] at q
    have : (es.toList.any fun x => x.refKey) = false := by
      rw [List.any_eq_false]
      intro x hx
      obtain ⟨n, t, hh⟩ := hk x (Array.mem_toList_iff.mp hx)
      simp [DictEntry.refKey, hh]
    simp only [this, Bool.false_eq_true, if_false]
    rw [← q]; rfl
theorem HR.inst (_W : WFK Z) {ρ : List Addr} {H : Hp} {h : Heap} (R : HR Z ρ H h) {x c d : Nat} {o' : Value} {es : List (Nat × AV)} (ro : VR Z ρ (.ref x) o') (hx : H[x]? = some (.inst c d)) (hd : H[d]? = some (.attrs es)) :
    ∃ a dx m od, o' = .ref a ∧ ρ[d]? = some dx ∧ (h.Ns1 dx m ∧ Within m (Z.as.map Z.nm)) ∧ InstAt h a (instObj (Z.ca c) dx) (Z.ca c) (some od) ∧ (∀ name, lookIn name od = some (m name)) ∧ (∃ g, Z.P.cls c = some g) ∧
      ∀ k, k < Z.nN → (valS es k = none → m (Z.nm k) = none) ∧ ∀ v, valS es k = some v → ∃ v', m (Z.nm k) = some v' ∧ VR Z ρ v v' := by
  obtain ⟨a, ha, rfl⟩ := ro
  obtain ⟨dx, hdx, hg, q⟩ := R.get hx ha
  obtain ⟨m, hm, hw, hv⟩ := R.get hd hdx
  obtain ⟨od, hod, hl⟩ := lookIn_ns hm.ns
  exact ⟨a, dx, m, od, rfl, hdx, ⟨hm, hw⟩, ⟨hg, rfl, rfl, hod⟩, hl, q, hv⟩
theorem vr_handed {ρ : List Addr} {x : AV} {v : Value} (r : VR Z ρ x v) : handedIn v = true := by
  cases x with
  | none => cases r; rfl
  | bool b => cases r; rfl
  | int i => obtain ⟨t, rfl⟩ := r; rfl
  | str k => obtain ⟨_, t, rfl⟩ := r; rfl
  | ref i => obtain ⟨_, _, rfl⟩ := r; rfl
  | st g => cases r; rfl
  | unb => exact r.elim
set_option tactic.hygienic true in
theorem attr_sound (W : WFK Z) {ρ : List Addr} {H : Hp} {o v : AV} {o' : Value} {a : Nat} {A : Around} {s : Shared} {expr : Bool} (R : HR Z ρ H s.heap) (ro : VR Z ρ o o') (ha : a ∈ Z.as)
    (e : evAttr H o a = some v) : Wp Z A (getAttr o' (Z.nm a) expr) (PV Z [] ρ s v H) s := by
  unfold evAttr at e
  split at e
  · rename_i x
    split at e
    · rename_i c d hx
      split at e
      · rename_i es hd
        obtain ⟨b, dx, m, od, rfl, hdx, hm, I, hl, ⟨g, hg⟩, hq⟩ := R.inst W ro hx hd
        obtain ⟨v', hv', rv⟩ := (hq a (W.lt a ha)).2 v e
        have C := W.cls c g hg
        simp only [clsOkB, Bool.and_eq_true, List.all_eq_true, beq_iff_eq] at C
        obtain ⟨⟨⟨⟨⟨⟨⟨C1, C2⟩, C3⟩, C4⟩, C5⟩, C6⟩, C7⟩, C8⟩ := C
        have C9 := C8 (Z.nm a) (List.mem_map_of_mem ha)
        refine get_value (R.kin W) I (plainGet_of C1).1 (findObj_own C2 C9.1 rfl (by rw [hl, hv'])) (vr_handed rv) (PV.here R rv)
      · cases e
    · cases e
  · cases e
theorem putS_val (es : List (Nat × AV)) (k : Nat) (v : AV) (j : Nat) : valS (putS es k v) j = if j = k then some v else valS es j := by
  unfold putS
  split
  · rename_i h
    unfold valS
    induction es with
    | nil => simp at h
    | cons e es ih =>
      simp only [List.map_cons, List.find?_cons]
      by_cases he : e.1 = k
      · simp only [he, if_true]
        by_cases hj : j = k
        · subst hj; simp
        · have hj' : ¬ k = j := fun q => hj q.symm
          simp only [hj', decide_false, hj, if_false]
          by_cases h2 : es.any (fun kv => decide (kv.1 = k)) = true
          · rw [ih h2]; simp [hj]
          · have : (es.map fun kv => if kv.1 = k then (kv.1, v) else kv) = es := by
              rw [List.map_congr_left (g := id)]
              · simp
              · intro x hx
                have : ¬ x.1 = k := fun q => h2 (List.any_eq_true.mpr ⟨x, hx, by simpa using q⟩)
                simp [this]
            rw [this]
      · simp only [he, if_false]
        by_cases hj : e.1 = j
        · subst hj
          have : ¬ e.1 = k := he
          simp [this]
        · simp only [hj, decide_false]
          exact ih (by simpa [he] using h)
  · rename_i h
    unfold valS
    rw [List.find?_append]
    by_cases hj : j = k
    · subst hj
      have : es.find? (fun kv => decide (kv.1 = j)) = none := by
        rw [List.find?_eq_none]
        intro x hx q
        exact h (List.any_eq_true.mpr ⟨x, hx, q⟩)
      simp [this]
    · have hj' : ¬ k = j := fun q => hj q.symm
      cases es.find? (fun kv => decide (kv.1 = j)) <;> simp [hj, hj']
set_option tactic.hygienic true in
theorem setA_sound (W0 : WF0 Z) (W : WFK Z) {ρ : List Addr} {H H' : Hp} {o v : AV} {o' v' : Value} {a : Nat} {A : Around} {s : Shared} (R : HR Z ρ H s.heap) (ro : VR Z ρ o o') (rv : VR Z ρ v v') (ha : a ∈ Z.as)
    (e : evSetA o a v H = some H') : Wp Z A (setAttr o' (Z.nm a) v') (fun _ => PU Z [] ρ s H') s := by
  unfold evSetA at e
  split at e
  · rename_i x
    split at e
    · rename_i c d hx
      split at e
      · rename_i es hd
        cases e
        obtain ⟨b, dx, m, od, rfl, hdx, hm, I, hl, ⟨g, hg⟩, hq⟩ := R.inst W ro hx hd
        have C := W.cls c g hg
        simp only [clsOkB, Bool.and_eq_true, List.all_eq_true, beq_iff_eq] at C
        obtain ⟨⟨⟨⟨⟨⟨⟨C1, C2⟩, C3⟩, C4⟩, C5⟩, C6⟩, C7⟩, C8⟩ := C
        have C9 := C8 (Z.nm a) (List.mem_map_of_mem ha)
        have hk := R.kin W
        refine set_plain hk I C3 ?_
        refine osa_open (s := { s with toks := s.toks + 1 }) hk I C4 C9.2 fun _ => ?_
        obtain ⟨cd, hc, hd'⟩ := any_some C2
        obtain ⟨hx', hcl, hn, -⟩ := I
        refine wpAny_bind (wpAny_pure (wpAny_bind (wpAny_bind (wpAny_loadPart hx' (wpAny_bind (Looks.here (s := { s with toks := s.toks + 1 }) (looks_clsIn hk hc) ?_))))))
        rw [hd']
        refine wpAny_pure (a := some dx) (wpAny_bind (wpAny_pure (wpAny_bind ?_)))
        obtain ⟨hm, hw⟩ := hm
        have hw' := Within.cons (Z.nm a) v' hw
        have hsub : Within (fun y => if y = Z.nm a then some v' else m y) (Z.as.map Z.nm) := fun y hy => by
          rcases List.mem_cons.mp (hw' y hy) with rfl | q
          · exact List.mem_map_of_mem ha
          · exact q
        refine wpAny_nsSet1 (s := { s with toks := s.toks + 1 }) hm fun h' hn' hs' => ?_
        obtain ⟨oo, es', ep', ho', hd', hc'⟩ := hn'.count hsub
        have hfew := W.few
        refine wpAny_bind (wpAny_lookBehind ho' (by rw [hd']; exact pastItsLine_dict (by rw [List.length_map] at hc'; rw [size24]; lia)) (wpAny_pure ?_))
        refine ⟨h', _, ρ, R.set hdx hs' ⟨_, hn', hsub, fun k hk => ?_⟩, Grow.set (List.mem_of_getElem? hdx) hs' (let ⟨o, _, _, ho, _⟩ := hn'; ⟨o, ho⟩)⟩
        rw [putS_val]
        by_cases hka : k = a
        · subst hka
          simp only [if_true]
          exact ⟨(nomatch ·), fun v1 e => by cases e; exact ⟨v', rfl, rv⟩⟩
        · have : Z.nm k ≠ Z.nm a := fun q => hka (W0.inj _ _ hk (W.lt a ha) q)
          simp only [hka, if_false, this]
          exact hq k hk
      · cases e
    · cases e
  · cases e
set_option tactic.hygienic true in
theorem meth_sound (W : WFK Z) {ρ : List Addr} {H : Hp} {o : AV} {o' : Value} {m f : Nat} {A : Around} {s : Shared} {pl : Sem Bool} {Q : Value × List Value → Shared → Prop} (R : HR Z ρ H s.heap) (ro : VR Z ρ o o')
    (e : evMeth Z.P m o H = some f) (h : Q (.ref (Z.fa f), [o']) s) : Wp Z A (getMethod o' (Z.nm m) pl) Q s := by
  unfold evMeth at e
  split at e
  · rename_i x
    split at e
    · rename_i c d hx
      split at e
      · rename_i es hd
        split at e
        · rename_i hv
          obtain ⟨b, dx, mm, od, rfl, hdx, hm, I, hl, ⟨g, hg⟩, hq⟩ := R.inst W ro hx hd
          obtain ⟨hM, hlt⟩ := W.meth c m f e
          have C := W.cls c g hg
          simp only [clsOkB, Bool.and_eq_true, List.all_eq_true, beq_iff_eq] at C
          obtain ⟨⟨⟨⟨⟨⟨⟨C1, C2⟩, C3⟩, C4⟩, C5⟩, C6⟩, C7⟩, C8⟩ := C
          simp only [methOkB, Bool.and_eq_true, beq_iff_eq] at hM
          refine method_fn (R.kin W) I (plainGet_of C1).1 (plainGet_of C1).2 hM.1 (beq_iff_eq.mp hM.2) ?_ h
          show (lookIn _ od).map _ = _
          rw [hl, (hq m hlt).1 hv]; rfl
        · cases e
      · cases e
    · cases e
  · cases e
end Mine
end
-- U6
section
set_option tactic.hygienic false
namespace Mine
open PySem PySem.W PyProof.Rows PySem.Calls PySem.SeqAt
variable {Z : Wd}
theorem HR.addAll {ρ : List Addr} {H : Hp} {h h' : Heap} (R : HR Z ρ H h) (hk : ∀ b o, h.get? b = some o → h'.get? b = some o) (as : List Addr) (os : List AO) (hl : as.length = os.length) (nd : as.Nodup)
    (hn : ∀ a ∈ as, h.get? a = none) (r : ∀ (j : Nat) (a : Addr) (o : AO), as[j]? = some a → os[j]? = some o → OR Z (ρ ++ as) h' a o) : HR Z (ρ ++ as) (H ++ os) h' where
  len := by simp [R.len, hl]
  nd := List.nodup_append.mpr ⟨R.nd, nd, fun b hb c hc q => by
    subst q
    obtain ⟨o, e⟩ := R.live hb
    rw [hn b hc] at e; cases e⟩
  obj := fun i o' e => by
    by_cases hi : i < H.length
    · rw [List.getElem?_append_left hi] at e
      obtain ⟨b, hb, q⟩ := R.obj i o' e
      exact ⟨b, by rw [List.getElem?_append_left (R.len ▸ hi)]; exact hb, q.mono (List.prefix_append ..) (hk b)⟩
    · have hi' : H.length ≤ i := by lia
      rw [List.getElem?_append_right hi'] at e
      have hl2 := (List.getElem?_eq_some_iff.mp e).1
      have hj : i - H.length < as.length := by lia
      refine ⟨as[i - H.length], ?_, r (i - H.length) _ o' (List.getElem?_eq_getElem hj) e⟩
      rw [List.getElem?_append_right (by rw [R.len]; exact hi'), R.len, List.getElem?_eq_getElem hj]
  base := fun b o' e => hk b o' (R.base b o' e)
  new := fun b m => by
    rcases List.mem_append.mp m with m | m
    · exact R.new b m
    · cases e : Z.h₀.get? b with
      | none => rfl
      | some o => have := R.base b o e; rw [hn b m] at this; cases this
theorem Grow.addAll {X ρ : List Addr} {h h' : Heap} {as : List Addr} (hk : ∀ b o, h.get? b = some o → h'.get? b = some o) (hn : ∀ a ∈ as, h.get? a = none) : Grow X ρ (ρ ++ as) h h' where
  pre := List.prefix_append ..
  new := fun b m => (List.mem_append.mp m).imp id (hn b)
  keep := fun b o _ _ e => hk b o e
  live := fun b o e => ⟨o, hk b o e⟩
/-- a new object at a free place of a heap that has only grown -/
theorem PV.grown {X ρ : List Addr} {s : Shared} {H : Hp} {h' : Heap} {a : Addr} {o : AO} {tk : Nat} (R : HR Z ρ H s.heap) (hk : ∀ b o, s.heap.get? b = some o → h'.get? b = some o) (ha : s.heap.get? a = none) (r : OR Z (ρ ++ [a]) h' a o) :
    PV Z X ρ s (.ref H.length) (H ++ [o]) (.ref a) { s with heap := h', toks := tk } :=
  ⟨_, tk, _, R.add hk ha r, Grow.add hk ha, ⟨a, by rw [← R.len]; simp, rfl⟩⟩
theorem nosys (W : WF0 Z) {ρ : List Addr} {H : Hp} {h : Heap} (R : HR Z ρ H h) {v : AV} {l : Addr} {o : AO} (ho : Mine.obj Z.P H v = some o) (hv : VR Z ρ v (.ref l)) (hd : (∃ es, o = .dictI es) ∨ ∃ es, o = .dictS es) : (l == sysModules) = false := by
  cases v with
  | ref i => obtain ⟨c, hc, q⟩ := hv; cases q; exact W.sys _ (R.new _ (List.mem_of_getElem? hc))
  | st g =>
    simp only [Mine.obj, Option.some.injEq] at ho
    rcases hd with ⟨es, rfl⟩ | ⟨es, rfl⟩
    · exact absurd ho (W.nodict g es)
    · exact absurd ho (W.nodictS g es)
  | _ => simp [Mine.obj] at ho
theorem KI.length {ρ : List Addr} {es : List (Int × AV)} {kvs : List (Int × Value)} (r : KI Z ρ es kvs) : kvs.length = es.length := by
  have := congrArg List.length r.1; simpa using this
theorem KS.length {ρ : List Addr} {es : List (Nat × AV)} {kvs : List (Str × Value)} (r : KS Z ρ es kvs) : kvs.length = es.length := by
  have := congrArg List.length r.1; simpa using this
theorem KI.get {ρ : List Addr} {es : List (Int × AV)} {kvs : List (Int × Value)} (r : KI Z ρ es kvs) {j : Nat} {k : Int} {v : Value} (e : kvs[j]? = some (k, v)) : ∃ x, es[j]? = some (k, x) ∧ VR Z ρ x v := by
  have hj := (List.getElem?_eq_some_iff.mp e).1
  have hj' : j < es.length := r.length ▸ hj
  have e1 : (kvs.map (·.1))[j]? = some k := by rw [List.getElem?_map, e]; rfl
  rw [r.1, List.getElem?_map, List.getElem?_eq_getElem hj'] at e1
  have e2 : (es.map (·.2))[j]? = some es[j].2 := by rw [List.getElem?_map, List.getElem?_eq_getElem hj']; rfl
  obtain ⟨w, hw, rw'⟩ := r.2.get e2
  rw [List.getElem?_map, e] at hw
  cases hw
  refine ⟨es[j].2, ?_, rw'⟩
  rw [List.getElem?_eq_getElem hj']
  have : es[j].1 = k := by simpa using e1
  rw [← this]
set_option tactic.hygienic true in
theorem len_sound (W : WF0 Z) {ρ : List Addr} {H H' : Hp} {v r : AV} {v' : Value} {A : Around} {s : Shared} (R : HR Z ρ H s.heap) (rv : VR Z ρ v v') (e : evLen Z.P v H = some (r, H')) :
    Wp Z A (call (.builtin "len") [v']) (PV Z [] ρ s r H') s := by
  unfold evLen at e
  split at e
  · rename_i xs h1
    split at e
    · rename_i hl
      cases e
      obtain ⟨l, rfl, vs, e1, r1⟩ := R.robj W rv h1
      have hz := r1.length
      exact call_len_list e1.isList (by simp [hz]; lia) (PV.here R ⟨_, by simp [hz]; rfl⟩)
    · cases e
  · cases e
theorem int_sound {ρ : List Addr} {H H' : Hp} {v r : AV} {v' : Value} {A : Around} {s : Shared} (R : HR Z ρ H s.heap) (rv : VR Z ρ v v') (e : evInt v H = some (r, H')) :
    Wp Z A (call (.type "int") [v']) (PV Z [] ρ s r H') s := by
  unfold evInt at e
  split at e
  · cases e
    obtain ⟨t, rfl⟩ := rv
    exact call_int_int (PV.here (tk := s.toks) R ⟨t, rfl⟩)
  · cases e
    cases rv
    exact call_int_bool (PV.here R ⟨_, rfl⟩)
  · cases e
set_option tactic.hygienic true in
theorem copy_sound (W : WF0 Z) {ρ : List Addr} {H H' : Hp} {v r : AV} {v' : Value} {A : Around} {s : Shared} (R : HR Z ρ H s.heap) (rv : VR Z ρ v v') (e : evCopy Z.P v H = some (r, H')) :
    Wp Z A (call (.type "list") [v']) (PV Z [] ρ s r H') s := by
  unfold evCopy at e
  split at e
  · rename_i xs h1
    split at e
    · rename_i hl
      cases e
      obtain ⟨l, rfl, vs, ⟨n, e1⟩, r1⟩ := R.robj W rv h1
      have hz := r1.length
      refine call_list_seq l (.inl rfl) e1 rfl rfl (fun h' c' hk hg => ?_) (by simp [hz, size24]; lia)
      exact PV.grown (tk := s.toks) R hk none_size ⟨vs, ⟨c', hg⟩, r1.mono (List.prefix_append ..)⟩
    · cases e
  · cases e
theorem refs_vrs {ρ as : List Addr} {x : Addr} : ∀ (n k : Nat), k + n = as.length → VRs Z (ρ ++ (as ++ [x])) ((List.range' k n).map fun j => .ref (ρ.length + j)) ((as.drop k).map Value.ref)
  | 0, k, h => by rw [List.drop_eq_nil_of_le (by lia)]; exact trivial
  | n + 1, k, h => by
    have hk : k < as.length := by lia
    rw [List.range'_succ, List.map_cons, List.drop_eq_getElem_cons hk, List.map_cons]
    refine ⟨⟨as[k], ?_, rfl⟩, refs_vrs n (k + 1) (by lia)⟩
    rw [List.getElem?_append_right (by lia), Nat.add_sub_cancel_left, List.getElem?_append_left hk, List.getElem?_eq_getElem hk]
set_option tactic.hygienic true in
theorem items_sound (W : WF0 Z) {ρ : List Addr} {H H' : Hp} {v r : AV} {l d : Addr} {A : Around} {s : Shared} (hh : A.handled = none) (R : HR Z ρ H s.heap) (rv : VR Z ρ v (.ref d)) (hv : s.heap.IsItemsView l d) (e : evItems Z.P v H = some (r, H')) :
    Wp Z A (call (.type "list") [.ref l]) (PV Z [] ρ s r H') s := by
  unfold evItems at e
  split at e
  · rename_i es h1
    split at e
    · rename_i hl
      cases e
      obtain ⟨_, q, kvs, e1, r1⟩ := R.robj W rv h1
      cases q
      have hz := r1.length
      obtain ⟨ep, e2⟩ := e1.dictAt
      refine kdx_call hh hv e2 (by rw [hz, size24]; lia) fun h' tk acc c as hk hS has hG hacc => ?_
      have hnd : (as ++ [s.heap.objs.size]).Nodup := by
        refine List.nodup_append.mpr ⟨hG.rise.imp (fun h => Nat.ne_of_lt h), by simp, fun a ha b hb => ?_⟩
        simp at hb; subst hb
        exact Nat.ne_of_gt (hG.above a ha)
      have hfree : ∀ a ∈ as ++ [s.heap.objs.size], s.heap.get? a = none := fun a ha => by
        rcases List.mem_append.mp ha with ha | ha
        · cases q : s.heap.get? a with
          | none => rfl
          | some o => exact absurd (Heap.lt_size q) (Nat.not_lt.mpr (Nat.le_of_lt (hG.above a ha)))
        · simp at ha; subst ha; exact none_size
      refine ⟨h', tk, ρ ++ (as ++ [s.heap.objs.size]), R.addAll hk _ _ (by simp [pairTups, has, hz]) hnd hfree fun j a o ea eo => ?_, Grow.addAll hk hfree, ⟨s.heap.objs.size, ?_, rfl⟩⟩
      · by_cases hj : j < as.length
        · rw [List.getElem?_append_left hj] at ea
          have hj2 : j < es.length := by lia
          rw [List.getElem?_append_left (by simp [pairTups]; exact hj2)] at eo
          obtain ⟨key, k, x, e3, e4, e5⟩ := hG.pairs j a ea
          obtain ⟨x', e6, rx⟩ := r1.get e3
          simp only [pairTups, List.getElem?_map, e6, Option.map_some, Option.some.injEq] at eo
          subst eo
          obtain ⟨t, rfl⟩ := Value.isInt_shape e4
          exact ⟨[.int k t, x], ⟨0, e5⟩, ⟨t, rfl⟩, rx.mono (List.prefix_append ..), trivial⟩
        · have hj2 := (List.getElem?_eq_some_iff.mp ea).1
          simp at hj2
          have : j = as.length := by lia
          subst this
          rw [List.getElem?_append_right (Nat.le_refl _)] at ea
          simp at ea; subst ea
          rw [List.getElem?_append_right (by simp [pairTups]; lia)] at eo
          simp [pairTups, has, hz] at eo
          subst eo
          refine ⟨as.map Value.ref, ⟨c, ?_⟩, ?_⟩
          · rw [hS]
            have : acc = (as.map Value.ref).toArray := by rw [← hacc]
            rw [this]
          · have := refs_vrs (Z := Z) (ρ := ρ) (as := as) (x := s.heap.objs.size) as.length 0 (by simp)
            rw [List.drop_zero, ← List.range_eq_range', has, hz, R.len] at this
            exact this
      · rw [← R.len, List.getElem?_append_right (by lia), Nat.add_sub_cancel_left, ← hz, ← has, List.getElem?_append_right (Nat.le_refl _)]; simp
    · cases e
  · cases e
set_option tactic.hygienic true in
theorem max_sound {ρ : List Addr} {H H' : Hp} {v w r : AV} {v' w' : Value} {A : Around} {s : Shared} (hh : A.handled = none) (R : HR Z ρ H s.heap) (rv : VR Z ρ v v') (rw' : VR Z ρ w w') (e : evMax v w H = some (r, H')) :
    Wp Z A (call (.builtin "max") [v', w']) (PV Z [] ρ s r H') s := by
  unfold evMax at e
  split at e
  · rename_i x y
    cases e
    obtain ⟨t, rfl⟩ := rv; obtain ⟨u, rfl⟩ := rw'
    refine max_two_ints hh fun h' tk hk => ?_
    refine ⟨h', tk, ρ, R.ext hk, Grow.ext hk, ?_⟩
    split
    · rename_i h; exact ⟨u, by rw [Int.max_eq_right (by lia)]⟩
    · rename_i h; exact ⟨t, by rw [Int.max_eq_left (by lia)]⟩
  · cases e
theorem isbool_sound {ρ : List Addr} {H H' : Hp} {v r : AV} {v' : Value} {A : Around} {s : Shared} (R : HR Z ρ H s.heap) (rv : VR Z ρ v v') (e : evIsBool v H = some (r, H')) :
    Wp Z A (call (.builtin "isinstance") [v', .type "bool"]) (PV Z [] ρ s r H') s := by
  unfold evIsBool at e
  split at e
  · cases e; cases rv
    exact IsiPair.bool_bool (PV.here (tk := s.toks) R rfl)
  · cases e
    obtain ⟨_, t, rfl⟩ := rv
    exact IsiPair.str_bool (PV.here R rfl)
  · cases e
set_option tactic.hygienic true in
theorem append_sound {ρ : List Addr} {H H' : Hp} {o v r : AV} {o' v' : Value} {A : Around} {s : Shared} (R : HR Z ρ H s.heap) (ro : VR Z ρ o o') (rv : VR Z ρ v v') (e : evAppend o v H = some (r, H')) :
    Wp Z A (call (.builtin "list.append") [o', v']) (PV Z [] ρ s r H') s := by
  unfold evAppend at e
  split at e
  · rename_i a
    split at e
    · rename_i xs h1
      split at e
      · rename_i hl
        cases e
        obtain ⟨l, hla, rfl⟩ := ro
        obtain ⟨vs, e1, r1⟩ := R.get h1 hla
        have hz := r1.length
        refine wpAny_list_append_plain (items := vs.toArray) e1 (fun h' hp hs => ?_) (by simp [hz, size24]; lia)
        obtain ⟨n, hn⟩ := hp
        have q : OR Z ρ h' l (.list (xs ++ [v])) := ⟨vs ++ [v'], ⟨n, by rw [hn]; simp⟩, r1.append ⟨rv, trivial⟩⟩
        exact ⟨h', s.toks, ρ, R.set hla hs q, Grow.set (List.mem_of_getElem? hla) hs ⟨_, hn⟩, rfl⟩
      · cases e
    · cases e
  · cases e
set_option tactic.hygienic true in
theorem pop_sound {ρ : List Addr} {H H' : Hp} {o r : AV} {o' : Value} {A : Around} {s : Shared} {pos : Pos} (R : HR Z ρ H s.heap) (ro : VR Z ρ o o') (e : evPop o H = some (r, H')) :
    Wp Z A (callWith pos (.builtin "list.pop") [o'] [] []) (PV Z [] ρ s r H') s := by
  unfold evPop at e
  split at e
  · rename_i a
    split at e
    · rename_i xs h1
      split at e
      · rename_i hl
        split at e
        · rename_i v hv
          cases e
          obtain ⟨l, hla, rfl⟩ := ro
          obtain ⟨vs, ⟨n, e1⟩, r1⟩ := R.get h1 hla
          have hz := r1.length
          rw [List.getLast?_eq_getElem?] at hv
          obtain ⟨y, hy, ry⟩ := r1.get hv
          refine P.pop_list (items := vs.toArray) (y := y) e1 (by simpa [hz] using hy) ?_ (by simp [hz, size24]; lia)
          have hs := Heap.SameBut.update s.heap l (Obj.mapSeq fun xs => xs.eraseIdxIfInBounds (vs.toArray.size - 1))
          have hg := Heap.get?_update_self (Obj.mapSeq fun xs => xs.eraseIdxIfInBounds (vs.toArray.size - 1)) e1 rfl
          have hne : 0 < vs.length := by
            have := (List.getElem?_eq_some_iff.mp hy).1; lia
          have he : (vs.toArray.eraseIdxIfInBounds (vs.toArray.size - 1)) = vs.dropLast.toArray := by
            have hlt : vs.toArray.size - 1 < vs.toArray.size := by simp; lia
            rw [Array.eraseIdxIfInBounds, dif_pos hlt]
            apply Array.ext'
            rw [Array.toList_eraseIdx]
            show vs.eraseIdx (vs.toArray.size - 1) = vs.dropLast
            rw [List.size_toArray, List.eraseIdx_length_sub_one]
          have hm : ∃ n', Obj.mapSeq (fun xs => xs.eraseIdxIfInBounds (vs.toArray.size - 1)) { cls := .type "list", data := .seq vs.toArray n } = { cls := .type "list", data := .seq (vs.toArray.eraseIdxIfInBounds (vs.toArray.size - 1)) n' } := ⟨_, rfl⟩
          obtain ⟨n', hm⟩ := hm
          have q : OR Z ρ (s.heap.update l (Obj.mapSeq fun xs => xs.eraseIdxIfInBounds (vs.toArray.size - 1))) l (.list xs.dropLast) := by
            refine ⟨vs.dropLast, ⟨n', ?_⟩, ?_⟩
            · rw [hg, hm, he]
            · rw [List.dropLast_eq_take, List.dropLast_eq_take, hz]; exact r1.take _
          exact ⟨_, s.toks, ρ, R.set hla hs q, Grow.set (List.mem_of_getElem? hla) hs ⟨_, hg⟩, ry⟩
        · cases e
      · cases e
    · cases e
  · cases e
end Mine
end
-- U7
section
set_option tactic.hygienic false
namespace Mine
open PySem PySem.W PyProof.Rows PySem.Calls PySem.SeqAt
variable {Z : Wd}
theorem findIdx_strs (W : WF0 Z) {ρ : List Addr} {k : Nat} (hk : k < Z.nN) : ∀ {xs : List AV} {vs : List Value}, VRs Z ρ xs vs → allStr xs = true → vs.findIdx? (strIs (Z.nm k)) = xs.findIdx? fun x => x = .str k
  | [], [], _, _ => rfl
  | [], _ :: _, h, _ => h.elim
  | _ :: _, [], h, _ => h.elim
  | x :: xs, v :: vs, ⟨r, h⟩, e => by
    obtain ⟨⟨j, rfl⟩, e⟩ := allStr_cons e
    obtain ⟨hj, t, rfl⟩ := r
    rw [List.findIdx?_cons, List.findIdx?_cons, findIdx_strs W hk h e]
    have : strIs (Z.nm k) (Value.str (Z.nm j) t) = decide (AV.str j = AV.str k) := by
      show (Z.nm j == Z.nm k) = _
      by_cases q : j = k
      · subst q; simp
      · have : Z.nm j ≠ Z.nm k := fun z => q (W.inj _ _ hj hk z)
        simp [q, this]
    rw [this]
set_option tactic.hygienic true in
theorem index_sound (W : WF0 Z) {ρ : List Addr} {H H1 H' : Hp} {o v r : AV} {o' : Value} {A : Around} {s : Shared} {pos : Pos} {x : Sem Value} (ro : VR Z ρ o o')
    (hx : Wp Z A x (PV Z [] ρ s v H1) s) (e : evIndex Z.P o v H1 = some (r, H')) : Wp Z A (callWith pos (.builtin "list.index") [o'] [(false, x)] []) (PV Z [] ρ s r H') s := by
  unfold evIndex at e
  split at e
  · rename_i xs h1
    split at e
    · rename_i k
      split at e
      · rename_i hs
        simp only [Bool.and_eq_true, decide_eq_true_eq] at hs
        obtain ⟨j, hj, q⟩ := Option.map_eq_some_iff.mp e
        cases q
        have hl : ∃ l, o' = .ref l := by
          cases o with
          | ref i => obtain ⟨c, _, rfl⟩ := ro; exact ⟨_, rfl⟩
          | st g => cases ro; exact ⟨_, rfl⟩
          | _ => simp [Mine.obj] at h1
        obtain ⟨l, rfl⟩ := hl
        refine P.index_list (hx.mono ?_)
        rintro v' s1 ⟨h', tk, ρ', R1, G1, rv⟩
        obtain ⟨l', q, vs, ⟨n, e1⟩, r1⟩ := R1.robj W (ro.mono G1.pre) h1
        cases q
        obtain ⟨hk, t, rfl⟩ := rv
        have hz := r1.length
        rw [← findIdx_strs W hk r1 hs.1, List.findIdx?_eq_some_iff_getElem] at hj
        obtain ⟨hj1, hj2, hj3⟩ := hj
        refine ⟨vs.toArray, n, strIs (Z.nm k), j, by simpa using hj1, e1, fun y m => ?_, by lia, by simpa using hj2, fun m hm hlt => ?_, ?_⟩
        · obtain ⟨z, u, rfl⟩ := mem_strs r1 hs.1 y (by simpa using m)
          have := PySem.SeqRoads2.EqGives.str z (Z.nm k) u t
          rw [str_beq] at this
          exact this
        · have := hj3 m hlt
          simpa using this
        · exact ⟨h', _, ρ', R1, G1, ⟨_, rfl⟩⟩
      · cases e
    · cases e
  · cases e
theorem getD_sound {ρ : List Addr} {d : AV} {b : Option AV} {w : Option Value} {d' : Value} (rd : VR Z ρ d d') (h : (b = none ∧ w = none) ∨ ∃ v v', b = some v ∧ w = some v' ∧ VR Z ρ v v') : VR Z ρ (b.getD d) (w.getD d') := by
  rcases h with ⟨rfl, rfl⟩ | ⟨v, v', rfl, rfl, r⟩
  · exact rd
  · exact r
theorem isRef {ρ : List Addr} {H : Hp} {o : AV} {o' : Value} {x : AO} (ro : VR Z ρ o o') (h1 : Mine.obj Z.P H o = some x) : ∃ l, o' = .ref l := by
  cases o with
  | ref i => obtain ⟨c, _, rfl⟩ := ro; exact ⟨_, rfl⟩
  | st g => cases ro; exact ⟨_, rfl⟩
  | _ => simp [Mine.obj] at h1
theorem nosys' (W : WF0 Z) {ρ : List Addr} {H H1 : Hp} {h : Heap} (R : HR Z ρ H h) {v : AV} {l : Addr} {o : AO} (ho : Mine.obj Z.P H1 v = some o) (hv : VR Z ρ v (.ref l)) (hd : (∃ es, o = .dictI es) ∨ ∃ es, o = .dictS es) : (l == sysModules) = false := by
  cases v with
  | ref i => obtain ⟨c, hc, q⟩ := hv; cases q; exact W.sys _ (R.new _ (List.mem_of_getElem? hc))
  | st g =>
    simp only [Mine.obj, Option.some.injEq] at ho
    rcases hd with ⟨es, rfl⟩ | ⟨es, rfl⟩
    · exact absurd ho (W.nodict g es)
    · exact absurd ho (W.nodictS g es)
  | _ => simp [Mine.obj] at ho
theorem get1_sound (W : WF0 Z) {ρ : List Addr} {H H1 H' : Hp} {o k r : AV} {o' : Value} {A : Around} {s : Shared} {pos : Pos} {x : Sem Value} (R : HR Z ρ H s.heap) (ro : VR Z ρ o o')
    (hx : Wp Z A x (PV Z [] ρ s k H1) s) (e : evGet Z.P o k .none H1 = some (r, H')) : Wp Z A (callWith pos (.builtin "dict.get") [o'] [(false, x)] []) (PV Z [] ρ s r H') s := by
  unfold evGet at e
  cases h1 : obj Z.P H1 o with
  | none => rw [h1] at e; exact no_some e
  | some ob =>
  rw [h1] at e
  cases ob with
  | dictI es =>
    cases k with
    | int k =>
      cases e
      obtain ⟨l, rfl⟩ := isRef ro h1
      refine wpAny_dict_get1 (knd := intKind Z.prog Z.w) (nosys' W R h1 ro (.inl ⟨_, rfl⟩)) (hx.mono ?_)
      rintro v' s1 ⟨h', tk, ρ', R1, G1, t, rfl⟩
      obtain ⟨l', q, kvs, e1, r1⟩ := R1.robj W (ro.mono G1.pre) h1
      cases q
      exact ⟨k, valueAt kvs, intKind_is _ _ _ _, e1.mapOf, ⟨h', _, ρ', R1, G1, getD_sound (d := .none) rfl (valI_sound k r1)⟩⟩
    | _ => exact no_some e
  | dictS es =>
    cases k with
    | str k =>
      cases e
      obtain ⟨l, rfl⟩ := isRef ro h1
      refine wpAny_dict_get1 (knd := PySem.strKind Z.prog Z.w) (nosys' W R h1 ro (.inr ⟨_, rfl⟩)) (hx.mono ?_)
      rintro v' s1 ⟨h', tk, ρ', R1, G1, hk, t, rfl⟩
      obtain ⟨l', q, kvs, e1, r1⟩ := R1.robj W (ro.mono G1.pre) h1
      cases q
      exact ⟨Z.nm k, valueAt kvs, strKind_is _ _ _ _, e1.mapOf, ⟨h', _, ρ', R1, G1, getD_sound (d := .none) rfl (valS_sound W k hk r1)⟩⟩
    | _ => exact no_some e
  | _ => exact no_some e
theorem get2_sound (W : WF0 Z) {ρ : List Addr} {H H1 H2 H' : Hp} {o k d r : AV} {o' : Value} {A : Around} {s : Shared} {pos : Pos} {x y : Sem Value} (R : HR Z ρ H s.heap) (ro : VR Z ρ o o')
    (hx : Wp Z A x (fun k' s1 => ∃ h1 tk1 ρ1, s1 = { s with heap := h1, toks := tk1 } ∧ HR Z ρ1 H1 h1 ∧ Grow [] ρ ρ1 s.heap h1 ∧ VR Z ρ1 k k' ∧ Wp Z A y (PV Z [] ρ1 s1 d H2) s1) s)
    (e : evGet Z.P o k d H2 = some (r, H')) : Wp Z A (callWith pos (.builtin "dict.get") [o'] [(false, x), (false, y)] []) (PV Z [] ρ s r H') s := by
  unfold evGet at e
  cases h1 : obj Z.P H2 o with
  | none => rw [h1] at e; exact no_some e
  | some ob =>
  rw [h1] at e
  cases ob with
  | dictI es =>
    cases k with
    | int k =>
      cases e
      obtain ⟨l, rfl⟩ := isRef ro h1
      refine wpAny_dict_get2 (knd := intKind Z.prog Z.w) (nosys' W R h1 ro (.inl ⟨_, rfl⟩)) (hx.mono ?_)
      rintro k' s1 ⟨h1', tk1, ρ1, rfl, R1, G1, ⟨t, rfl⟩, hy⟩
      refine hy.mono ?_
      rintro d' s2 ⟨h2, tk2, ρ2, R2, G2, rd⟩
      obtain ⟨l', q, kvs, e1, r1⟩ := R2.robj W ((ro.mono G1.pre).mono G2.pre) h1
      cases q
      exact ⟨k, valueAt kvs, intKind_is _ _ _ _, e1.mapOf, ⟨h2, _, ρ2, R2, G1.trans G2, getD_sound rd (valI_sound k r1)⟩⟩
    | _ => exact no_some e
  | dictS es =>
    cases k with
    | str k =>
      cases e
      obtain ⟨l, rfl⟩ := isRef ro h1
      refine wpAny_dict_get2 (knd := PySem.strKind Z.prog Z.w) (nosys' W R h1 ro (.inr ⟨_, rfl⟩)) (hx.mono ?_)
      rintro k' s1 ⟨h1', tk1, ρ1, rfl, R1, G1, ⟨hk, t, rfl⟩, hy⟩
      refine hy.mono ?_
      rintro d' s2 ⟨h2, tk2, ρ2, R2, G2, rd⟩
      obtain ⟨l', q, kvs, e1, r1⟩ := R2.robj W ((ro.mono G1.pre).mono G2.pre) h1
      cases q
      exact ⟨Z.nm k, valueAt kvs, strKind_is _ _ _ _, e1.mapOf, ⟨h2, _, ρ2, R2, G1.trans G2, getD_sound rd (valS_sound W k hk r1)⟩⟩
    | _ => exact no_some e
  | _ => exact no_some e
/-- a list has no «keys» -/
theorem keys_miss {prog : Program} {w : World} {A : Around} {s : Shared} {a : Addr} {xs : Array Value} {k : Nat} {Q : Option Value → Shared → Prop} {E : Value → Shared → Prop} (hx : s.heap.get? a = some { cls := .type "list", data := .seq xs k }) (hA : A.handled = none)
    (h : ∀ h' tk, (∀ b o, s.heap.get? b = some o → h'.get? b = some o) → Q none { s with heap := h', toks := tk }) : wpAny (model prog w) A (getAttr? (.ref a) "keys") Q E s := by
  obtain ⟨hp, g, d, tk, os⟩ := s
  have hT : ∀ tk', (⟨hp, g, d, tk', os⟩ : Shared).TypeIs (.ref a) "list" := fun _ => ⟨_, hx, rfl⟩
  have hmiss : typeLookup (.type "list") "keys" = pure none := by rw [typeLookup_type, builtinLookup_eq_fast]; kernel_rfl
  have f1 := sub_AttributeError
  have f3 := F.slot_list_getattribute.lookup
  have f4 := F.slot_list_getattribute.bind (.ref a)
  have f5 := am_list_getattr_none
  unfold getAttr? getAttrBy? getAttrBy
  repeat (any_goals (first | assumption | exact hT _ | ((with_reducible show wpAny _ _ (call (Value.builtin "list.__getattribute__") _ _) _ _ _); refine call_meets F.slot_list_getattribute (hT _) am_entry_list_getattribute (F.args_list_getattribute_2 _ _) (meets_getattribute_miss_list a xs k #[] _ _ hmiss (by decide)) ⟨hx, hA, fun h' tk' e hx' => ?_⟩) | wp_step))
  obtain ⟨t', u', he⟩ := hx'.there
  show wpAny _ _ (getattributeRaised _ _ _ _ _ _ _) _ _ _
  unfold getattributeRaised
  repeat (any_goals (first | assumption | wp_step))
  exact h _ _ hx'.of.keeps
theorem entry_upd : entryFor table "dict.update.loop" = some Builtin.«dict.update.loop» := entryFor_of_tree (by kernel_rfl)
theorem plain_upd : plainId "dict.update.loop" = true := by decide +kernel
theorem sub_TypeErr : True := trivial
/-- pairs laid as tuples of two -/
def TupsAt (h : Heap) (vs : List Value) (kvs : List (Int × Value)) : Prop :=
  vs.length = kvs.length ∧ ∀ (j : Nat) (v : Value) (k : Int) (x : Value), vs[j]? = some v → kvs[j]? = some (k, x) → ∃ a t, v = .ref a ∧ tupAt h a [.int k t, x]
theorem upd_loop {prog : Program} {w : World} {A : Around} {R : Result → Shared → Prop} (hh : A.handled = none) {S I l : Addr} {h1 : Heap} {vs : List Value} {kvs : List (Int × Value)} (hSI : S ≠ I) (hlS : l ≠ S) (hlI : l ≠ I)
    (ht : TupsAt h1 vs kvs) (hTS : ∀ (j : Nat) (a : Addr), vs[j]? = some (.ref a) → a ≠ S ∧ a ≠ I) (hl1 : h1.IsList l vs.toArray) (hz : vs.length ≤ 1000000) :
    ∀ (n i : Nat) (s : Shared) (acc : List (Int × Value)), vs.length - i = n → i ≤ vs.length → acc.length ≤ i → s.heap.DictOf (intKind prog w) S acc → s.heap.IsListIter I l i →
      (∀ b o, b ≠ S → b ≠ I → h1.get? b = some o → s.heap.get? b = some o) →
      (∀ h' tk, h'.DictOf (intKind prog w) S ((kvs.drop i).foldl (fun acc kv => PySem.stored acc kv.1 kv.2) acc) → (∀ b o, b ≠ S → b ≠ I → h1.get? b = some o → h'.get? b = some o) → R (.ok (.ret .none)) { s with heap := h', toks := tk }) →
      codeAny (model prog w) A (.builtin "dict.update.loop" ⟨[.ref S, .ref I, rawInt i, .none], []⟩) R s := by
  intro n
  induction n with
  | zero =>
    intro i s acc hn hi ha hd hit hk hR
    have hin : i = vs.length := by lia
    subst hin
    have hl : s.heap.IsList l vs.toArray := hl1.at fun o e => hk l o hlS hlI e
    refine codeAny_builtin entry_upd ?_
    rw [Around.under_plainId plain_upd _]
    show wpAny _ A.in1 (pyNext (.ref I) >>= _) _ _ s
    refine wpAny_bind (wpAny_pyNext_list_end hh hit hl (by simp) fun h' he => ?_)
    show wpAny _ A.in1 (do Builtin.Dict.addKeywords S []; ret .none) _ _ _
    refine wpAny_bind (wpAny_pure (wpAny_pure ?_))
    have := hR h' s.toks (by
      rw [List.drop_eq_nil_of_le (by rw [ht.1]; exact Nat.le_refl _)]
      exact dictOf_same (fun o e => he S o hSI e) hd) fun b o h1' h2' e => he b o h2' (hk b o h1' h2' e)
    exact this
  | succ n ih =>
    intro i s acc hn hi ha hd hit hk hR
    have hlt : i < vs.length := by lia
    have hltk : i < kvs.length := ht.1 ▸ hlt
    have hl : s.heap.IsList l vs.toArray := hl1.at fun o e => hk l o hlS hlI e
    obtain ⟨a, t, hv, htup⟩ := ht.2 i vs[i] kvs[i].1 kvs[i].2 (List.getElem?_eq_getElem hlt) (List.getElem?_eq_getElem hltk)
    obtain ⟨haS, haI⟩ := hTS i a (by rw [List.getElem?_eq_getElem hlt, hv])
    refine codeAny_builtin entry_upd ?_
    rw [Around.under_plainId plain_upd _]
    show wpAny _ A.in1 (pyNext (.ref I) >>= _) _ _ s
    refine wpAny_bind (wpAny_pyNext_list_item (x := .ref a) hit hl (by simp [hlt, hv]) fun h' hit' hs' => ?_)
    obtain ⟨nn, hg⟩ := htup
    have htu : h'.get? a = some { cls := .type "tuple", data := .seq [Value.int kvs[i].1 t, kvs[i].2].toArray nn } := (hs'.2 a haI).trans (hk a _ haS haI hg)
    have hd' : h'.DictOf (intKind prog w) S acc := dictOf_same (fun o e => (hs'.2 S hSI).trans e) hd
    refine wpAny_bind (wpAny_holding (wpAny_bind ?_))
    unfold Builtin.Dict.pairItems
    refine wpAny_tryCatch (wpAny_bind (wpAny_typeOf (s := { s with heap := h' }) (v := .ref a) (T := "tuple") ⟨_, htu, rfl⟩ ?_))
    rw [if_pos (by decide)]
    refine wpAny_bind (wpAny_seqItems htu rfl (wpAny_pure ?_))
    refine (wpAny_holding (wpAny_dictSet_pairs (hsz := by rw [size24]; lia) (intKind_is _ _ _ _) hd' fun h2 hd2 hs2 => ?_))
    refine wpAny_pure ⟨plainId_quiet plain_upd _, ?_⟩
    have e1 : kvs.drop i = kvs[i] :: kvs.drop (i + 1) := List.drop_eq_getElem_cons hltk
    refine ih (i + 1) _ (PySem.stored acc kvs[i].1 kvs[i].2) (by lia) hlt (Nat.le_trans (stored_length_le ..) (by lia)) hd2 (hit'.extBut hs2.extBut (Ne.symm hSI))
      (fun b o h1' h2' e => (hs2.2 b h1').trans ((hs'.2 b h2').trans (hk b o h1' h2' e))) fun h3 tk hd3 hk3 => ?_
    refine hR h3 tk ?_ hk3
    rw [e1]; exact hd3
theorem dict_pairs {prog : Program} {w : World} {A : Around} {s : Shared} {l : Addr} {vs : List Value} {kvs : List (Int × Value)} {Q : Value → Shared → Prop} {E : Value → Shared → Prop} (hh : A.handled = none)
    (hl : listAt s.heap l vs) (ht : TupsAt s.heap vs kvs) (hz : vs.length ≤ 1000000)
    (h : ∀ h' tk, h'.DictOf (intKind prog w) s.heap.objs.size (kvs.foldl (fun acc kv => PySem.stored acc kv.1 kv.2) []) → (∀ b o, s.heap.get? b = some o → h'.get? b = some o) → Q (.ref s.heap.objs.size) { s with heap := h', toks := tk }) :
    wpAny (model prog w) A (call (.type "dict") [.ref l]) Q E s := by
  refine callType_codes (Q₁ := fun obj s₁ => obj = .ref s.heap.objs.size ∧ s₁ = { s with heap := s.heap.push { cls := .type "dict", data := .dict #[] } }) F.kt_called_dict (F.kt_typeCall_dict_1 _) F.entry_dict_init (kt_code_dict_new _ ⟨rfl, rfl⟩) ?_
  rintro obj s₁ ⟨rfl, rfl⟩
  have hnew : (s.heap.push { cls := .type "dict", data := .dict #[] }).DictOf (intKind prog w) s.heap.objs.size [] := Heap.DictOf.new s.heap
  obtain ⟨n, hg⟩ := hl
  have hll : l < s.heap.objs.size := Heap.lt_size hg
  refine ⟨hnew.typeIs, F.args_dict_init_2 _ _, ?_⟩
  unfold Builtin.«dict.__init__»
  refine wpAny_bind ?_
  unfold Builtin.Dict.selfAndRest
  refine wpAny_bind (wpAny_notOrdered_dict hnew.typeIs ?_)
  show wpAny _ _ (pure (s.heap.objs.size, [Value.ref l])) _ _ _
  refine wpAny_pure ?_
  show wpAny _ _ (Builtin.Dict.updateFrom "dict.__init__" s.heap.objs.size (.ref l) [] .none) _ _ _
  unfold Builtin.Dict.updateFrom
  have hg1 : (s.heap.push { cls := .type "dict", data := .dict #[] }).get? l = some { cls := .type "list", data := .seq vs.toArray n } := Heap.get?_push_of_some _ hg
  refine wpAny_bind (wpAny_typeOf (T := "list") ⟨_, hg1, rfl⟩ ?_)
  rw [if_pos (by decide)]
  refine wpAny_bind (keys_miss (A := A.in1.in1) hg1 hh fun h2 tk2 hk2 => ?_)
  rw [if_pos (by decide)]
  refine wpAny_bind (wpAny_rule ?_)
  have hg2 : h2.IsList l vs.toArray := ⟨_, hk2 _ _ hg1, rfl, n, rfl⟩
  refine wpAny_bind (wpAny_pyIter_list (s := { s with heap := h2, toks := tk2 }) hg2 ?_)
  have hd2 : h2.DictOf (intKind prog w) s.heap.objs.size [] := dictOf_same (fun o e => hk2 _ _ e) hnew
  have hSlt : s.heap.objs.size < h2.objs.size := by
    obtain ⟨_, _, _, ho, _⟩ := hd2
    exact Heap.lt_size ho
  have hltl : l < h2.objs.size := Heap.lt_size (hk2 _ _ hg1)
  refine wpAny_pure ⟨plainId_quiet plain_upd _, ?_⟩
  refine upd_loop (A := A.in1) hh (S := s.heap.objs.size) (I := h2.objs.size) (l := l) (h1 := s.heap) (vs := vs) (kvs := kvs) (Nat.ne_of_lt hSlt) (Nat.ne_of_lt hll) (Nat.ne_of_lt hltl) ht (fun j a e => ?_) ⟨_, hg, rfl, n, rfl⟩ hz
    vs.length 0 _ [] (by lia) (Nat.zero_le _) (Nat.le_refl _) (hd2.push _) ⟨_, Heap.get?_push_size _ rfl, rfl, rfl⟩ (fun b o _ _ e => Heap.get?_push_of_some _ (hk2 _ _ (Heap.get?_push_of_some _ e))) fun h3 tk3 hd3 hk3 => ?_
  · have hj : j < vs.length := (List.getElem?_eq_some_iff.mp e).1
    have hj2 : j < kvs.length := ht.1 ▸ hj
    obtain ⟨a', t, q, nn, hga⟩ := ht.2 j (.ref a) kvs[j].1 kvs[j].2 e (List.getElem?_eq_getElem hj2)
    cases q
    have := Heap.lt_size hga
    exact ⟨Nat.ne_of_lt this, Nat.ne_of_lt (Nat.lt_trans this hSlt)⟩
  · exact ⟨rfl, h h3 tk3 hd3 fun b o e => hk3 b o (Nat.ne_of_lt (Heap.lt_size e)) (Nat.ne_of_lt (Nat.lt_trans (Heap.lt_size e) hSlt)) e⟩
theorem ki_stored {ρ : List Addr} {es : List (Int × AV)} {kvs : List (Int × Value)} {k : Int} {v : AV} {v' : Value} (r : KI Z ρ es kvs) (rv : VR Z ρ v v') : KI Z ρ (putI es k v) (PySem.stored kvs k v') := by
  have hany : (kvs.any fun kv => decide (kv.1 = k)) = es.any fun kv => decide (kv.1 = k) := by
    have e1 : (kvs.any fun kv => decide (kv.1 = k)) = (kvs.map (·.1)).any fun x => decide (x = k) := by rw [List.any_map]; rfl
    have e2 : (es.any fun kv => decide (kv.1 = k)) = (es.map (·.1)).any fun x => decide (x = k) := by rw [List.any_map]; rfl
    rw [e1, e2, r.1]
  unfold putI PySem.stored
  rw [hany]
  split
  · rename_i hc
    clear hc hany
    obtain ⟨r1, r2⟩ := r
    induction es generalizing kvs with
    | nil =>
      cases kvs with
      | nil => exact ⟨rfl, trivial⟩
      | cons _ _ => simp at r1
    | cons e es ih =>
      cases kvs with
      | nil => simp at r1
      | cons x kvs =>
        simp only [List.map_cons, List.cons.injEq] at r1
        obtain ⟨h1, h2⟩ := r1
        obtain ⟨i1, i2⟩ := ih h2 r2.2
        constructor
        · simp only [List.map_cons]
          rw [i1]
          congr 1
          rw [h1]
          split <;> first | rfl | exact h1
        · simp only [List.map_cons]
          refine ⟨?_, i2⟩
          rw [h1]
          split
          · exact rv
          · exact r2.1
  · refine ⟨by simp [r.1], ?_⟩
    rw [List.map_append, List.map_append]
    exact r.2.append ⟨rv, trivial⟩
theorem ki_folded {ρ : List Addr} : ∀ {kvs : List (Int × AV)} {kvs' : List (Int × Value)} {es : List (Int × AV)} {es' : List (Int × Value)}, KI Z ρ es es' → KI Z ρ kvs kvs' →
    KI Z ρ (kvs.foldl (fun es kv => putI es kv.1 kv.2) es) (kvs'.foldl (fun acc kv => PySem.stored acc kv.1 kv.2) es')
  | [], [], _, _, r, _ => r
  | [], _ :: _, _, _, _, h => by simp [KI] at h
  | _ :: _, [], _, _, _, h => by simp [KI] at h
  | (a, v) :: kvs, (b, w) :: kvs', es, es', r, ⟨h1, h2⟩ => by
    simp only [List.map_cons, List.cons.injEq] at h1
    obtain ⟨rfl, h1⟩ := h1
    exact ki_folded (kvs := kvs) (kvs' := kvs') (es := putI es b v) (es' := PySem.stored es' b w) (ki_stored r h2.1) ⟨h1, h2.2⟩
set_option tactic.hygienic true in
theorem pairs_sound (W : WF0 Z) {ρ : List Addr} {H : Hp} {h : Heap} (R : HR Z ρ H h) : ∀ {xs : List AV} {vs : List Value} {kvs : List (Int × AV)}, VRs Z ρ xs vs → xs.mapM (pairOf Z.P H) = some kvs → ∃ kvs', TupsAt h vs kvs' ∧ KI Z ρ kvs kvs' := by
  intro xs
  induction xs with
  | nil =>
    intro vs kvs r e
    obtain rfl := r.nil_inv
    simp at e; subst e
    exact ⟨[], ⟨rfl, fun j v k x h => by simp at h⟩, rfl, trivial⟩
  | cons x xs ih =>
    intro vs kvs r e
    obtain ⟨v, vs, rfl, rx, r⟩ := r.cons_inv
    simp only [List.mapM_cons, Option.pure_def, Option.bind_eq_bind] at e
    obtain ⟨p, hp, e⟩ := Option.bind_eq_some_iff.mp e
    obtain ⟨ps, hps, e⟩ := Option.bind_eq_some_iff.mp e
    cases e
    obtain ⟨kvs', ht, hk⟩ := ih r hps
    unfold pairOf at hp
    split at hp
    · rename_i k y h1
      cases hp
      obtain ⟨a, rfl, ws, e1, r1⟩ := R.robj W rx h1
      obtain ⟨k', ws1, rfl, ⟨t, rfl⟩, r2⟩ := r1.cons_inv
      obtain ⟨y', ws2, rfl, ry, r3⟩ := r2.cons_inv
      obtain rfl := r3.nil_inv
      refine ⟨(k, y') :: kvs', ⟨by simp [ht.1], fun j v k2 x2 h2 h3 => ?_⟩, by simp [hk.1], ry, hk.2⟩
      cases j with
      | zero =>
        simp at h2 h3
        obtain ⟨rfl, rfl⟩ := h3
        subst h2
        exact ⟨a, t, rfl, e1⟩
      | succ j => exact ht.2 j v k2 x2 (by simpa using h2) (by simpa using h3)
    · cases hp
set_option tactic.hygienic true in
theorem dict_sound (W : WF0 Z) {ρ : List Addr} {H H' : Hp} {v r : AV} {v' : Value} {A : Around} {s : Shared} (hh : A.handled = none) (R : HR Z ρ H s.heap) (rv : VR Z ρ v v') (e : evDict Z.P v H = some (r, H')) :
    Wp Z A (call (.type "dict") [v']) (PV Z [] ρ s r H') s := by
  unfold evDict at e
  split at e
  · rename_i es h1
    split at e
    · rename_i hl
      cases e
      obtain ⟨l, rfl, kvs, e1, r1⟩ := R.robj W rv h1
      refine kt_call_dict (nosys W R h1 rv (.inl ⟨_, rfl⟩)) e1 (by rw [r1.length, size24]; lia) fun h' hd hs => ?_
      refine PV.grown (tk := s.toks) R (fun b o q => ?_) none_size ⟨kvs, hd, r1.1, r1.2.mono (List.prefix_append ..)⟩
      exact (hs.2 b (Nat.ne_of_lt (Heap.lt_size q))).trans (Heap.get?_push_of_some _ q)
    · cases e
  · rename_i xs h1
    split at e
    · rename_i kvs hm
      split at e
      · rename_i hl
        cases e
        obtain ⟨l, rfl, vs, e1, r1⟩ := R.robj W rv h1
        obtain ⟨kvs', ht, hk⟩ := pairs_sound W R r1 hm
        refine dict_pairs hh e1 ht (by rw [r1.length]; exact hl) fun h' tk hd hkp => ?_
        have q : KI Z ρ (kvs.foldl (fun es kv => putI es kv.1 kv.2) []) (kvs'.foldl (fun acc kv => PySem.stored acc kv.1 kv.2) []) := ki_folded (es := []) (es' := []) ⟨rfl, trivial⟩ hk
        exact PV.grown R hkp none_size ⟨_, hd, q.1, q.2.mono (List.prefix_append ..)⟩
      · cases e
    · cases e
  · cases e
end Mine
end
-- U8
section
set_option tactic.hygienic false
namespace Mine
open PySem PySem.W PyProof.Rows PySem.Calls PySem.SeqAt
/-! what ties the mini text to the given one: the given one is laid anew from the mini text, with the places, the flags and the
blocks' tables of the given one; where that gives the given one again, the two are one -/
abbrev Tb := List (Str × NameKind)
noncomputable def isGlob (tb : Tb) (x : Str) : Bool := tb.lookup x == some .globalImplicit && !(x == ("__debug__" : Str))
noncomputable def isLoc (tb : Tb) (x : Str) : Bool := (tb.lookup x == some .local || tb.lookup x == some .cell) && !(x == ("__debug__" : Str))
noncomputable def bmName : Bm → Str
  | .append => "append" | .pop => "pop" | .index => "index" | .get => "get"
noncomputable def prName : Pr → Str
  | .len => "len" | .int => "int" | .list => "list" | .dict => "dict" | .max => "max" | .items => "" | .isbool => ""
/-- the table of a comprehension's block -/
noncomputable def compTb (tb : Tb) (names : Tb) : Tb :=
  names.map fun (n, k) => if (k == .free && tb.lookup n == some .cell) then (n, .cell) else (n, k)
structure CkI where
  nm : Nat → Str
  nN : Nat
  as : List Nat
  calls : List Nat
/-- what a node shows of itself -/
structure Vw where
  ks : List Expr := []
  n : Nat := 0
  id : Str := Str.empty
  gs : List Comprehension := []
  sc : Scope := default
  os : List (Option Expr) := []
noncomputable def vw : Expr → Vw
  | .BoolOp _ xs _ => { ks := xs }
  | .BinOp l _ r _ => { ks := [l, r] }
  | .UnaryOp _ x _ => { ks := [x] }
  | .IfExp x y z _ => { ks := [x, y, z] }
  | .Dict xs ys _ => { ks := ys, os := xs }
  | .ListComp el gs sc _ => { ks := [el], gs := gs, sc := sc }
  | .Compare l _ rs _ => { ks := l :: rs }
  | .Call f xs _ _ => { ks := f :: xs }
  | .Constant _ k _ => { n := k }
  | .Attribute v _ _ => { ks := [v] }
  | .Subscript v s _ => { ks := [v, s] }
  | .Name x _ => { id := x }
  | .List xs _ => { ks := xs }
  | .Tuple xs k _ => { ks := xs, n := k }
  | .Slice a b c _ => { ks := a.toList ++ b.toList ++ c.toList }
  | _ => {}
noncomputable def hd (xs : List Expr) : Expr := xs.headD default
noncomputable def kid (x : Expr) (i : Nat) : Expr := hd ((vw x).ks.drop i)
noncomputable def tail (x : Expr) : List Expr := (vw x).ks.tail
noncomputable def nth (nl : List Str) (i : Nat) : Str := (nl[i]?).getD Str.empty
/-- the place of a method's name ends where the call begins -/
noncomputable def endAt (ap p : Pos) : Pos := { ap with endLine := p.line }
structure RB where
  f : Expr → Expr
  w : Expr → Bool
  g : List Expr → List Expr
  v : List Expr → Bool
  /-- 1: a comprehension; 2: a call by a name; 3: None; 4: a tuple -/
  k : Nat
structure RBs where
  f : List Expr → List Expr
  w : List Expr → Bool
  k : Nat
noncomputable def RB.one (k : Nat) (f : Expr → Expr) (w : Expr → Bool) : RB := ⟨f, w, fun xs => [f (hd xs)], fun xs => w (hd xs), k⟩
noncomputable def litR (c : CkI) (v : AV) (x : Expr) : Expr := AV.casesOn v (.Constant .none (vw x).n x.pos) (fun b => .Constant (.bool b) (vw x).n x.pos)
  (fun i => Int.casesOn i (fun n => .Constant (.int n) (vw x).n x.pos) fun n => .UnaryOp .USub (.Constant (.int (n + 1 : Nat)) (vw (kid x 0)).n (kid x 0).pos) x.pos)
  (fun s => .Constant (.str (c.nm s)) (vw x).n x.pos) (fun _ => x) (fun _ => x) x
noncomputable def litW (c : CkI) (v : AV) : Bool := AV.casesOn v true (fun _ => true) (fun _ => true) (fun s => decide (s < c.nN)) (fun _ => false) (fun _ => false) false
noncomputable def litK (v : AV) : Nat := AV.casesOn v 3 (fun _ => 0) (fun _ => 0) (fun _ => 0) (fun _ => 0) (fun _ => 0) 0
noncomputable def keyR (c : CkI) : List Nat → List (Option Expr) → List (Option Expr)
  | [], _ => []
  | k :: ks, os => some (.Constant (.str (c.nm k)) (vw ((os.headD none).getD default)).n ((os.headD none).getD default).pos) :: keyR c ks os.tail
/-- a target: one name or two -/
noncomputable def tgIds (t : Expr) : List Str := if (vw t).ks.isEmpty then [(vw t).id] else (vw t).ks.map fun x => (vw x).id
noncomputable def tgNames : List Str → List Expr → List Expr
  | [], _ => []
  | x :: r, ks => .Name x (hd ks).pos :: tgNames r ks.tail
noncomputable def tgR (ts : List Str) (t : Expr) : Expr := bif ts.length == 1 then .Name (nth ts 0) t.pos else .Tuple (tgNames ts (vw t).ks) (vw t).n t.pos
/-- a walk's source -/
noncomputable def itR (k : IK) (src : RBs) (it : Expr) : Expr := IK.casesOn k (hd (src.f [it])) (hd (src.f [it]))
  (.Call (.Name "enumerate" (kid it 0).pos) (src.f (tail it)) [] it.pos) (.Call (.Name "range" (kid it 0).pos) (src.f (tail it)) [] it.pos)
noncomputable def itW (k : IK) (n : Nat) (src : RBs) (it : Expr) (tb : Tb) (ts : List Str) : Bool := IK.casesOn k (n == 1 && src.w [it] && ts.length == 1) (n == 1 && src.w [it] && ts.length == 1)
  (n == 1 && src.w (tail it) && isGlob tb "enumerate" && ts.length == 2) (src.w (tail it) && isGlob tb "range" && ts.length == 1)
noncomputable def gen (x : Expr) : Comprehension := (vw x).gs.headD ⟨default, default, [], 0⟩
noncomputable def compW (k : IK) (nl cs ts : List Str) (tn : Nat) (sc : Scope) (tb : Tb) (cap : List Nat) : Bool :=
  (cap.all fun i => (nl[i]?).isSome) && (sc.kind == .function && ((sc.names.all fun p => p.2 != .cell) && ((cs.all fun x => sc.names.lookup x == some .free && tb.lookup x == some .cell) &&
    ((ts.all fun x => sc.names.lookup x == some .local && !(x == ("__debug__" : Str))) && (ts.length == tn && ((sc.names.all fun p => p.2 != .local || sc.names.lookup p.1 == some .local) &&
    ((sc.names.all fun p => p.2 != .free || cs.contains p.1) && (decide ((sc.names.map (·.1)).Nodup) && decide ((cs ++ ts).Nodup)))))))))
noncomputable def isKeys (k : IK) : Bool := IK.casesOn k false true false false
/-- expressions that leave the heap as it is -/
noncomputable def stillE (e : E) : Bool := E.rec (motive_1 := fun _ => Bool) (motive_2 := fun _ => Bool) (fun _ => false) (fun _ => true) (fun _ => false) (fun op _ _ a b => Op.casesOn op false (a && b) false false false false) (fun _ _ _ _ _ => false)
  (fun _ _ _ _ => false) (fun _ _ _ _ => false) (fun _ _ => false) (fun _ _ _ _ _ _ => false) (fun _ _ => false) (fun _ _ => false) false (fun _ _ _ => false) (fun _ _ _ => false) (fun _ _ _ => false) (fun _ _ _ _ _ => false)
  (fun _ _ _ _ _ => false) (fun _ _ _ => false) (fun _ _ a b => a && b) (fun _ _ _ _ => false) (fun _ _ _ _ => false) (fun _ _ => false) (fun _ _ _ _ _ _ _ _ _ => false) false (fun _ _ _ _ => false) e
noncomputable def stillT (e : E) : Bool := E.rec (motive_1 := fun _ => Bool) (motive_2 := fun _ => Bool) (fun _ => false) (fun _ => false) (fun _ => false) (fun _ _ _ _ _ => false) (fun _ _ _ _ _ => false)
  (fun _ _ _ _ => false) (fun _ _ _ _ => false) (fun _ _ => false) (fun _ _ _ _ _ _ => false) (fun _ _ => false) (fun es _ => es.length == 2 && es.all stillE) false (fun _ _ _ => false) (fun _ _ _ => false) (fun _ _ _ => false) (fun _ _ _ _ _ => false)
  (fun _ _ _ _ _ => false) (fun _ _ _ => false) (fun _ _ _ _ => false) (fun _ _ _ _ => false) (fun _ _ _ _ => false) (fun _ _ => false) (fun _ _ _ _ _ _ _ _ _ => false) false (fun _ _ _ _ => false) e
mutual
noncomputable def R (c : CkI) : E → Tb → List Str → RB
  | .lit v => fun _ _ => .one (litK v) (litR c v) fun _ => litW c v
  | .loc i => fun tb nl => .one 0 (fun x => .Name (nth nl i) x.pos) fun _ => (nl[i]?).isSome && isLoc tb (nth nl i)
  | .glob g => fun tb _ => .one 0 (fun x => .Name (c.nm g) x.pos) fun _ => isGlob tb (c.nm g)
  | .bin op a b => fun tb nl => .one 0 (fun x => .BinOp ((R c a tb nl).f (kid x 0)) (opOf op) ((R c b tb nl).f (kid x 1)) x.pos) fun x => (R c a tb nl).w (kid x 0) && (R c b tb nl).w (kid x 1)
  | .cmp op a b => fun tb nl => .one 0 (fun x => .Compare ((R c a tb nl).f (kid x 0)) [cmOf op] [(R c b tb nl).f (kid x 1)] x.pos) fun x => (R c a tb nl).w (kid x 0) && (R c b tb nl).w (kid x 1)
  | .and a b => fun tb nl =>
    let f : Expr → Expr := fun x => .BoolOp .And ((R c a tb nl).f (kid x 0) :: (R c b tb nl).g (tail x)) x.pos
    let w : Expr → Bool := fun x => (R c a tb nl).w (kid x 0) && (R c b tb nl).v (tail x)
    ⟨f, w, fun xs => bif Nat.ble 2 xs.length then (R c a tb nl).f (hd xs) :: (R c b tb nl).g xs.tail else [f (hd xs)], fun xs => bif Nat.ble 2 xs.length then (R c a tb nl).w (hd xs) && (R c b tb nl).v xs.tail else w (hd xs), 0⟩
  | .or a b => fun tb nl => .one 0 (fun x => .BoolOp .Or [(R c a tb nl).f (kid x 0), (R c b tb nl).f (kid x 1)] x.pos) fun x => (R c a tb nl).w (kid x 0) && (R c b tb nl).w (kid x 1)
  | .not a => fun tb nl => .one 0 (fun x => .UnaryOp .Not ((R c a tb nl).f (kid x 0)) x.pos) fun x => (R c a tb nl).w (kid x 0)
  | .ite t a b => fun tb nl => .one 0 (fun x => .IfExp ((R c t tb nl).f (kid x 0)) ((R c a tb nl).f (kid x 1)) ((R c b tb nl).f (kid x 2)) x.pos) fun x => (R c t tb nl).w (kid x 0) && ((R c a tb nl).w (kid x 1) && (R c b tb nl).w (kid x 2))
  | .list es => fun tb nl => .one 0 (fun x => .List ((Rs c es tb nl).f (vw x).ks) x.pos) fun x => decide (es.length ≤ 1000) && (Rs c es tb nl).w (vw x).ks
  | .tup es => fun tb nl => .one 4 (fun x => .Tuple ((Rs c es tb nl).f (vw x).ks) (vw x).n x.pos) fun x => decide (es.length ≤ 1000) && (Rs c es tb nl).w (vw x).ks
  | .dictI => fun _ _ => .one 0 (fun x => .Dict [] [] x.pos) fun _ => true
  | .dictS ks es => fun tb nl => .one 0 (fun x => .Dict (keyR c ks (vw x).os) ((Rs c es tb nl).f (vw x).ks) x.pos) fun x => (ks.all fun k => decide (k < c.nN)) && (decide (ks.length ≤ 15) && (decide (es.length = ks.length) && (Rs c es tb nl).w (vw x).ks))
  | .call f es => fun tb nl => .one 2 (fun x => .Call (.Name (c.nm f) (kid x 0).pos) ((Rs c es tb nl).f (tail x)) [] x.pos) fun x => isGlob tb (c.nm f) && (c.calls.contains f && (Rs c es tb nl).w (tail x))
  | .prim p es => fun tb nl => Pr.casesOn p
      (.one 2 (fun x => .Call (.Name (prName p) (kid x 0).pos) ((Rs c es tb nl).f (tail x)) [] x.pos) fun x => isGlob tb (prName p) && (Rs c es tb nl).w (tail x))
      (.one 2 (fun x => .Call (.Name (prName p) (kid x 0).pos) ((Rs c es tb nl).f (tail x)) [] x.pos) fun x => isGlob tb (prName p) && (Rs c es tb nl).w (tail x))
      (.one 2 (fun x => .Call (.Name (prName p) (kid x 0).pos) ((Rs c es tb nl).f (tail x)) [] x.pos) fun x => isGlob tb (prName p) && (Rs c es tb nl).w (tail x))
      (.one 2 (fun x => .Call (.Name "list" (kid x 0).pos) [.Call (.Attribute (hd ((Rs c es tb nl).f [kid (kid (kid x 1) 0) 0])) "items" (endAt (kid (kid x 1) 0).pos (kid x 1).pos)) [] [] (kid x 1).pos] [] x.pos)
        fun x => isGlob tb "list" && (es.length == 1 && ((Rs c es tb nl).k != 2 && (Rs c es tb nl).w [kid (kid (kid x 1) 0) 0])))
      (.one 2 (fun x => .Call (.Name (prName p) (kid x 0).pos) ((Rs c es tb nl).f (tail x)) [] x.pos) fun x => isGlob tb (prName p) && (Rs c es tb nl).w (tail x))
      (.one 2 (fun x => .Call (.Name (prName p) (kid x 0).pos) ((Rs c es tb nl).f (tail x)) [] x.pos) fun x => isGlob tb (prName p) && (Rs c es tb nl).w (tail x))
      (.one 2 (fun x => .Call (.Name "isinstance" (kid x 0).pos) [hd ((Rs c es tb nl).f [kid x 1]), .Name "bool" (kid x 2).pos] [] x.pos) fun x => isGlob tb "isinstance" && (isGlob tb "bool" && (es.length == 1 && (Rs c es tb nl).w [kid x 1])))
  | .bm m o es => fun tb nl => .one 0 (fun x => .Call (.Attribute ((R c o tb nl).f (kid (kid x 0) 0)) (bmName m) (endAt (kid x 0).pos x.pos)) ((Rs c es tb nl).f (tail x)) [] x.pos)
      fun x => (R c o tb nl).k != 2 && (decide (es.length < 20) && ((R c o tb nl).w (kid (kid x 0) 0) && (Rs c es tb nl).w (tail x)))
  | .um m o es => fun tb nl => .one 0 (fun x => .Call (.Attribute ((R c o tb nl).f (kid (kid x 0) 0)) (c.nm m) (endAt (kid x 0).pos x.pos)) ((Rs c es tb nl).f (tail x)) [] x.pos)
      fun x => (R c o tb nl).k != 2 && (decide (es.length < 20) && ((R c o tb nl).w (kid (kid x 0) 0) && (Rs c es tb nl).w (tail x)))
  | .attr o a => fun tb nl => .one 0 (fun x => .Attribute ((R c o tb nl).f (kid x 0)) (c.nm a) x.pos) fun x => (R c o tb nl).k != 2 && (c.as.contains a && (R c o tb nl).w (kid x 0))
  | .idx o i => fun tb nl => .one 0 (fun x => .Subscript ((R c o tb nl).f (kid x 0)) ((R c i tb nl).f (kid x 1)) x.pos) fun x => (R c o tb nl).w (kid x 0) && (R c i tb nl).w (kid x 1)
  | .from o i => fun tb nl => .one 0 (fun x => .Subscript ((R c o tb nl).f (kid x 0)) (.Slice (some ((R c i tb nl).f (kid (kid x 1) 0))) none none (kid x 1).pos) x.pos) fun x => (R c o tb nl).w (kid x 0) && (R c i tb nl).w (kid (kid x 1) 0)
  | .upto o i => fun tb nl => .one 0 (fun x => .Subscript ((R c o tb nl).f (kid x 0)) (.Slice none (some ((R c i tb nl).f (kid (kid x 1) 0))) none (kid x 1).pos) x.pos) fun x => (R c o tb nl).w (kid x 0) && (R c i tb nl).w (kid (kid x 1) 0)
  | .rev o => fun tb nl => .one 0 (fun x => .Subscript ((R c o tb nl).f (kid x 0)) (.Slice none none (some (.UnaryOp .USub (.Constant (.int 1) (vw (kid (kid (kid x 1) 0) 0)).n (kid (kid (kid x 1) 0) 0).pos) (kid (kid x 1) 0).pos)) (kid x 1).pos) x.pos) fun x => (R c o tb nl).w (kid x 0)
  | .comp cap k src tn cond elt => fun tb nl => .one 1
      (fun x => .ListComp ((R c elt (compTb tb (vw x).sc.names) (cap.map (nth nl) ++ tgIds (gen x).target)).f (kid x 0)) [⟨tgR (tgIds (gen x).target) (gen x).target, itR k (Rs c src tb nl) (gen x).iter, (Rs c cond (compTb tb (vw x).sc.names) (cap.map (nth nl) ++ tgIds (gen x).target)).f (gen x).ifs, 0⟩] (vw x).sc x.pos)
      fun x => compW k nl (cap.map (nth nl)) (tgIds (gen x).target) tn (vw x).sc tb cap && (itW k src.length (Rs c src tb nl) (gen x).iter tb (tgIds (gen x).target) && (decide (tn ≤ 2) && (decide (cond.length ≤ 1) && ((!isKeys k || (cond.isEmpty && stillT elt)) &&
        ((Rs c cond (compTb tb (vw x).sc.names) (cap.map (nth nl) ++ tgIds (gen x).target)).w (gen x).ifs && (R c elt (compTb tb (vw x).sc.names) (cap.map (nth nl) ++ tgIds (gen x).target)).w (kid x 0))))))
noncomputable def Rs (c : CkI) : List E → Tb → List Str → RBs
  | [] => fun _ _ => ⟨fun _ => [], fun _ => true, 0⟩
  | e :: es => fun tb nl => ⟨fun xs => (R c e tb nl).f (hd xs) :: (Rs c es tb nl).f xs.tail, fun xs => (R c e tb nl).w (hd xs) && (Rs c es tb nl).w xs.tail, (R c e tb nl).k⟩
end
end Mine
end
-- U9
section
set_option tactic.hygienic false
namespace Mine
open PySem PySem.W PyProof.Rows PySem.Calls PySem.SeqAt
noncomputable def cv (Z : Wd) (f : Nat) : Addr := Option.casesOn (Z.P.fn f) (Z.ca f) fun _ => Z.fa f
noncomputable def bltT : List (Str × Value) := [("len", .builtin "len"), ("int", .type "int"), ("list", .type "list"), ("dict", .type "dict"), ("max", .builtin "max"), ("isinstance", .builtin "isinstance"), ("bool", .type "bool"), ("enumerate", .type "enumerate"), ("range", .type "range")]
structure WFG (Z : Wd) : Prop where
  nsg : Z.h₀.Ns mainGlobals Z.mg
  nsb : Z.h₀.Ns builtinsNs Z.mb
  glob : ∀ x, Z.P.gval x ≠ .unb → ∃ v', Z.mg (Z.nm x) = some v' ∧ VR Z [] (Z.P.gval x) v'
  blt : ∀ p ∈ bltT, Z.mg p.1 = none ∧ Z.mb p.1 = some p.2
  call : ∀ f ∈ Z.calls, Z.mg (Z.nm f) = some (.ref (cv Z f)) ∧ keepIn Z.K (.ref (cv Z f)) = true
  methG : ∀ c m f, Z.P.meth c m = some f → keepIn Z.K (.ref (Z.fa f)) = true ∧ cv Z f = Z.fa f
structure WF (Z : Wd) : Prop extends WF0 Z, WFK Z, WFG Z
structure EO (env : Env) (tb : Tb) : Prop where
  tb : env.scope.names = tb
  kind : env.scope.kind = .function
  gl : env.globals = mainGlobals
  bl : env.builtins = builtinsNs
noncomputable def ckI (Z : Wd) : CkI := ⟨Z.nm, Z.nN, Z.as, Z.calls⟩
/-- where a tree of a block's text stands -/
structure Sx (Z : Wd) (tb : Tb) (nl : List Str) (d : Nat) (env : Env) (A : Around) (ls : List AV) (H : Hp) (s : Shared) (ρ : List Addr) : Prop where
  eo : EO env tb
  hA : AOk d A
  R : HR Z ρ H s.heap
  L : LR Z env nl ls ρ s.heap
section
variable {Z : Wd} {tb : Tb} {nl : List Str} {F : Fun} {d : Nat}
theorem Sx.go {env : Env} {A : Around} {ls : List AV} {H H1 : Hp} {s : Shared} {ρ ρ1 : List Addr} {h1 : Heap} {tk1 : Nat} (X : Sx Z tb nl d env A ls H s ρ) (R1 : HR Z ρ1 H1 h1) (G1 : Grow [] ρ ρ1 s.heap h1) : Sx Z tb nl d env A ls H1 { s with heap := h1, toks := tk1 } ρ1 :=
  ⟨X.eo, X.hA, R1, X.L.grow G1⟩
variable (Z) in
structure FnS (F : Fun) (d : Nat) : Prop where
  call : ∀ f args H Q A s ρ vs', F f args H Q → AOk d A → HR Z ρ H s.heap → VRs Z ρ args vs' → Wp Z A (call (.ref (cv Z f)) vs') (PQ Z ρ s Q) s
  gv : ∀ f vs H, GV (F f vs H)
variable (Z tb nl F d) in
def Ev (e : E) (x : Expr) : Prop := ∀ env ls H Q A s ρ, Sx Z tb nl d env A ls H s ρ → ev Z.P F e ls H Q → Wp Z A (eval x env) (PQ Z ρ s Q) s
variable (Z tb nl F d) in
def Tr (e : E) (x : Expr) : Prop := ∀ env ls H Q A s ρ, Sx Z tb nl d env A ls H s ρ → ev Z.P F e ls H Q → (∀ v H', Q v H' → ∃ b, v = .bool b) → Wp Z A (isTrue x env (eval x env)) (PT Z ρ s Q) s
variable (Z tb nl F d) in
def Evs (es : List E) (xs : List Expr) : Prop := ∀ env ls H Q A s ρ, Sx Z tb nl d env A ls H s ρ → evs Z.P F es ls H Q → Wp Z A (spliced (xs.map fun x => (false, eval x env))) (PQs Z ρ s Q) s
theorem AOk.in1 {A : Around} (h : AOk d A) : A.units + 1 < cLine := by exact Nat.lt_of_le_of_lt (Nat.le_trans (Nat.add_le_add_left (by decide : 1 ≤ 100) _) (Nat.add_le_add_right (Nat.le_add_right _ _) _)) h.un
theorem PV.from {X ρ ρ1 : List Addr} {s : Shared} {h1 : Heap} {tk1 : Nat} {v : AV} {H' : Hp} {v' : Value} {s' : Shared} (G : Grow X ρ ρ1 s.heap h1) (p : PV Z X ρ1 { s with heap := h1, toks := tk1 } v H' v' s') : PV Z X ρ s v H' v' s' := by
  obtain ⟨h', tk, ρ', R, G', r⟩ := p
  exact ⟨h', tk, ρ', R, G.trans G', r⟩
/-- a leaf's end -/
theorem PV.fin {ρ ρ1 : List Addr} {s : Shared} {h1 : Heap} {tk1 : Nat} {v : AV} {H' : Hp} {v' : Value} {s' : Shared} {Q : QV} (q : Q v H') (G : Grow [] ρ ρ1 s.heap h1) (p : PV Z [] ρ1 { s with heap := h1, toks := tk1 } v H' v' s') : PQ Z ρ s Q v' s' := by
  obtain ⟨h', tk, ρ', R, G', r⟩ := p
  exact ⟨v, H', h', tk, ρ', q, R, G.trans G', r⟩
theorem PV.fin0 {ρ : List Addr} {s : Shared} {v : AV} {H' : Hp} {v' : Value} {s' : Shared} {Q : QV} (q : Q v H') (p : PV Z [] ρ s v H' v' s') : PQ Z ρ s Q v' s' := by
  obtain ⟨h', tk, ρ', R, G', r⟩ := p
  exact ⟨v, H', h', tk, ρ', q, R, G', r⟩
theorem PQ.from {ρ ρ1 : List Addr} {s : Shared} {h1 : Heap} {tk1 : Nat} {Q : QV} {v' : Value} {s' : Shared} (G : Grow [] ρ ρ1 s.heap h1) (p : PQ Z ρ1 { s with heap := h1, toks := tk1 } Q v' s') : PQ Z ρ s Q v' s' := by
  obtain ⟨v, H', h', tk, ρ', q, R, G', r⟩ := p
  exact ⟨v, H', h', tk, ρ', q, R, G.trans G', r⟩
theorem PQs.from {ρ ρ1 : List Addr} {s : Shared} {h1 : Heap} {tk1 : Nat} {Q : QL} {v' : List Value} {s' : Shared} (G : Grow [] ρ ρ1 s.heap h1) (p : PQs Z ρ1 { s with heap := h1, toks := tk1 } Q v' s') : PQs Z ρ s Q v' s' := by
  obtain ⟨v, H', h', tk, ρ', q, R, G', r⟩ := p
  exact ⟨v, H', h', tk, ρ', q, R, G.trans G', r⟩
theorem PT.from {ρ ρ1 : List Addr} {s : Shared} {h1 : Heap} {tk1 : Nat} {Q : QV} {b : Bool} {s' : Shared} (G : Grow [] ρ ρ1 s.heap h1) (p : PT Z ρ1 { s with heap := h1, toks := tk1 } Q b s') : PT Z ρ s Q b s' := by
  obtain ⟨H', h', tk, ρ', q, R, G'⟩ := p
  exact ⟨H', h', tk, ρ', q, R, G.trans G'⟩
theorem PU.from {X ρ ρ1 : List Addr} {s : Shared} {h1 : Heap} {tk1 : Nat} {H' : Hp} {s' : Shared} (G : Grow X ρ ρ1 s.heap h1) (p : PU Z X ρ1 { s with heap := h1, toks := tk1 } H' s') : PU Z X ρ s H' s' := by
  obtain ⟨h', tk, ρ', R, G'⟩ := p
  exact ⟨h', tk, ρ', R, G.trans G'⟩
/-- tests that go by the value -/
theorem Tr.ofEv {e : E} {x : Expr} (h : Ev Z tb nl F d e x) (he : ∀ env whole, isTrue x env whole = (do let v ← whole; standAt x.pos; holding [v] (truthy v))) : Tr Z tb nl F d e x := by
  intro env ls H Q A s ρ X hv hQ
  refine wpAny_isTrue_value ((h env ls H Q A s ρ X hv).mono ?_) (he env _)
  rintro v' _ ⟨v, H', h', tk, ρ', q, R', G, r⟩
  obtain ⟨b, rfl⟩ := hQ v H' q
  cases r
  exact wpAny_truthy_bool ⟨H', h', tk, ρ', q, R', G⟩
theorem kind_of {env : Env} (eo : EO env tb) {x : Str} : env.kindOf x = tb.lookup x := by show env.scope.names.lookup x = _; rw [eo.tb]
theorem isLoc_inv {x : Str} (h : isLoc tb x = true) : (tb.lookup x = some .local ∨ tb.lookup x = some .cell) ∧ (x == ("__debug__" : Str)) = false := by
  simpa only [isLoc, Bool.and_eq_true, Bool.or_eq_true, beq_iff_eq, Bool.not_eq_true'] using h
/-- a local name's value -/
theorem load_loc {env : Env} {A : Around} {ls : List AV} {H : Hp} {s : Shared} {ρ : List Addr} {i : Nat} {x : Str} {p : Pos} {v : AV} {Q : Value → Shared → Prop} (X : Sx Z tb nl d env A ls H s ρ) (hn : nl[i]? = some x) (hl : isLoc tb x = true) (h1 : ls[i]? = some v) (h2 : v ≠ .unb)
    (hQ : ∀ v', VR Z ρ v v' → Q v' s) : Wp Z A (eval (.Name x p) env) Q s := by
  obtain ⟨hk, hd⟩ := isLoc_inv hl
  refine wpAny_Name ?_ hd
  rcases hk with hk | hk
  · obtain ⟨m, hm, hq⟩ := X.L.ns
    obtain ⟨v', e, r⟩ := hq i x v hn h1 h2 ((kind_of X.eo).trans hk)
    exact wpAny_loadName_local X.eo.kind ((kind_of X.eo).trans hk) hm e (hQ v' r)
  · obtain ⟨c, v0, hc, hcell, hq⟩ := X.L.cells i x v hn h1 ((kind_of X.eo).trans hk)
    obtain ⟨v', rfl, r⟩ := hq h2
    exact wpAny_loadName_cell X.eo.kind ((kind_of X.eo).trans hk) hc hcell (hQ v' r)
theorem ev_loc {i : Nat} {x : Str} {p : Pos} (hn : nl[i]? = some x) (hl : isLoc tb x = true) : Ev Z tb nl F d (.loc i) (.Name x p) := by
  intro env ls H Q A s ρ X hv
  have hv := locQ_inv hv
  cases e : ls[i]? with
  | none => rw [e] at hv; cases hv
  | some v =>
    rw [e] at hv
    cases hv with | mk _ n q =>
    exact load_loc X hn hl e n fun v' r => PV.fin0 q (PV.here (tk := s.toks) X.R r)
theorem load_glob {env : Env} {x : Str} {p : Pos} {v : Value} {A : Around} {s : Shared} {ρ : List Addr} {H : Hp} {Q : Value → Shared → Prop} (W : WFG Z) (eo : EO env tb) (hg : isGlob tb x = true) (R : HR Z ρ H s.heap) (hv : Z.mg x = some v) (h : Q v s) : Wp Z A (eval (.Name x p) env) Q s := by
  simp only [isGlob, Bool.and_eq_true, beq_iff_eq, Bool.not_eq_true'] at hg
  exact Name_function_global eo.kind ((kind_of eo).trans hg.1) (loadGlobal_global (by rw [eo.gl]; exact W.nsg.keeps R.base) hv h) hg.2
theorem load_blt {env : Env} {x : Str} {p : Pos} {v : Value} {A : Around} {s : Shared} {ρ : List Addr} {H : Hp} {Q : Value → Shared → Prop} (W : WFG Z) (eo : EO env tb) (hg : isGlob tb x = true) (R : HR Z ρ H s.heap) (hv : (x, v) ∈ bltT) (h : Q v s) : Wp Z A (eval (.Name x p) env) Q s := by
  simp only [isGlob, Bool.and_eq_true, beq_iff_eq, Bool.not_eq_true'] at hg
  obtain ⟨h1, h2⟩ := W.blt _ hv
  exact Name_function_global eo.kind ((kind_of eo).trans hg.1) (loadGlobal_builtin (by rw [eo.gl]; exact W.nsg.keeps R.base) h1 (by rw [eo.bl]; exact W.nsb.keeps R.base) h2 h) hg.2
theorem ev_glob (W : WFG Z) {g : Nat} {p : Pos} (hl : isGlob tb (Z.nm g) = true) : Ev Z tb nl F d (.glob g) (.Name (Z.nm g) p) := by
  intro env ls H Q A s ρ X hv
  obtain ⟨n, q⟩ := globQ_inv (v := Z.P.gval g) (k := fun v => Q v H) hv
  obtain ⟨v', hv', r⟩ := W.glob g n
  exact load_glob W X.eo hl X.R hv' (PV.fin0 q (PV.here (tk := s.toks) X.R (r.mono (List.nil_prefix))))
theorem ev_bin (W : WF Z) {op : Op} {a b : E} {l r : Expr} {p : Pos} (h1 : Ev Z tb nl F d a l) (h2 : Ev Z tb nl F d b r) : Ev Z tb nl F d (.bin op a b) (.BinOp l (opOf op) r p) := by
  intro env ls H Q A s ρ X hv
  refine wpAny_BinOp ((h1 env ls H _ A s ρ X hv).mono ?_)
  rintro u' _ ⟨u, H1, hh1, tk1, ρ1, hv, R1, G1, r1⟩
  refine (h2 env ls H1 _ A _ ρ1 (X.go R1 G1) hv).mono ?_
  rintro w' _ ⟨w, H2, hh2, tk2, ρ2, ⟨v, H3, e, q⟩, R2, G2, r2⟩
  exact (bin_sound W.toWF0 R2 (r1.mono G2.pre) r2 e).mono fun _ _ p => PV.fin q (G1.trans G2) p
theorem ev_cmp (W : WF Z) {op : Cm} {a b : E} {l r : Expr} {p : Pos} (hm : behindInMarks (cmOf op) r = false) (h1 : Ev Z tb nl F d a l) (h2 : Ev Z tb nl F d b r) : Ev Z tb nl F d (.cmp op a b) (.Compare l [cmOf op] [r] p) := by
  intro env ls H Q A s ρ X hv
  refine wpAny_Compare1 ((h1 env ls H _ A s ρ X hv).mono ?_) hm
  rintro u' _ ⟨u, H1, hh1, tk1, ρ1, hv, R1, G1, r1⟩
  refine (h2 env ls H1 _ A _ ρ1 (X.go R1 G1) hv).mono ?_
  rintro w' _ ⟨w, H2, hh2, tk2, ρ2, ⟨v, e, q⟩, R2, G2, r2⟩
  exact (cmp_sound W.toWF0 X.hA.in1 R2 (r1.mono G2.pre) r2 e).mono fun _ _ p => PV.fin q (G1.trans G2) p
theorem tr_cmp (W : WF Z) {op : Cm} {a b : E} {l r : Expr} {p : Pos} (hm : behindInMarks (cmOf op) r = false) (h1 : Ev Z tb nl F d a l) (h2 : Ev Z tb nl F d b r) : Tr Z tb nl F d (.cmp op a b) (.Compare l [cmOf op] [r] p) := by
  intro env ls H Q A s ρ X hv _
  refine wpAny_isTrue_Compare1 ((h1 env ls H _ A s ρ X hv).mono ?_) hm
  rintro u' _ ⟨u, H1, hh1, tk1, ρ1, hv, R1, G1, r1⟩
  refine (h2 env ls H1 _ A _ ρ1 (X.go R1 G1) hv).mono ?_
  rintro w' _ ⟨w, H2, hh2, tk2, ρ2, ⟨v, e, q⟩, R2, G2, r2⟩
  refine (cmp_sound W.toWF0 X.hA.in1 R2 (r1.mono G2.pre) r2 e).mono fun c s3 p => ?_
  obtain ⟨h3, tk3, ρ3, R3, G3, r3⟩ := PV.from (G1.trans G2) p
  cases r3
  exact wpAny_truthy_bool ⟨H2, h3, tk3, ρ3, q, R3, G3⟩
theorem ev_not {a : E} {x : Expr} {p : Pos} (h1 : Ev Z tb nl F d a x) : Ev Z tb nl F d (.not a) (.UnaryOp .Not x p) := by
  intro env ls H Q A s ρ X hv
  refine wpAny_UnaryOp ((h1 env ls H _ A s ρ X hv).mono ?_)
  rintro u' _ ⟨u, H1, hh1, tk1, ρ1, hv, R1, G1, r1⟩
  obtain ⟨b, q⟩ := asB_inv hv
  cases r1
  exact not_value (wpAny_truthy_bool ⟨_, _, hh1, tk1, ρ1, q, R1, G1, rfl⟩)
theorem asB_is {k : Bool → Prop} {v : AV} (h : asB v k) : ∃ b, v = .bool b := by
  obtain ⟨b, _⟩ := asB_inv h
  exact ⟨b, rfl⟩
theorem tr_not {a : E} {x : Expr} {p : Pos} (h1 : Tr Z tb nl F d a x) : Tr Z tb nl F d (.not a) (.UnaryOp .Not x p) := by
  intro env ls H Q A s ρ X hv _
  refine wpAny_isTrue_Not ((h1 env ls H _ A s ρ X hv fun _ _ h => asB_is h).mono ?_)
  rintro c _ ⟨H1, hh1, tk1, ρ1, q, R1, G1⟩
  exact ⟨H1, hh1, tk1, ρ1, q, R1, G1⟩
theorem ev_ite {t a b : E} {x y z : Expr} {p : Pos} (h0 : Tr Z tb nl F d t x) (h1 : Ev Z tb nl F d a y) (h2 : Ev Z tb nl F d b z) : Ev Z tb nl F d (.ite t a b) (.IfExp x y z p) := by
  intro env ls H Q A s ρ X hv
  refine wpAny_IfExp ((h0 env ls H _ A s ρ X hv fun _ _ h => asB_is h).mono ?_)
  rintro c _ ⟨H1, hh1, tk1, ρ1, q, R1, G1⟩
  cases c with
  | true => exact (h1 env ls H1 Q A _ ρ1 (X.go R1 G1) (q.t rfl)).mono fun _ _ q => PQ.from G1 q
  | false => exact (h2 env ls H1 Q A _ ρ1 (X.go R1 G1) (q.f rfl)).mono fun _ _ q => PQ.from G1 q
theorem tr_ite {t a b : E} {x y z : Expr} {p : Pos} (h0 : Tr Z tb nl F d t x) (h1 : Tr Z tb nl F d a y) (h2 : Tr Z tb nl F d b z) : Tr Z tb nl F d (.ite t a b) (.IfExp x y z p) := by
  intro env ls H Q A s ρ X hv hQ
  rw [arm_isTrue_IfExp]
  refine wpAny_bind ((h0 env ls H _ A s ρ X hv fun _ _ h => asB_is h).mono ?_)
  rintro c _ ⟨H1, hh1, tk1, ρ1, q, R1, G1⟩
  cases c with
  | true => exact (h1 env ls H1 Q A _ ρ1 (X.go R1 G1) (q.t rfl) hQ).mono fun _ _ q => PT.from G1 q
  | false => exact (h2 env ls H1 Q A _ ρ1 (X.go R1 G1) (q.f rfl) hQ).mono fun _ _ q => PT.from G1 q
/-- a boolop's value: its first tree, then the rest as a tree of its own -/
theorem boolOp_and {M : Model} {A : Around} {s : Shared} {p : Pos} {x y : Sem Value} {r : List (Sem Value)} {Q : Value → Shared → Prop} {E : Value → Shared → Prop}
    (h : wpAny M A x (fun v s₁ => wpAny M A (truthy v) (fun t s₂ => if t then wpAny M A (boolOp p .And (y :: r)) Q E s₂ else Q v s₂) E s₁) E s) : wpAny M A (boolOp p .And (x :: y :: r)) Q E s := by
  show wpAny M A (do
    let v ← x
    standAt p
    let t ← holding [v] (truthy v)
    match BoolOp.And, t with
    | .And, false | .Or, true => pure v
    | _, _ => boolOp p .And (y :: r)) Q E s
  refine wpAny_bind (wpAny_mono h (fun v s₁ h₁ => wpAny_bind (wpAny_standAt (wpAny_bind (wpAny_holding (wpAny_mono h₁ (fun t s₂ h₂ => ?_) fun _ _ x => x))))) fun _ _ x => x)
  cases t with
  | false => exact wpAny_pure h₂
  | true => exact h₂
theorem boolOp_or {M : Model} {A : Around} {s : Shared} {p : Pos} {x y : Sem Value} {r : List (Sem Value)} {Q : Value → Shared → Prop} {E : Value → Shared → Prop}
    (h : wpAny M A x (fun v s₁ => wpAny M A (truthy v) (fun t s₂ => if t then Q v s₂ else wpAny M A (boolOp p .Or (y :: r)) Q E s₂) E s₁) E s) : wpAny M A (boolOp p .Or (x :: y :: r)) Q E s := by
  show wpAny M A (do
    let v ← x
    standAt p
    let t ← holding [v] (truthy v)
    match BoolOp.Or, t with
    | .And, false | .Or, true => pure v
    | _, _ => boolOp p .Or (y :: r)) Q E s
  refine wpAny_bind (wpAny_mono h (fun v s₁ h₁ => wpAny_bind (wpAny_standAt (wpAny_bind (wpAny_holding (wpAny_mono h₁ (fun t s₂ h₂ => ?_) fun _ _ x => x))))) fun _ _ x => x)
  cases t with
  | false => exact h₂
  | true => exact wpAny_pure h₂
/-- trees that stand for an expression's value -/
def EvT (Z : Wd) (tb : Tb) (nl : List Str) (F : Fun) (d : Nat) (e : E) (t : Env → Sem Value) : Prop := ∀ env ls H Q A s ρ, Sx Z tb nl d env A ls H s ρ → ev Z.P F e ls H Q → Wp Z A (t env) (PQ Z ρ s Q) s
theorem evT_and {a b : E} {x : Expr} {r : List Expr} {p : Pos} (h1 : Ev Z tb nl F d a x) (hr : ∃ y r', r = y :: r') (h2 : EvT Z tb nl F d b fun env => boolOp p .And (evalEach r env)) : EvT Z tb nl F d (.and a b) fun env => boolOp p .And (evalEach (x :: r) env) := by
  intro env ls H Q A s ρ X hv
  obtain ⟨y, r, rfl⟩ := hr
  refine boolOp_and ((h1 env ls H _ A s ρ X hv.go).mono ?_)
  rintro c _ ⟨u, H1, hh1, tk1, ρ1, hv, R1, G1, r1⟩
  obtain ⟨b, q⟩ := asB_inv hv
  cases r1
  refine wpAny_truthy_bool ?_
  cases b with
  | true => exact (h2 env ls H1 Q A _ ρ1 (X.go R1 G1) (q.t rfl)).mono fun _ _ q => PQ.from G1 q
  | false => exact ⟨_, H1, hh1, tk1, ρ1, q.f rfl, R1, G1, rfl⟩
theorem evT_or {a b : E} {x y : Expr} {p : Pos} (h1 : Ev Z tb nl F d a x) (h2 : Ev Z tb nl F d b y) : EvT Z tb nl F d (.or a b) fun env => boolOp p .Or (evalEach [x, y] env) := by
  intro env ls H Q A s ρ X hv
  refine boolOp_or ((h1 env ls H _ A s ρ X hv.go).mono ?_)
  rintro c _ ⟨u, H1, hh1, tk1, ρ1, hv, R1, G1, r1⟩
  obtain ⟨b, q⟩ := asB_inv hv
  cases r1
  refine wpAny_truthy_bool ?_
  cases b with
  | false => exact (h2 env ls H1 Q A _ ρ1 (X.go R1 G1) (q.f rfl)).mono fun _ _ q => PQ.from G1 q
  | true => exact ⟨_, H1, hh1, tk1, ρ1, q.t rfl, R1, G1, rfl⟩
def TrT (Z : Wd) (tb : Tb) (nl : List Str) (F : Fun) (d : Nat) (e : E) (t : Env → Sem Bool) : Prop := ∀ env ls H Q A s ρ, Sx Z tb nl d env A ls H s ρ → ev Z.P F e ls H Q → (∀ v H', Q v H' → ∃ b, v = .bool b) → Wp Z A (t env) (PT Z ρ s Q) s
theorem trT_last {op : BoolOp} {a : E} {x : Expr} (h1 : Tr Z tb nl F d a x) : TrT Z tb nl F d a fun env => allTrue op [x] env := by
  intro env ls H Q A s ρ X hv hQ
  have q := h1 env ls H Q A s ρ X hv hQ
  cases op with
  | And =>
    refine wpAny_allTrue_And_cons (wpAny_mono q (fun c s1 h => ?_) fun _ _ e => e)
    cases c
    · exact h
    · exact wpAny_allTrue_And_nil h
  | Or =>
    refine wpAny_allTrue_Or_cons (wpAny_mono q (fun c s1 h => ?_) fun _ _ e => e)
    cases c
    · exact wpAny_allTrue_Or_nil h
    · exact h
theorem trT_and {a b : E} {x : Expr} {r : List Expr} (h1 : Tr Z tb nl F d a x) (h2 : TrT Z tb nl F d b fun env => allTrue .And r env) : TrT Z tb nl F d (.and a b) fun env => allTrue .And (x :: r) env := by
  intro env ls H Q A s ρ X hv hQ
  refine wpAny_allTrue_And_cons ((h1 env ls H _ A s ρ X hv.go fun _ _ h => asB_is h).mono ?_)
  rintro c _ ⟨H1, hh1, tk1, ρ1, q, R1, G1⟩
  cases c with
  | true => exact (h2 env ls H1 Q A _ ρ1 (X.go R1 G1) (q.t rfl) hQ).mono fun _ _ q => PT.from G1 q
  | false => exact ⟨H1, hh1, tk1, ρ1, q.f rfl, R1, G1⟩
theorem trT_or {a b : E} {x : Expr} {r : List Expr} (h1 : Tr Z tb nl F d a x) (h2 : TrT Z tb nl F d b fun env => allTrue .Or r env) : TrT Z tb nl F d (.or a b) fun env => allTrue .Or (x :: r) env := by
  intro env ls H Q A s ρ X hv hQ
  refine wpAny_allTrue_Or_cons ((h1 env ls H _ A s ρ X hv.go fun _ _ h => asB_is h).mono ?_)
  rintro c _ ⟨H1, hh1, tk1, ρ1, q, R1, G1⟩
  cases c with
  | false => exact (h2 env ls H1 Q A _ ρ1 (X.go R1 G1) (q.f rfl) hQ).mono fun _ _ q => PT.from G1 q
  | true => exact ⟨H1, hh1, tk1, ρ1, q.t rfl, R1, G1⟩
theorem evs_nil : Evs Z tb nl F d [] [] := fun _ _ H _ _ s ρ X hv => spliced_nil ⟨[], H, s.heap, s.toks, ρ, hv, X.R, Grow.refl, trivial⟩
theorem evs_cons {e : E} {es : List E} {x : Expr} {xs : List Expr} (h1 : Ev Z tb nl F d e x) (h2 : Evs Z tb nl F d es xs) : Evs Z tb nl F d (e :: es) (x :: xs) := by
  intro env ls H Q A s ρ X hv
  refine spliced_cons ((h1 env ls H _ A s ρ X hv).mono ?_)
  rintro c _ ⟨u, H1, hh1, tk1, ρ1, hv, R1, G1, r1⟩
  refine (h2 env ls H1 _ A _ ρ1 (X.go R1 G1) hv).mono ?_
  rintro cs _ ⟨us, H2, hh2, tk2, ρ2, q, R2, G2, r2⟩
  exact ⟨u :: us, H2, hh2, tk2, ρ2, q, R2, G1.trans G2, r1.mono G2.pre, r2⟩
/-- the literals -/
theorem ev_litN {k : Nat} {p : Pos} : Ev Z tb nl F d (.lit .none) (.Constant .none k p) := fun _ _ _ _ _ s _ X hv => wpAny_Constant_none (PV.fin0 hv (PV.here (tk := s.toks) X.R rfl))
theorem ev_litB {b : Bool} {k : Nat} {p : Pos} : Ev Z tb nl F d (.lit (.bool b)) (.Constant (.bool b) k p) := fun _ _ _ _ _ s _ X hv => wpAny_Constant_bool (PV.fin0 hv (PV.here (tk := s.toks) X.R rfl))
theorem ev_litI {i : Int} {k : Nat} {p : Pos} : Ev Z tb nl F d (.lit (.int i)) (.Constant (.int i) k p) := fun _ _ _ _ _ _ _ X hv => wpAny_Constant_int (PV.fin0 hv (PV.here X.R ⟨_, rfl⟩))
theorem ev_litM {n k : Nat} {p p2 : Pos} : Ev Z tb nl F d (.lit (.int (Int.negSucc n))) (.UnaryOp .USub (.Constant (.int (n + 1 : Nat)) k p) p2) := fun _ _ _ _ _ _ _ X hv => wpAny_UnaryOp (wpAny_Constant_int (neg_int (PV.fin0 hv (PV.here X.R ⟨_, rfl⟩))))
theorem ev_litS {j : Nat} (hj : j < Z.nN) {k : Nat} {p : Pos} : Ev Z tb nl F d (.lit (.str j)) (.Constant (.str (Z.nm j)) k p) := fun _ _ _ _ _ _ _ X hv => wpAny_Constant_str (PV.fin0 hv (PV.here X.R ⟨hj, _, rfl⟩))
end
end Mine
end
-- U10
section
set_option tactic.hygienic false
namespace Mine
open PySem PySem.W PyProof.Rows PySem.Calls PySem.SeqAt
section
variable {Z : Wd} {tb : Tb} {nl : List Str} {F : Fun} {d : Nat}
/-- what the texts of the mini language have in common -/
structure Plain (x : Expr) : Prop where
  star : ∀ r env, starEach (x :: r) env = (false, eval x env) :: starEach r env
  marks : ∀ op, behindInMarks op x = false
  sub : ∀ o i, subscripted x false o i = operate [o, i] (getItem o i)
  fold : ∀ env v, foldedSetIterable x env v = pure v
inductive Plains : List Expr → Prop
  | nil : Plains []
  | cons {x : Expr} {xs : List Expr} (h : Plain x) (t : Plains xs) : Plains (x :: xs)
theorem args_eq {p : Pos} {env : Env} {xs : List Expr} (h : Plains xs) : backTo p (starEach xs env) = xs.map fun x => (false, eval x env) := by
  induction h with
  | nil => rfl
  | cons h _ ih => rw [h.star, List.map_cons, ← ih]; rfl
theorem evs_length {P : PI} (hF : ∀ f vs H, GV (F f vs H)) : ∀ {es : List E} {ls : List AV} {H : Hp} {Q : QL}, evs P F es ls H Q → evs P F es ls H fun vs H' => Q vs H' ∧ vs.length = es.length
  | [], _, _, _, h => ⟨h, rfl⟩
  | e :: es, ls, H, Q, h => by
    obtain ⟨v, H1, q, m⟩ := ev_gives hF e ls H _ h
    obtain ⟨vs, H2, q2, m2⟩ := evs_gives hF es ls H1 _ (evs_length hF q)
    exact m _ (m2 _ ⟨q2.1, congrArg (· + 1) q2.2⟩)
theorem ev_list (hF : FnS Z F d) {es : List E} {xs : List Expr} {p : Pos} (hz : es.length ≤ 1000) (ha : Plains xs) (h1 : Evs Z tb nl F d es xs) : Ev Z tb nl F d (.list es) (.List xs p) := by
  intro env ls H Q A s ρ X hv
  refine List_ ?_
  rw [args_eq ha]
  refine (h1 env ls H _ A s ρ X (evs_length hF.gv hv)).mono ?_
  rintro ws _ ⟨vs, H1, hh1, tk1, ρ1, ⟨q, hl⟩, R1, G1, r1⟩
  exact wpAny_newList (PV.fin q G1 (PV.made (tk := tk1) (s := { s with heap := hh1, toks := tk1 }) R1 (list_new r1))) (by rw [r1.length, hl, size24]; lia)
theorem ev_tup (hF : FnS Z F d) {es : List E} {xs : List Expr} {k : Nat} {p : Pos} (hz : es.length ≤ 1000) (ha : Plains xs) (h1 : Evs Z tb nl F d es xs) : Ev Z tb nl F d (.tup es) (.Tuple xs k p) := by
  intro env ls H Q A s ρ X hv
  refine Tuple_ ?_
  rw [args_eq ha]
  refine (h1 env ls H _ A s ρ X (evs_length hF.gv hv)).mono ?_
  rintro ws _ ⟨vs, H1, hh1, tk1, ρ1, ⟨q, hl⟩, R1, G1, r1⟩
  exact wpAny_newTuple (PV.fin q G1 (PV.made (tk := tk1) (s := { s with heap := hh1, toks := tk1 }) R1 (tup_new r1))) (by rw [r1.length, hl, size24]; lia)
theorem ev_dictI {p : Pos} : Ev Z tb nl F d .dictI (.Dict [] [] p) := fun _ _ _ _ _ s _ X hv => wpAny_Dict_empty (PV.fin0 hv (PV.made (tk := s.toks) X.R ⟨[], Heap.DictOf.new _, rfl, trivial⟩))
/-- a place laid earlier, filled now -/
theorem HR.adopt {ρ : List Addr} {H : Hp} {h h' : Heap} (R : HR Z ρ H h) {a : Addr} {o : AO} (ha : a ∉ ρ) (hb : Z.h₀.get? a = none) (hs : Heap.SameBut a h h') (r : OR Z (ρ ++ [a]) h' a o) : HR Z (ρ ++ [a]) (H ++ [o]) h' where
  len := by simp [R.len]
  nd := List.nodup_append.mpr ⟨R.nd, by simp, fun b hb' c hc => by
    simp at hc; subst hc
    exact fun q => ha (q ▸ hb')⟩
  obj := fun i o' e => by
    by_cases hi : i < H.length
    · rw [List.getElem?_append_left hi] at e
      obtain ⟨b, hb', q⟩ := R.obj i o' e
      exact ⟨b, by rw [List.getElem?_append_left (R.len ▸ hi)]; exact hb', q.mono (List.prefix_append ..) fun _ e' => (hs.2 b (fun z => ha (z ▸ List.mem_of_getElem? hb'))).trans e'⟩
    · have hl := (List.getElem?_eq_some_iff.mp e).1
      simp at hl
      have : i = H.length := by lia
      subst this
      rw [List.getElem?_append_right (Nat.le_refl _)] at e
      simp at e; subst e
      exact ⟨a, by rw [← R.len]; simp, r⟩
  base := fun b o' e => (hs.2 b (fun z => by rw [z, hb] at e; cases e)).trans (R.base b o' e)
  new := fun b m => by
    rcases List.mem_append.mp m with m | m
    · exact R.new b m
    · simp at m; subst m; exact hb
theorem Grow.adopt {X ρ ρ1 : List Addr} {h h0 h1 h2 : Heap} {a : Addr} (ha : h.get? a = none) (hk : ∀ b o, h.get? b = some o → h0.get? b = some o) (G : Grow X ρ ρ1 h0 h1) (hs : Heap.SameBut a h1 h2) (hl : ∃ o, h2.get? a = some o) : Grow X ρ (ρ1 ++ [a]) h h2 where
  pre := G.pre.trans (List.prefix_append ..)
  new := fun b m => by
    rcases List.mem_append.mp m with m | m
    · exact (G.new b m).imp id fun e => by
        cases q : h.get? b with
        | none => rfl
        | some o => rw [hk b o q] at e; cases e
    · simp at m; subst m; exact .inr ha
  keep := fun b o hn hX e => (hs.2 b (fun z => by rw [z, ha] at e; cases e)).trans (G.keep b o hn hX (hk b o e))
  live := fun b o e => by
    obtain ⟨o', e'⟩ := G.live b o (hk b o e)
    by_cases q : b = a
    · exact q ▸ hl
    · exact ⟨o', (hs.2 b q).trans e'⟩
theorem ks_stored {ρ : List Addr} (W : WF0 Z) {es : List (Nat × AV)} {kvs : List (Str × Value)} {k : Nat} {v : AV} {v' : Value} (hk : k < Z.nN) (r : KS Z ρ es kvs) (rv : VR Z ρ v v') : KS Z ρ (putS es k v) (PySem.stored kvs (Z.nm k) v') := by
  have hany : ∀ {es : List (Nat × AV)} {kvs : List (Str × Value)}, KS Z ρ es kvs → (kvs.any fun kv => decide (kv.1 = Z.nm k)) = es.any fun kv => decide (kv.1 = k) := by
    intro es
    induction es with
    | nil =>
      intro kvs r
      cases kvs with
      | nil => rfl
      | cons _ _ => simp [KS] at r
    | cons e es ih =>
      intro kvs r
      cases kvs with
      | nil => simp [KS] at r
      | cons x kvs =>
        obtain ⟨h1, h3, h2⟩ := r
        simp only [List.map_cons, List.cons.injEq] at h1
        rw [List.any_cons, List.any_cons, ih ⟨h1.2, fun e m => h3 e (by simp [m]), h2.2⟩, h1.1]
        congr 1
        by_cases q : e.1 = k
        · simp [q]
        · have : Z.nm e.1 ≠ Z.nm k := fun z => q (W.inj _ _ (h3 e (by simp)) hk z)
          simp [q, this]
  unfold putS PySem.stored
  rw [hany r]
  split
  · rename_i hc
    clear hc hany
    obtain ⟨r1, r3, r2⟩ := r
    induction es generalizing kvs with
    | nil =>
      cases kvs with
      | nil => exact ⟨rfl, (fun _ m => by cases m), trivial⟩
      | cons _ _ => simp at r1
    | cons e es ih =>
      cases kvs with
      | nil => simp at r1
      | cons x kvs =>
        simp only [List.map_cons, List.cons.injEq] at r1
        obtain ⟨h1, h2⟩ := r1
        obtain ⟨i1, i3, i2⟩ := ih h2 (fun e m => r3 e (by simp [m])) r2.2
        have he := r3 e (by simp)
        refine ⟨?_, ?_, ?_⟩
        · simp only [List.map_cons]
          rw [i1]
          congr 1
          by_cases q : e.1 = k
          · simp [h1, q]
          · have : Z.nm e.1 ≠ Z.nm k := fun z => q (W.inj _ _ he hk z)
            simp [h1, q, this]
        · intro y hy
          simp only [List.map_cons, List.mem_cons] at hy
          rcases hy with rfl | hy
          · split <;> exact he
          · exact i3 y hy
        · simp only [List.map_cons]
          refine ⟨?_, i2⟩
          by_cases q : e.1 = k
          · simp only [h1, q, if_true]
            exact rv
          · have : Z.nm e.1 ≠ Z.nm k := fun z => q (W.inj _ _ he hk z)
            simp only [h1, q, this, if_false]
            exact r2.1
  · refine ⟨by simp [r.1], ?_, ?_⟩
    · intro y hy
      rcases List.mem_append.mp hy with hy | hy
      · exact r.2.1 y hy
      · simp at hy; subst hy; exact hk
    · rw [List.map_append, List.map_append]
      exact r.2.2.append ⟨rv, trivial⟩
theorem ks_folded {ρ : List Addr} (W : WF0 Z) : ∀ {ks : List Nat} {vs : List AV} {kvs' : List (Str × Value)} {es : List (Nat × AV)} {es' : List (Str × Value)}, KS Z ρ es es' → (∀ k ∈ ks, k < Z.nN) → kvs'.map (·.1) = ks.map Z.nm → VRs Z ρ vs (kvs'.map (·.2)) →
    KS Z ρ ((ks.zip vs).foldl (fun es kv => putS es kv.1 kv.2) es) (merged es' kvs')
  | [], [], [], _, _, r, _, _, _ => r
  | [], _, _ :: _, _, _, _, _, h, _ => by simp at h
  | _ :: _, _, [], _, _, _, _, h, _ => by simp at h
  | [], _ :: _, [], _, _, _, _, _, h => h.elim
  | _ :: _, [], _ :: _, _, _, _, _, _, h => h.elim
  | k :: ks, v :: vs, (a, w) :: kvs', es, es', r, hk, h1, h2 => by
    simp only [List.map_cons, List.cons.injEq] at h1
    obtain ⟨rfl, h1⟩ := h1
    exact ks_folded (ks := ks) (vs := vs) (kvs' := kvs') (es := putS es k v) (es' := PySem.stored es' (Z.nm k) w) W (ks_stored W (hk k (by simp)) r h2.1) (fun x m => hk x (by simp [m])) h1 h2.2
variable (Z tb nl F d) in
inductive EvL : List E → List Expr → Prop
  | nil : EvL [] []
  | cons {e : E} {es : List E} {x : Expr} {xs : List Expr} (h : Ev Z tb nl F d e x) (t : EvL es xs) : EvL (e :: es) (x :: xs)
theorem EvL.evs {es : List E} {xs : List Expr} (h : EvL Z tb nl F d es xs) : Evs Z tb nl F d es xs := by
  induction h with
  | nil => exact evs_nil
  | cons h _ ih => exact evs_cons h ih
theorem EvL.length {es : List E} {xs : List Expr} (h : EvL Z tb nl F d es xs) : xs.length = es.length := by
  induction h with
  | nil => rfl
  | cons _ _ ih => exact congrArg (· + 1) ih
noncomputable def keyE (c : CkI) (k : Nat) (os : List (Option Expr)) : Expr := .Constant (.str (c.nm k)) (vw ((os.headD none).getD default)).n ((os.headD none).getD default).pos
noncomputable def pairTrees (c : CkI) (p : Pos) (env : Env) : List Nat → List (Option Expr) → List Expr → List (Sem Value × Sem Value)
  | [], _, _ => []
  | k :: ks, os, ys => (eval (keyE c k os) env, do let x ← eval (hd ys) env; standAt p; pure x) :: pairTrees c p env ks os.tail ys.tail
theorem pairs_shape {c : CkI} {p : Pos} {env : Env} : ∀ {ks : List Nat} {os : List (Option Expr)} {ys : List Expr}, ys.length = ks.length →
    ((evalEachOpt (keyR c ks os) env).zip ((evalEach ys env).map fun v => do let x ← v; standAt p; pure x) = (pairTrees c p env ks os ys).map fun q => (some q.1, q.2)) ∧ (pairTrees c p env ks os ys).length = ks.length
  | [], _, ys, hl => by
    cases ys with
    | nil => exact ⟨rfl, rfl⟩
    | cons _ _ => cases hl
  | k :: ks, os, ys, hl => by
    cases ys with
    | nil => cases hl
    | cons y ys =>
      obtain ⟨i1, i2⟩ := pairs_shape (c := c) (p := p) (env := env) (ks := ks) (os := os.tail) (ys := ys) (Nat.succ.inj hl)
      exact ⟨congrArg (List.cons ((some (eval (keyE c k os) env), (do let x ← eval y env; standAt p; pure x : Sem Value)) : Option (Sem Value) × Sem Value)) i1, congrArg (· + 1) i2⟩
variable (Z) in
inductive PD (ρ : List Addr) (s : Shared) (ks : List Nat) (Q : QL) (ws : List (Value × Value)) : Shared → Prop
  | mk (vs : List AV) (H' : Hp) (kvs : List (Str × Value)) (h' : Heap) (tk : Nat) (ρ' : List Addr) (q : Q vs H') (R : HR Z ρ' H' h') (G : Grow [] ρ ρ' s.heap h') (c : Carries (PySem.strKind Z.prog Z.w) ws kvs) (m : kvs.map (·.1) = ks.map Z.nm) (r : VRs Z ρ' vs (kvs.map (·.2))) : PD ρ s ks Q ws { s with heap := h', toks := tk }
/-- a display's pairs -/
theorem pairs_eval {p : Pos} {env : Env} {ls : List AV} {A : Around} : ∀ {ks : List Nat} {es : List E} {os : List (Option Expr)} {ys : List Expr} {H : Hp} {Q : QL} {s : Shared} {ρ : List Addr}, es.length = ks.length → EvL Z tb nl F d es ys → Sx Z tb nl d env A ls H s ρ →
    evs Z.P F es ls H Q → Wp Z A (evalPairs (pairTrees (ckI Z) p env ks os ys)) (PD Z ρ s ks Q) s := by
  intro ks
  induction ks with
  | nil =>
    intro es os ys H Q s ρ hl he X hv
    cases he with
    | cons _ _ => cases hl
    | nil => exact evalPairs_nil ⟨[], H, [], s.heap, s.toks, ρ, hv, X.R, Grow.refl, trivial, rfl, trivial⟩
  | cons k ks ih =>
    intro es os ys H Q s ρ hl he X hv
    cases he with
    | nil => cases hl
    | @cons e es y ys h1 h2 =>
      refine evalPairs_cons (wpAny_Constant_str ?_)
      refine wpAny_bind ((h1 env ls H _ A { s with toks := s.toks + 1 } ρ ⟨X.eo, X.hA, X.R, X.L⟩ hv).mono ?_)
      rintro u' _ ⟨u, H1, hh1, tk1, ρ1, hv, R1, G1, r1⟩
      refine wpAny_bind (wpAny_standAt (wpAny_pure ?_))
      refine (ih (es := es) (os := os.tail) (ys := ys) (Nat.succ.inj hl) h2 (X.go (tk1 := tk1) R1 G1) hv).mono ?_
      rintro ws' _ ⟨vs, H2, kvs, hh2, tk2, ρ2, q, R2, G2, c2, m2, r2⟩
      exact ⟨u :: vs, H2, (Z.nm k, u') :: kvs, hh2, tk2, ρ2, q, R2, G1.trans G2, ⟨strKind_is _ _ _ _, rfl, c2⟩, congrArg (List.cons (Z.nm k)) m2, r1.mono G2.pre, r2⟩
theorem none_base {ρ : List Addr} {H : Hp} {h : Heap} (R : HR Z ρ H h) {a : Addr} (e : h.get? a = none) : Z.h₀.get? a = none := by
  cases q : Z.h₀.get? a with
  | none => rfl
  | some o => have := R.base _ _ q; rw [e] at this; cases this
theorem fresh_rho {ρ : List Addr} {H : Hp} {h : Heap} (R : HR Z ρ H h) {a : Addr} (ha : h.get? a = none) : a ∉ ρ := fun m => by
  obtain ⟨o, e⟩ := R.live m
  rw [ha] at e; cases e
theorem ev_dictS (W : WF0 Z) {ks : List Nat} {es : List E} {os : List (Option Expr)} {ys : List Expr} {p : Pos} (hk : ∀ k ∈ ks, k < Z.nN) (hl : es.length = ks.length) (hz : ks.length ≤ 15) (h1 : EvL Z tb nl F d es ys) : Ev Z tb nl F d (.dictS ks es) (.Dict (keyR (ckI Z) ks os) ys p) := by
  intro env ls H Q A s ρ X hv
  have R := X.R
  have hyl : ys.length = ks.length := h1.length.trans hl
  obtain ⟨q1, q2⟩ := pairs_shape (c := ckI Z) (p := p) (env := env) (os := os) hyl
  have hkp : ∀ b o, s.heap.get? b = some o → (s.heap.push { cls := .type "dict", data := .dict #[] }).get? b = some o := fun b o e => Heap.get?_push_of_some _ e
  cases ks with
  | nil =>
    cases h1 with
    | cons _ _ => cases hl
    | nil => exact wpAny_Dict_empty (PV.fin0 hv (PV.made (tk := s.toks) R ⟨[], Heap.DictOf.new _, rfl, (fun _ m => by cases m), trivial⟩))
  | cons k0 ks =>
    refine wpAny_Dict_pairs (knd := PySem.strKind Z.prog Z.w) q1 (fun q => by rw [q] at q2; cases q2) (by rw [q2]; exact hz) ?_
    refine (pairs_eval (os := os) (s := { s with heap := s.heap.push { cls := .type "dict", data := .dict #[] } }) hl h1 (X.go (tk1 := s.toks) (R.ext hkp) (Grow.ext hkp)) hv).mono ?_
    rintro ws _ ⟨vs, H', kvs, h', tk, ρ', q, R', G', c', m', r'⟩
    have hfresh := fresh_rho R (none_size (h := s.heap))
    have hD : s.heap.objs.size ∉ ρ' := fun m => (G'.new _ m).elim hfresh fun e => by
      have : (s.heap.push { cls := .type "dict", data := .dict #[] }).get? s.heap.objs.size = some _ := Heap.get?_push_size _ rfl
      rw [this] at e; cases e
    refine ⟨kvs, c', dictOf_same (fun o e => G'.keep _ _ hfresh (by simp) e) (Heap.DictOf.new s.heap), fun h2 hd2 hs2 => ?_⟩
    have kf := ks_folded W (es := []) (es' := []) ⟨rfl, (fun _ m => by cases m), trivial⟩ hk m' r'
    exact ⟨_, _, h2, _, ρ' ++ [s.heap.objs.size], q, R'.adopt hD (none_base R none_size) hs2 ⟨_, hd2, kf.1, kf.2.1, kf.2.2.mono (List.prefix_append ..)⟩, Grow.adopt none_size hkp G' hs2 (let ⟨o, _, _, ho, _⟩ := hd2; ⟨o, ho⟩), ⟨_, by rw [← R'.len]; simp, rfl⟩⟩
end
end Mine
end
-- U11
section
set_option tactic.hygienic false
namespace Mine
open PySem PySem.W PyProof.Rows PySem.Calls PySem.SeqAt
section
variable {Z : Wd} {tb : Tb} {nl : List Str} {F : Fun} {d : Nat}
/-- what a field or a method is asked of, and no more -/
abbrev NoSup (o : Expr) : Prop := ∀ attr env whole, attributeBase o attr env whole = whole
theorem few_ok {xs : List Expr} {env : Env} {pos : Pos} (hl : xs.length < 20) (ha : backTo pos (starEach xs env) = xs.map fun x => (false, eval x env)) :
    methodCallForm (xs.length + ([] : List Keyword).length) (backTo pos (starEach xs env)) (backToKw pos (keywordEach [] env)) = true := by
  rw [ha]
  have h1 : (xs.map fun x => ((false, eval x env) : Bool × Sem Value)).all (fun x => !x.1) = true := by
    rw [List.all_map, List.all_eq_true]; intro x _; rfl
  have h2 : backToKw pos (keywordEach [] env) = [] := rfl
  rw [h2]
  simp [methodCallForm, h1]
  lia
theorem Method_any {o : Expr} {name : Str} {apos pos : Pos} {xs : List Expr} {env : Env} {A : Around} {s : Shared} {Q : Value → Shared → Prop}
    (hns : NoSup o) (hz : xs.length < 20) (hp : Plains xs)
    (h : Wp Z A (eval o env) (fun ov s1 => ∀ pl : Sem Bool, Wp Z A (getMethod ov name pl) (fun fx s2 => Wp Z A (callWith pos fx.1 fx.2 (xs.map fun x => (false, eval x env)) []) Q s2) s1) s) :
    Wp Z A (eval (.Call (.Attribute o name (endAt apos pos)) xs [] pos) env) Q s := by
  have ha := args_eq (p := pos) (env := env) hp
  show wpAny _ _ _ _ _ _
  rw [arm_eval_Call, hns]
  refine wpAny_bind (h.mono fun ov s1 h1 => wpAny_bind (wpAny_standAt ?_))
  have hpos : methodCallPos true o env (endAt apos pos) pos = pure pos := by unfold methodCallPos; simp [endAt]
  have h2 : backToKw pos (keywordEach [] env) = [] := rfl
  unfold methodCall
  rw [few_ok hz ha]
  refine wpAny_bind (wpAny_holding ?_)
  refine (h1 (do return (← importBound o env).getD true)).mono fun fx s2 h3 => ?_
  refine wpAny_bind (wpAny_of_eq hpos ?_)
  rw [ha, h2]
  exact h3
theorem any_plain {xs : List Expr} {env : Env} : ((xs.map fun x => ((false, eval x env) : Bool × Sem Value)).any (·.1) || ([] : List (Option Str × Sem Value)).any (·.1.isNone)) = false := by
  have : (xs.map fun x => ((false, eval x env) : Bool × Sem Value)).any (·.1) = false := by
    rw [List.any_map, List.any_eq_false]; intro x _; simp
  rw [this]; rfl
theorem cw_any {P : Heap → Prop} {f : Value} {first : List Value} {xs : List Expr} {env : Env} {pos : Pos} {A : Around} {s : Shared} {Q : Value → Shared → Prop}
    (hk : ∀ h, P h → ∃ k, (k = Keeper.frame ∨ k = Keeper.machine ∨ k = Keeper.boundFrame) ∧ Looks (model Z.prog Z.w) h (keeperOf f) k)
    (h : Wp Z A (spliced (xs.map fun x => (false, eval x env))) (fun vs s1 => P s1.heap ∧ Wp Z A (call f (first ++ vs)) Q s1) s) :
    Wp Z A (callWith pos f first (xs.map fun x => (false, eval x env)) []) Q s := by
  refine callWith_of any_plain hk ?_
  cases xs with
  | nil =>
    unfold evalArgs
    show wpAny _ _ (spliced [] >>= _) _ _ s
    refine wpAny_bind (h.mono fun vs s1 h1 => ?_)
    refine wpAny_holding ?_
    exact wpAny_bind (wpAny_pure (wpAny_bind (wpAny_pure (wpAny_pure h1))))
  | cons x xs => exact evalArgs_plain h
theorem keepM {f : Value} (hf : keeperOf f = pure .machine) (h : Heap) (_ : True) : ∃ k, (k = Keeper.frame ∨ k = Keeper.machine ∨ k = Keeper.boundFrame) ∧ Looks (model Z.prog Z.w) h (keeperOf f) k :=
  ⟨.machine, .inr (.inl rfl), Looks.of_pure hf⟩
theorem ev_call (W : WF Z) (hF : FnS Z F d) {f : Nat} {es : List E} {xs : List Expr} {q p : Pos} (hg : isGlob tb (Z.nm f) = true) (hc : f ∈ Z.calls)
    (ha : Plains xs) (h1 : Evs Z tb nl F d es xs) : Ev Z tb nl F d (.call f es) (.Call (.Name (Z.nm f) q) xs [] p) := by
  intro env ls H Q A s ρ X hv
  refine Call_Name (args_eq ha) (load_glob W.toWFG X.eo hg X.R (W.call f hc).1 ?_)
  refine cw_any (P := Z.K.In) (keeps_K (W.call f hc).2) ((h1 env ls H _ A s ρ X hv).mono ?_)
  rintro ws _ ⟨vs, H1, h', tk, ρ', hv, R1, G1, r1⟩
  exact ⟨R1.kin W.toWFK, (hF.call f vs H1 Q A _ ρ' ws hv.go X.hA R1 r1).mono fun _ _ q => PQ.from G1 q⟩
variable (Z) in
def PrS (p : Pr) (f : Value) : Prop := ∀ vs vs' H r H' A s ρ, evPr Z.P p vs H = some (r, H') → A.handled = none → HR Z ρ H s.heap → VRs Z ρ vs vs' → Wp Z A (call f vs') (PV Z [] ρ s r H') s
theorem prS1 {p : Pr} {f : Value} (hp : p ≠ .max) (h : ∀ v v' H r H' A s ρ, evPr Z.P p [v] H = some (r, H') → A.handled = none → HR Z ρ H s.heap → VR Z ρ v v' → Wp Z A (call f [v']) (PV Z [] ρ s r H') s) : PrS Z p f := by
  intro vs vs' H r H' A s ρ e hh R r1
  cases vs with
  | nil => cases e
  | cons v vs =>
    cases vs with
    | nil =>
      obtain ⟨v', ws, rfl, rv, r2⟩ := r1.cons_inv
      obtain rfl := r2.nil_inv
      exact h _ _ _ _ _ _ _ _ e hh R rv
    | cons w vs =>
      cases vs with
      | nil => cases p <;> first | exact absurd rfl hp | cases e
      | cons _ _ => cases e
theorem prS_len (W : WF0 Z) : PrS Z .len (.builtin "len") := prS1 nofun fun _ _ _ _ _ _ _ _ e _ R rv => len_sound W R rv e
theorem prS_int : PrS Z .int (.type "int") := prS1 nofun fun _ _ _ _ _ _ _ _ e _ R rv => int_sound R rv e
theorem prS_list (W : WF0 Z) : PrS Z .list (.type "list") := prS1 nofun fun _ _ _ _ _ _ _ _ e _ R rv => copy_sound W R rv e
theorem prS_dict (W : WF0 Z) : PrS Z .dict (.type "dict") := prS1 nofun fun _ _ _ _ _ _ _ _ e hh R rv => dict_sound W hh R rv e
theorem prS_max : PrS Z .max (.builtin "max") := by
  intro vs vs' H r H' A s ρ e hh R r1
  cases vs with
  | nil => cases e
  | cons v vs =>
    obtain ⟨v', ws, rfl, rv, r2⟩ := r1.cons_inv
    cases vs with
    | nil => cases e
    | cons w vs =>
      obtain ⟨w', ws, rfl, rw', r3⟩ := r2.cons_inv
      cases vs with
      | nil =>
        obtain rfl := r3.nil_inv
        exact max_sound hh R rv rw' e
      | cons _ _ => cases e
theorem ev_prim1 (W : WF Z) {p : Pr} {f : Value} (hp : PrS Z p f) {es : List E} {xs : List Expr} {q pos : Pos} (hx : (prName p, f) ∈ bltT) (hk : keeperOf f = pure .machine) (hg : isGlob tb (prName p) = true)
    (ha : Plains xs) (h1 : Evs Z tb nl F d es xs) : Ev Z tb nl F d (.prim p es) (.Call (.Name (prName p) q) xs [] pos) := by
  intro env ls H Q A s ρ X hv
  refine Call_Name (args_eq ha) (load_blt W.toWFG X.eo hg X.R hx ?_)
  refine cw_any (P := fun _ => True) (keepM hk) ((h1 env ls H _ A s ρ X hv).mono ?_)
  rintro ws _ ⟨vs, H1, h', tk, ρ', ⟨v, H2, e, q⟩, R1, G1, r1⟩
  exact ⟨trivial, (hp vs ws H1 v H2 A _ ρ' e X.hA.hh R1 r1).mono fun _ _ p => PV.fin q G1 p⟩
theorem ev_prim (W : WF Z) {p : Pr} {es : List E} {xs : List Expr} {q pos : Pos} (hp : p ≠ .items ∧ p ≠ .isbool) (hg : isGlob tb (prName p) = true)
    (ha : Plains xs) (h1 : Evs Z tb nl F d es xs) : Ev Z tb nl F d (.prim p es) (.Call (.Name (prName p) q) xs [] pos) := by
  cases p with
  | len => exact ev_prim1 W (prS_len W.toWF0) (.head _) rfl hg ha h1
  | int => exact ev_prim1 W prS_int (.tail _ (.head _)) rfl hg ha h1
  | list => exact ev_prim1 W (prS_list W.toWF0) (.tail _ (.tail _ (.head _))) rfl hg ha h1
  | dict => exact ev_prim1 W (prS_dict W.toWF0) (.tail _ (.tail _ (.tail _ (.head _)))) rfl hg ha h1
  | max => exact ev_prim1 W prS_max (.tail _ (.tail _ (.tail _ (.tail _ (.head _))))) rfl hg ha h1
  | items => exact absurd rfl hp.1
  | isbool => exact absurd rfl hp.2
theorem ev_isbool (W : WF Z) {e : E} {y : Expr} {q z pos : Pos} (hg : isGlob tb "isinstance" = true) (hg2 : isGlob tb "bool" = true) (hy : Plain y) (h1 : Ev Z tb nl F d e y) :
    Ev Z tb nl F d (.prim .isbool [e]) (.Call (.Name "isinstance" q) [y, .Name "bool" z] [] pos) := by
  intro env ls H Q A s ρ X hv
  have ha : backTo pos (starEach [y, .Name "bool" z] env) = [y, Expr.Name "bool" z].map fun x => (false, eval x env) := by rw [hy.star]; rfl
  refine Call_Name ha (load_blt W.toWFG X.eo hg X.R (v := .builtin "isinstance") (by simp [bltT]) ?_)
  refine cw_any (P := fun _ => True) (keepM rfl) ?_
  refine spliced_cons ((h1 env ls H _ A s ρ X hv).mono ?_)
  rintro w _ ⟨v, H1, h', tk, ρ', ⟨r, H2, e, q⟩, R1, G1, r1⟩
  refine spliced_cons (load_blt W.toWFG X.eo hg2 R1 (v := .type "bool") (by simp [bltT]) ?_)
  refine spliced_nil ⟨trivial, ?_⟩
  exact (isbool_sound (s := { s with heap := h', toks := tk }) R1 r1 e).mono fun _ _ p => PV.fin q G1 p
theorem ev_items (W : WF Z) {o : E} {v : Expr} {ap q p1 pos : Pos} (hg : isGlob tb "list" = true) (hns : NoSup v) (h1 : Ev Z tb nl F d o v) :
    Ev Z tb nl F d (.prim .items [o]) (.Call (.Name "list" q) [.Call (.Attribute v "items" (endAt ap p1)) [] [] p1] [] pos) := by
  intro env ls H Q A s ρ X hv
  refine Call_Name (trees := [Expr.Call (.Attribute v "items" (endAt ap p1)) [] [] p1].map fun x => (false, eval x env)) rfl (load_blt W.toWFG X.eo hg X.R (v := .type "list") (by simp [bltT]) ?_)
  refine cw_any (P := fun _ => True) (keepM rfl) ?_
  refine spliced_cons (Method_any hns (by decide) .nil ((h1 env ls H _ A s ρ X hv).mono ?_))
  rintro u' _ ⟨u, H1, h', tk, ρ', ⟨r, H2, e, q⟩, R1, G1, r1⟩ pl
  replace e : evItems Z.P u H1 = some (r, H2) := e
  have hd : ∃ es, Mine.obj Z.P H1 u = some (.dictI es) := by
    unfold evItems at e
    split at e
    · exact ⟨_, by assumption⟩
    · cases e
  obtain ⟨es, hd⟩ := hd
  obtain ⟨l, rfl, kvs, e3, r3⟩ := R1.robj W.toWF0 r1 hd
  refine getMethod_builtin (T := "dict") (s := { s with heap := h', toks := tk }) e3.typeIs PySem.F.plainAttrs_dict PySem.F.slot_dict_items PySem.F.type_dict_items e3.mapOf.noDict ?_
  show wpAny _ _ (callWith p1 (.builtin "dict.items") [.ref l] [] []) _ _ _
  refine method_meetsIn PySem.F.slot_dict_items PySem.F.entry_dict_items rfl (PySem.evalArgs_none ⟨rfl, e3.typeIs, PySem.F.args_dict_items_1 _, _, meets_dict_items (intKind Z.prog Z.w) l (nosys W.toWF0 R1 hd r1 (.inl ⟨_, rfl⟩)), ⟨kvs, e3⟩, ?_⟩)
  refine spliced_nil ⟨trivial, ?_⟩
  have hk : ∀ b o, h'.get? b = some o → (h'.push { cls := .type "dict_items", data := .fields #[.ref l] }).get? b = some o := fun b o e => Heap.get?_push_of_some _ e
  exact (items_sound (s := { s with heap := h'.push { cls := .type "dict_items", data := .fields #[.ref l] }, toks := tk }) W.toWF0 X.hA.hh (R1.ext hk) r1 ⟨_, Heap.get?_push_size _ rfl, rfl, rfl⟩ e).mono fun _ _ p => PV.fin q (G1.trans (Grow.ext hk)) p
noncomputable def bmId : Bm → String
  | .append => "list.append" | .pop => "list.pop" | .index => "list.index" | .get => "dict.get"
set_option tactic.hygienic true in
theorem bm_method (W : WF Z) {m : Bm} {o : AV} {o' : Value} {H : Hp} {A : Around} {s : Shared} {ρ : List Addr} {pl : Sem Bool} {Q : Value × List Value → Shared → Prop} (R : HR Z ρ H s.heap) (ro : VR Z ρ o o') (hb : bmOk Z.P m o H = true)
    (h : Q (.builtin (bmId m), [o']) s) : Wp Z A (getMethod o' (bmName m) pl) Q s := by
  have hlist : (∃ xs, Mine.obj Z.P H o = some (.list xs)) → ∃ l vs n, o' = .ref l ∧ s.heap.get? l = some { cls := .type "list", data := .seq vs n } := by
    rintro ⟨xs, hx⟩
    obtain ⟨l, rfl, vs, ⟨n, e⟩, _⟩ := R.robj W.toWF0 ro hx
    exact ⟨l, _, n, rfl, e⟩
  have hl : m ≠ .get → ∃ xs, Mine.obj Z.P H o = some (.list xs) := by
    intro hm
    cases m <;> first
      | exact absurd rfl hm
      | (simp only [bmOk] at hb
         split at hb
         · exact ⟨_, by assumption⟩
         · cases hb)
  cases m with
  | append =>
    obtain ⟨l, vs, n, rfl, e⟩ := hlist (hl nofun)
    exact getMethod_builtin (T := "list") ⟨_, e, rfl⟩ PySem.F.plainAttrs_list PySem.F.slot_list_append PySem.F.type_list_append (fun a q => by cases q; exact ⟨_, e, rfl⟩) h
  | pop =>
    obtain ⟨l, vs, n, rfl, e⟩ := hlist (hl nofun)
    exact getMethod_builtin (T := "list") ⟨_, e, rfl⟩ PySem.F.plainAttrs_list PySem.F.slot_list_pop PySem.F.type_list_pop (fun a q => by cases q; exact ⟨_, e, rfl⟩) h
  | index =>
    obtain ⟨l, vs, n, rfl, e⟩ := hlist (hl nofun)
    exact getMethod_builtin (T := "list") ⟨_, e, rfl⟩ PySem.F.plainAttrs_list PySem.F.slot_list_index PySem.F.type_list_index (fun a q => by cases q; exact ⟨_, e, rfl⟩) h
  | get =>
    simp only [bmOk] at hb
    split at hb
    · rename_i es hx
      obtain ⟨l, rfl, kvs, e, _⟩ := R.robj W.toWF0 ro hx
      exact getMethod_builtin (T := "dict") e.typeIs PySem.F.plainAttrs_dict PySem.F.slot_dict_get PySem.F.type_dict_get e.mapOf.noDict h
    · rename_i es hx
      obtain ⟨l, rfl, kvs, e, _⟩ := R.robj W.toWF0 ro hx
      exact getMethod_builtin (T := "dict") e.typeIs PySem.F.plainAttrs_dict PySem.F.slot_dict_get PySem.F.type_dict_get e.mapOf.noDict h
    · cases hb
theorem PQ.to {ρ ρ1 : List Addr} {s : Shared} {h1 : Heap} {tk1 : Nat} {Q : QV} {t : Sem Value} {A : Around} (G : Grow [] ρ ρ1 s.heap h1) (p : Wp Z A t (PQ Z ρ1 { s with heap := h1, toks := tk1 } Q) { s with heap := h1, toks := tk1 }) : Wp Z A t (PQ Z ρ s Q) { s with heap := h1, toks := tk1 } := p.mono fun _ _ q => PQ.from G q
/-- the one value that an argument comes to -/
theorem Ev.one (hF : FnS Z F d) {e : E} {x : Expr} (h : Ev Z tb nl F d e x) {env : Env} {ls : List AV} {H : Hp} {Q : QV} {A : Around} {s : Shared} {ρ : List Addr} (X : Sx Z tb nl d env A ls H s ρ) (hv : ev Z.P F e ls H Q) :
    ∃ v H', Q v H' ∧ Wp Z A (eval x env) (PV Z [] ρ s v H') s := by
  obtain ⟨v, H', q, m⟩ := ev_gives hF.gv e ls H Q hv
  refine ⟨v, H', q, (h env ls H _ A s ρ X (m (fun v1 H1 => v1 = v ∧ H1 = H') ⟨rfl, rfl⟩)).mono ?_⟩
  rintro v' _ ⟨_, _, h', tk, ρ', ⟨rfl, rfl⟩, R, G, r⟩
  exact ⟨h', tk, ρ', R, G, r⟩
theorem ev_bm (W : WF Z) (hF : FnS Z F d) {m : Bm} {o : E} {es : List E} {v : Expr} {xs : List Expr} {ap pos : Pos} (hns : NoSup v) (hz : xs.length < 20) (ha : Plains xs) (h0 : Ev Z tb nl F d o v) (h1 : EvL Z tb nl F d es xs) : Ev Z tb nl F d (.bm m o es) (.Call (.Attribute v (bmName m) (endAt ap pos)) xs [] pos) := by
  intro env ls H Q A s ρ X hv
  refine Method_any hns hz ha ((h0 env ls H _ A s ρ X hv).mono ?_)
  rintro u' _ ⟨u, H1, h', tk, ρ', ⟨hb, hv⟩, R1, G1, r1⟩ pl
  refine bm_method (s := { s with heap := h', toks := tk }) W R1 r1 hb (PQ.to G1 ?_)
  have X1 := X.go (tk1 := tk) R1 G1
  cases h1 with
  | nil =>
    obtain ⟨r, H2, e, q⟩ := hv
    cases m with
    | pop => exact (pop_sound (s := { s with heap := h', toks := tk }) R1 r1 e).mono fun _ _ p => PV.fin0 q p
    | _ => exact no_some e
  | cons hx h2 =>
    cases h2 with
    | nil =>
      obtain ⟨w, H3, ⟨r, H4, e, q⟩, hw⟩ := hx.one hF X1 hv
      cases m with
      | append =>
        refine cw_any (P := fun _ => True) (keepM rfl) (spliced_cons (hw.mono ?_))
        rintro w' _ ⟨h2', tk2, ρ2, R2, G2, r2⟩
        exact spliced_nil ⟨trivial, (append_sound (s := { s with heap := h2', toks := tk2 }) R2 (r1.mono G2.pre) r2 e).mono fun _ _ p => PV.fin (s := { s with heap := h', toks := tk }) q G2 p⟩
      | index => exact (index_sound (H := H1) W.toWF0 r1 hw e).mono fun _ _ p => PV.fin0 q p
      | get => exact (get1_sound W.toWF0 R1 r1 hw e).mono fun _ _ p => PV.fin0 q p
      | pop => exact no_some e
    | cons hy h3 =>
      cases h3 with
      | nil =>
        obtain ⟨w, H3, hv2, m1⟩ := ev_gives hF.gv _ _ _ _ hv
        obtain ⟨w2, H5, ⟨r, H6, e, q⟩, m2⟩ := ev_gives hF.gv _ _ _ _ hv2
        cases m with
        | get =>
          refine (get2_sound (H := H1) (H1 := H3) (H2 := H5) (k := w) (d := w2) (s := { s with heap := h', toks := tk }) W.toWF0 R1 r1 ((hx env ls H1 _ A _ ρ' X1 (m1 (fun v1 H' => v1 = w ∧ H' = H3) ⟨rfl, rfl⟩)).mono ?_) e).mono fun _ _ p => PV.fin0 q p
          rintro w' _ ⟨_, _, h2', tk2, ρ2, ⟨rfl, rfl⟩, R2, G2, r2⟩
          refine ⟨h2', tk2, ρ2, rfl, R2, G2, r2, (hy env ls _ _ A _ ρ2 (X1.go R2 G2) (m2 (fun v1 H' => v1 = w2 ∧ H' = H5) ⟨rfl, rfl⟩)).mono ?_⟩
          rintro d' _ ⟨_, _, h3', tk3, ρ3, ⟨rfl, rfl⟩, R3, G3, r3⟩
          exact ⟨h3', tk3, ρ3, R3, G3, r3⟩
        | _ => exact no_some e
      | cons hz h4 =>
        obtain ⟨_, _, q, _⟩ := ev_gives hF.gv _ _ _ _ hv
        obtain ⟨_, _, q, _⟩ := ev_gives hF.gv _ _ _ _ q
        obtain ⟨_, _, q, _⟩ := ev_gives hF.gv _ _ _ _ q
        obtain ⟨_, _, ⟨_, _, e, _⟩, _⟩ := evs_gives hF.gv _ _ _ _ q
        exact no_some e
theorem ev_um (W : WF Z) (hF : FnS Z F d) {m : Nat} {o : E} {es : List E} {v : Expr} {xs : List Expr} {ap pos : Pos} (hns : NoSup v) (hz : xs.length < 20) (ha : Plains xs) (h0 : Ev Z tb nl F d o v) (h1 : Evs Z tb nl F d es xs) : Ev Z tb nl F d (.um m o es) (.Call (.Attribute v (Z.nm m) (endAt ap pos)) xs [] pos) := by
  intro env ls H Q A s ρ X hv
  refine Method_any hns hz ha ((h0 env ls H _ A s ρ X hv).mono ?_)
  rintro u' _ ⟨u, H1, h', tk, ρ', ⟨f, ef, hv⟩, R1, G1, r1⟩ pl
  refine meth_sound (s := { s with heap := h', toks := tk }) W.toWFK R1 r1 ef (PQ.to G1 ?_)
  have hmf : ∃ c, Z.P.meth c m = some f := by
    unfold evMeth at ef
    split at ef
    · split at ef
      · split at ef
        · split at ef
          · exact ⟨_, ef⟩
          · cases ef
        · cases ef
      · cases ef
    · cases ef
  obtain ⟨c, hmf⟩ := hmf
  obtain ⟨hk, hcv⟩ := W.methG c m f hmf
  refine cw_any (P := Z.K.In) (keeps_K hk) ((h1 env ls H1 _ A { s with heap := h', toks := tk } ρ' (X.go R1 G1) hv).mono ?_)
  rintro ws _ ⟨vs, H2, h2, tk2, ρ2, hv, R2, G2, r2⟩
  have := hF.call f (u :: vs) H2 Q A { s with heap := h2, toks := tk2 } ρ2 (u' :: ws) hv.go X.hA R2 ⟨r1.mono G2.pre, r2⟩
  rw [hcv] at this
  exact ⟨R2.kin W.toWFK, this.mono fun _ _ q => PQ.from (s := { s with heap := h', toks := tk }) G2 q⟩
theorem ev_attr (W : WF Z) {o : E} {a : Nat} {v : Expr} {p : Pos} (hns : NoSup v) (hm : a ∈ Z.as) (h0 : Ev Z tb nl F d o v) : Ev Z tb nl F d (.attr o a) (.Attribute v (Z.nm a) p) := by
  intro env ls H Q A s ρ X hv
  refine Attribute_any_ ((h0 env ls H _ A s ρ X hv).mono ?_) ?_
  · rintro u' _ ⟨u, H1, h', tk, ρ', ⟨r, er, q⟩, R1, G1, r1⟩
    exact (attr_sound (s := { s with heap := h', toks := tk }) W.toWFK R1 r1 hm er).mono fun _ _ p => PV.fin q G1 p
  · show (do
      let o ← attributeBase v (Z.nm a) env (eval v env)
      standAt p.atName
      let r ← holding [o] (getAttr o (Z.nm a) true)
      letTemporaryGo v o r
      pure r) = _
    rw [hns]
theorem ev_idx (W : WF Z) {o i : E} {v x : Expr} {p : Pos} (hs : ∀ o i, subscripted x false o i = operate [o, i] (getItem o i)) (h0 : Ev Z tb nl F d o v) (h1 : Ev Z tb nl F d i x) : Ev Z tb nl F d (.idx o i) (.Subscript v x p) := by
  intro env ls H Q A s ρ X hv
  refine Subscript_ ((h0 env ls H _ A s ρ X hv).mono ?_)
  rintro u' _ ⟨u, H1, h', tk, ρ', hv, R1, G1, r1⟩
  refine (h1 env ls H1 _ A { s with heap := h', toks := tk } ρ' (X.go R1 G1) hv).mono ?_
  rintro k' _ ⟨k, H2, h2, tk2, ρ2, ⟨r, er, q⟩, R2, G2, r2⟩
  obtain ⟨T, id, hT, hl, hw⟩ := idx_sound (s := { s with heap := h2, toks := tk2 }) (A := A) W.toWF0 R2 (r1.mono G2.pre) r2 er
  exact tail_any hT hl (hw.mono fun _ _ p => PV.fin q (G1.trans G2) p) (hs _ _)
theorem slice_from {vs : List Value} {n : Int} (h : 0 ≤ n) : slicePick vs.toArray (some n) none none = (vs.drop n.toNat).toArray := by
  obtain ⟨k, rfl⟩ := Int.eq_ofNat_of_zero_le h
  rw [slicePick_from']; rfl
theorem slice_upto {vs : List Value} {n : Int} (h : 0 ≤ n) : slicePick vs.toArray none (some n) none = (vs.take n.toNat).toArray := by
  obtain ⟨k, rfl⟩ := Int.eq_ofNat_of_zero_le h
  rw [slicePick_upto']; rfl
theorem ev_from (W : WF Z) {o lo : E} {v x : Expr} {p p1 : Pos} (h0 : Ev Z tb nl F d o v) (h1 : Ev Z tb nl F d lo x) : Ev Z tb nl F d (.from o lo) (.Subscript v (.Slice (some x) none none p1) p) := by
  intro env ls H Q A s ρ X hv
  refine Subscript_ ((h0 env ls H _ A s ρ X hv).mono ?_)
  rintro u' _ ⟨u, H1, h', tk, ρ', hv, R1, G1, r1⟩
  refine wpAny_Slice ?_
  rw [evalPart_some]
  refine (h1 env ls H1 _ A { s with heap := h', toks := tk } ρ' (X.go R1 G1) hv).mono ?_
  rintro k' _ ⟨k, H2, h2, tk2, ρ2, ⟨r, H3, e, q⟩, R2, G2, r2⟩
  rw [evalPart_none]
  refine wpAny_pure (wpAny_pure ?_)
  unfold evFrom at e
  cases k with
  | int n =>
    cases ho : obj Z.P H2 u with
    | none => rw [ho] at e; exact no_some e
    | some ob =>
    rw [ho] at e
    cases ob with
    | list xs =>
      by_cases hn : 0 ≤ n ∧ xs.length ≤ 1000000
      case neg => exact no_some ((if_neg hn).symm.trans e)
      cases (if_pos hn).symm.trans e
      obtain ⟨t, rfl⟩ := r2
      obtain ⟨l, rfl, vs, ⟨c, e3⟩, r3⟩ := R2.robj W.toWF0 (r1.mono G2.pre) ho
      have hz := r3.length
      have hk : ∀ b o, h2.get? b = some o → (h2.push { cls := .type "slice", data := .fields #[.int n t, .none, .none] }).get? b = some o := fun b o e => Heap.get?_push_of_some _ e
      have e4 := hk _ _ e3
      refine tail_any (T := "list") ⟨_, e4, rfl⟩ slot_list_getitem.lookup ?_ rfl
      refine wpAny_getItem_list_slice (items := vs.toArray) (lo := some n) (hi := none) (st := none) (listAt.isList ⟨_, e4⟩) ⟨_, Heap.get?_push_size _ rfl, rfl, rfl⟩ (.int _ _) .none .none (by decide) ?_ (by simp [hz, size24]; lia)
      rw [slice_from hn.1]
      refine PV.fin (tk1 := tk2) q ((G1.trans G2).trans (Grow.ext hk)) ?_
      refine PV.made (tk := tk2) (s := { s with heap := h2.push { cls := .type "slice", data := .fields #[.int n t, .none, .none] }, toks := tk2 }) (R2.ext hk) (list_new ?_)
      exact r3.drop n.toNat
    | _ => exact no_some e
  | _ => exact no_some e
theorem ev_upto (W : WF Z) {o hi : E} {v x : Expr} {p p1 : Pos} (h0 : Ev Z tb nl F d o v) (h1 : Ev Z tb nl F d hi x) : Ev Z tb nl F d (.upto o hi) (.Subscript v (.Slice none (some x) none p1) p) := by
  intro env ls H Q A s ρ X hv
  refine Subscript_ ((h0 env ls H _ A s ρ X hv).mono ?_)
  rintro u' _ ⟨u, H1, h', tk, ρ', hv, R1, G1, r1⟩
  refine wpAny_Slice ?_
  rw [evalPart_none, evalPart_some]
  refine wpAny_pure ?_
  refine (h1 env ls H1 _ A { s with heap := h', toks := tk } ρ' (X.go R1 G1) hv).mono ?_
  rintro k' _ ⟨k, H2, h2, tk2, ρ2, ⟨r, H3, e, q⟩, R2, G2, r2⟩
  refine wpAny_pure ?_
  unfold evUpto at e
  cases k with
  | int n =>
    cases ho : obj Z.P H2 u with
    | none => rw [ho] at e; exact no_some e
    | some ob =>
    rw [ho] at e
    cases ob with
    | list xs =>
      by_cases hn : 0 ≤ n ∧ xs.length ≤ 1000000
      case neg => exact no_some ((if_neg hn).symm.trans e)
      cases (if_pos hn).symm.trans e
      obtain ⟨t, rfl⟩ := r2
      obtain ⟨l, rfl, vs, ⟨c, e3⟩, r3⟩ := R2.robj W.toWF0 (r1.mono G2.pre) ho
      have hz := r3.length
      have hk : ∀ b o, h2.get? b = some o → (h2.push { cls := .type "slice", data := .fields #[.none, .int n t, .none] }).get? b = some o := fun b o e => Heap.get?_push_of_some _ e
      have e4 := hk _ _ e3
      refine tail_any (T := "list") ⟨_, e4, rfl⟩ slot_list_getitem.lookup ?_ rfl
      refine wpAny_getItem_list_slice (items := vs.toArray) (lo := none) (hi := some n) (st := none) (listAt.isList ⟨_, e4⟩) ⟨_, Heap.get?_push_size _ rfl, rfl, rfl⟩ .none (.int _ _) .none (by decide) ?_ (by simp [hz, size24]; lia)
      rw [slice_upto hn.1]
      refine PV.fin (tk1 := tk2) q ((G1.trans G2).trans (Grow.ext hk)) ?_
      refine PV.made (tk := tk2) (s := { s with heap := h2.push { cls := .type "slice", data := .fields #[.none, .int n t, .none] }, toks := tk2 }) (R2.ext hk) (list_new ?_)
      exact r3.take n.toNat
    | _ => exact no_some e
  | _ => exact no_some e
theorem ev_rev (W : WF Z) {o : E} {v : Expr} {k1 : Nat} {p p1 p2 p3 : Pos} (h0 : Ev Z tb nl F d o v) : Ev Z tb nl F d (.rev o) (.Subscript v (.Slice none none (some (.UnaryOp .USub (.Constant (.int 1) k1 p2) p3)) p1) p) := by
  intro env ls H Q A s ρ X hv
  refine Subscript_ ((h0 env ls H _ A s ρ X hv).mono ?_)
  rintro u' _ ⟨u, H1, h', tk, ρ', ⟨r, H2, e, q⟩, R1, G1, r1⟩
  refine wpAny_Slice ?_
  rw [evalPart_none, evalPart_some]
  refine wpAny_pure (wpAny_pure ?_)
  refine wpAny_UnaryOp (wpAny_Constant_int ?_)
  refine neg_int ?_
  unfold evRev at e
  cases ho : obj Z.P H1 u with
  | none => rw [ho] at e; exact no_some e
  | some ob =>
    rw [ho] at e
    cases ob with
    | list xs =>
      by_cases hn : xs.length ≤ 1000000
      case neg => exact no_some ((if_neg hn).symm.trans e)
      cases (if_pos hn).symm.trans e
      obtain ⟨l, rfl, vs, ⟨c, e3⟩, r3⟩ := R1.robj W.toWF0 r1 ho
      have hz := r3.length
      refine (fun {x : Value} {tk' : Nat} (hx : ∃ t, x = .int (-1) t) => ?_ : ∀ {x : Value} {tk' : Nat}, (∃ t, x = .int (-1) t) → wpAny (model Z.prog Z.w) A (subscriptTail v (.Slice none none (some (.UnaryOp .USub (.Constant (.int 1) k1 p2) p3)) p1) (.ref l) (.ref h'.objs.size)) (PQ Z ρ s Q) (fun _ _ => False) { s with heap := h'.push { cls := .type "slice", data := .fields #[.none, .none, x] }, toks := tk' }) ⟨_, rfl⟩
      obtain ⟨t, rfl⟩ := hx
      have hk : ∀ b o, h'.get? b = some o → (h'.push { cls := .type "slice", data := .fields #[.none, .none, .int (-1) t] }).get? b = some o := fun b o e => Heap.get?_push_of_some _ e
      have e4 := hk _ _ e3
      refine tail_any (T := "list") ⟨_, e4, rfl⟩ slot_list_getitem.lookup ?_ rfl
      refine wpAny_getItem_list_slice (items := vs.toArray) (lo := none) (hi := none) (st := some (-1)) (listAt.isList ⟨_, e4⟩) ⟨_, Heap.get?_push_size _ rfl, rfl, rfl⟩ .none .none (.int _ _) (by decide) ?_ (by simp [hz, size24]; lia)
      rw [krv_pick]
      refine PV.fin (tk1 := tk') q (G1.trans (Grow.ext hk)) ?_
      refine PV.made (tk := tk') (s := { s with heap := h'.push { cls := .type "slice", data := .fields #[.none, .none, .int (-1) t] }, toks := tk' }) (R1.ext hk) (list_new ?_)
      simpa using r3.reverse
    | _ => exact no_some e
end
end Mine
end
-- U12
section
set_option tactic.hygienic false
namespace Mine
open PySem PySem.W PyProof.Rows PySem.Calls PySem.SeqAt
noncomputable def XE (env : Env) : List Addr := env.locals :: env.cells.map (·.2)
section
variable {Z : Wd} {tb : List (Str × NameKind)} {nl : List Str} {F : Fun} {d : Nat}
theorem LR.growX {X : List Addr} {env : Env} {nl : List Str} {ls : List AV} {ρ ρ' : List Addr} {h h' : Heap} (L : LR Z env nl ls ρ h) (G : Grow X ρ ρ' h h') (hX : ∀ b ∈ XE env, b ∉ X) : LR Z env nl ls ρ' h' := by
  have hXL : env.locals ∉ X := hX _ (by simp [XE])
  have hXC : ∀ p ∈ env.cells, p.2 ∉ X := fun p hp => hX _ (by simp only [XE, List.mem_cons, List.mem_map]; exact .inr ⟨p, hp, rfl⟩)
  obtain ⟨m, hm, hv⟩ := L.ns
  refine ⟨L.len, ⟨m, ?_, fun i x v h1 h2 h3 h4 => ?_⟩, fun i x v h1 h2 h4 => ?_, fun hm' => ?_, fun p hp hm' => ?_, L.newL, L.newC, fun p hp => ?_, L.apart, L.apartC⟩
  · obtain ⟨o, es, ep, ho, r⟩ := hm
    exact ⟨o, es, ep, G.keep _ _ L.offL hXL ho, r⟩
  · obtain ⟨v', a, b⟩ := hv i x v h1 h2 h3 h4
    exact ⟨v', a, b.mono G.pre⟩
  · obtain ⟨c, v0, hc, ⟨o, ho, hd⟩, hq⟩ := L.cells i x v h1 h2 h4
    refine ⟨c, v0, hc, ⟨o, G.keep _ _ (L.offC (x, c) (mem_of_lookup hc)) (hXC _ (mem_of_lookup hc)) ho, hd⟩, fun hn => ?_⟩
    obtain ⟨v', a, b⟩ := hq hn
    exact ⟨v', a, b.mono G.pre⟩
  · obtain ⟨o, es, ep, ho, r⟩ := hm
    exact (G.new _ hm').elim L.offL fun l => by rw [l] at ho; cases ho
  · obtain ⟨o, ho⟩ := L.liveC p hp
    exact (G.new _ hm').elim (L.offC p hp) fun l => by rw [l] at ho; cases ho
  · obtain ⟨o, ho⟩ := L.liveC p hp
    exact G.live _ _ ho
theorem LR.keeps {env : Env} {nl : List Str} {ls : List AV} {ρ : List Addr} {h h' : Heap} (L : LR Z env nl ls ρ h) (hk : ∀ b ∈ XE env, ∀ o, h.get? b = some o → h'.get? b = some o) : LR Z env nl ls ρ h' := by
  have hkC : ∀ p ∈ env.cells, ∀ o, h.get? p.2 = some o → h'.get? p.2 = some o := fun p hp => hk _ (by simp only [XE, List.mem_cons, List.mem_map]; exact .inr ⟨p, hp, rfl⟩)
  obtain ⟨m, hm, hv⟩ := L.ns
  refine ⟨L.len, ⟨m, ?_, hv⟩, fun i x v h1 h2 h4 => ?_, L.offL, L.offC, L.newL, L.newC, fun p hp => ?_, L.apart, L.apartC⟩
  · obtain ⟨o, es, ep, ho, r⟩ := hm
    exact ⟨o, es, ep, hk _ (by simp [XE]) _ ho, r⟩
  · obtain ⟨c, v0, hc, ⟨o, ho, hd⟩, hq⟩ := L.cells i x v h1 h2 h4
    exact ⟨c, v0, hc, ⟨o, hkC _ (mem_of_lookup hc) _ ho, hd⟩, hq⟩
  · obtain ⟨o, ho⟩ := L.liveC p hp
    exact ⟨o, hkC p hp _ ho⟩
theorem LR.liveX {env : Env} {nl : List Str} {ls : List AV} {ρ : List Addr} {h : Heap} (L : LR Z env nl ls ρ h) : ∀ b ∈ XE env, ∃ o, h.get? b = some o := by
  intro b hb
  simp only [XE, List.mem_cons, List.mem_map] at hb
  rcases hb with rfl | ⟨p, hp, rfl⟩
  · obtain ⟨m, ⟨o, _, _, ho, _⟩, _⟩ := L.ns
    exact ⟨o, ho⟩
  · exact L.liveC p hp
theorem LR.offX {env : Env} {nl : List Str} {ls : List AV} {ρ : List Addr} {h : Heap} (L : LR Z env nl ls ρ h) : ∀ b ∈ XE env, b ∉ ρ := by
  intro b hb
  simp only [XE, List.mem_cons, List.mem_map] at hb
  rcases hb with rfl | ⟨p, hp, rfl⟩
  · exact L.offL
  · exact L.offC p hp
theorem Grow.drop {X Y ρ ρ' : List Addr} {h h' : Heap} (G : Grow (X ++ Y) ρ ρ' h h') (hX : ∀ x ∈ X, h.get? x = none) : Grow Y ρ ρ' h h' :=
  ⟨G.pre, G.new, fun b o hn hY e => G.keep b o hn (fun m => (List.mem_append.mp m).elim (fun m => by rw [hX b m] at e; cases e) hY) e, G.live⟩
/-- a last step that writes nothing but what was made on the way -/
theorem Grow.tail {wr Y ρ ρ' : List Addr} {h h1 h2 : Heap} (G : Grow Y ρ ρ' h h1) (hw : ∀ b ∈ wr, h.get? b = none) (hk : ∀ b o, b ∉ wr → h1.get? b = some o → h2.get? b = some o) : Grow Y ρ ρ' h h2 where
  pre := G.pre
  new := G.new
  keep := fun b o hn hY e => hk b o (fun m => by rw [hw b m] at e; cases e) (G.keep b o hn hY e)
  live := fun b o e => let ⟨o', e'⟩ := G.live b o e; ⟨o', hk b o' (fun m => by rw [hw b m] at e; cases e) e'⟩
theorem HR.tail {wr ρ : List Addr} {H : Hp} {h1 h2 : Heap} (R : HR Z ρ H h1) (hw : ∀ b ∈ wr, b ∉ ρ) (hb : ∀ b ∈ wr, Z.h₀.get? b = none) (hk : ∀ b o, b ∉ wr → h1.get? b = some o → h2.get? b = some o) : HR Z ρ H h2 where
  len := R.len
  nd := R.nd
  obj := fun i o e => let ⟨a, ha, r⟩ := R.obj i o e; ⟨a, ha, r.mono List.prefix_rfl fun o' e' => hk a o' (fun m => hw a m (List.mem_of_getElem? ha)) e'⟩
  base := fun b o e => hk b o (fun m => by rw [hb b m] at e; cases e) (R.base b o e)
  new := R.new
theorem Grow.writes {wr ρ : List Addr} {h h' : Heap} (hk : ∀ b o, b ∉ wr → h.get? b = some o → h'.get? b = some o) (hl : ∀ b ∈ wr, ∃ o, h'.get? b = some o) : Grow wr ρ ρ h h' where
  pre := List.prefix_rfl
  new := fun _ m => .inl m
  keep := fun b o _ hX e => hk b o hX e
  live := fun b o e => by
    by_cases q : b ∈ wr
    · exact hl b q
    · exact ⟨o, hk b o q e⟩
theorem pw_apart {α β : Type} : ∀ {l : List (α × β)}, (l.Pairwise fun x y => x.2 ≠ y.2) → ∀ {x y : α × β}, x ∈ l → y ∈ l → x.1 ≠ y.1 → x.2 ≠ y.2
  | [], _, _, _, h, _, _ => by cases h
  | a :: l, hp, x, y, hx, hy, hne => by
    rw [List.pairwise_cons] at hp
    rcases List.mem_cons.mp hx with rfl | hx
    · rcases List.mem_cons.mp hy with rfl | hy
      · exact absurd rfl hne
      · exact hp.1 y hy
    · rcases List.mem_cons.mp hy with rfl | hy
      · exact fun q => hp.1 x ‹_› q.symm
      · exact pw_apart hp.2 hx hy hne
theorem nl_inj {nl : List Str} (nd : nl.Nodup) {i j : Nat} {x : Str} (hi : nl[i]? = some x) (hj : nl[j]? = some x) : i = j := by
  obtain ⟨li, ei⟩ := List.getElem?_eq_some_iff.mp hi
  obtain ⟨lj, ej⟩ := List.getElem?_eq_some_iff.mp hj
  exact (List.getElem_inj nd).mp (ei.trans ej.symm)
/-- what a store to x may write -/
def SX (env : Env) (tb : List (Str × NameKind)) (X : List Addr) (x : Str) : Prop := X = XE env ∨ (X = [env.locals] ∧ tb.lookup x = some .local)
theorem store_sound {X : List Addr} {env : Env} {ls : List AV} {ρ : List Addr} {H : Hp} {s : Shared} {A : Around} {i : Nat} {x : Str} {v : AV} {v' : Value} {Q : Unit → Shared → Prop} (eo : EO env tb) (nd : nl.Nodup) (R : HR Z ρ H s.heap) (L : LR Z env nl ls ρ s.heap)
    (hX : SX env tb X x) (hn : nl[i]? = some x) (hl : isLoc tb x = true) (rv : VR Z ρ v v')
    (hQ : ∀ h' tk, HR Z ρ H h' → Grow X ρ ρ s.heap h' → LR Z env nl (ls.set i v) ρ h' → (∀ b o, b ∉ X → s.heap.get? b = some o → h'.get? b = some o) → Q () { s with heap := h', toks := tk }) :
    Wp Z A (storeName env x v') Q s := by
  simp only [isLoc, Bool.and_eq_true, Bool.or_eq_true, beq_iff_eq, Bool.not_eq_true'] at hl
  obtain ⟨hk, _⟩ := hl
  have hi : i < ls.length := by rw [L.len]; exact (List.getElem?_eq_some_iff.mp hn).1
  have hset : ∀ {j : Nat} {w : AV}, j ≠ i → (ls.set i v)[j]? = some w → ls[j]? = some w := fun hj e => by rwa [List.getElem?_set_ne (Ne.symm hj)] at e
  have hself : ∀ {w : AV}, (ls.set i v)[i]? = some w → w = v := fun e => by rw [List.getElem?_set_self hi] at e; cases e; rfl
  rcases hk with hk | hk
  · have hk' : env.kindOf x = some .local := by rw [kind_of eo]; exact hk
    have hXl : env.locals ∈ X := by rcases hX with rfl | ⟨rfl, _⟩ <;> simp [XE]
    obtain ⟨m, hm, hv⟩ := L.ns
    refine wpAny_storeName_local hk' hm (fun h' hm' hs' => ?_) (by simp [eo.kind])
    have hl' : ∃ o, h'.get? env.locals = some o := let ⟨o, _, _, ho, _⟩ := hm'; ⟨o, ho⟩
    refine hQ h' _ (R.off L.offL L.newL hs') (Grow.off hXl hs' hl') ⟨by simp [L.len], ⟨_, hm', fun j y w h1 h2 h3 h4 => ?_⟩, fun j y w h1 h2 h4 => ?_, L.offL, L.offC, L.newL, L.newC, fun p hp => ?_, L.apart, L.apartC⟩ fun b o hb e => (hs'.2 b fun q => hb (q ▸ hXl)).trans e
    · by_cases hy : y = x
      · subst hy
        obtain rfl := nl_inj nd h1 hn
        obtain rfl := hself h2
        exact ⟨v', by simp, rv⟩
      · have hj : j ≠ i := fun q => by subst q; rw [hn] at h1; cases h1; exact hy rfl
        obtain ⟨w', a, b⟩ := hv j y w h1 (hset hj h2) h3 h4
        exact ⟨w', by simp [hy, a], b⟩
    · have hy : y ≠ x := fun q => by subst q; rw [hk'] at h4; cases h4
      have hj : j ≠ i := fun q => by subst q; rw [hn] at h1; cases h1; exact hy rfl
      obtain ⟨c, v0, hc, hcell, hq⟩ := L.cells j y w h1 (hset hj h2) h4
      exact ⟨c, v0, hc, hcell.sameBut hs' (L.apart _ (mem_of_lookup hc)), hq⟩
    · obtain ⟨o, ho⟩ := L.liveC p hp
      exact ⟨o, (hs'.2 _ (L.apart p hp)).trans ho⟩
  · have hk' : env.kindOf x = some .cell := by rw [kind_of eo]; exact hk
    obtain ⟨c, v0, hc, hcell, hq⟩ := L.cells i x ls[i] hn (List.getElem?_eq_getElem hi) hk'
    have hmem := mem_of_lookup hc
    refine wpAny_storeName_cell eo.kind hk' hc hcell fun h' hc' hs' => ?_
    have hl' : ∃ o, h'.get? c = some o := let ⟨o, ho, _⟩ := hc'; ⟨o, ho⟩
    have hXc : c ∈ X := by
      rcases hX with rfl | ⟨_, q⟩
      · simp only [XE, List.mem_cons, List.mem_map]; exact .inr ⟨_, hmem, rfl⟩
      · rw [hk] at q; cases q
    refine hQ h' s.toks (R.off (L.offC _ hmem) (L.newC _ hmem) hs') (Grow.off hXc hs' hl') ⟨by simp [L.len], ?_, fun j y w h1 h2 h4 => ?_, L.offL, L.offC, L.newL, L.newC, fun p hp => ?_, L.apart, L.apartC⟩ fun b o hb e => (hs'.2 b fun q => hb (q ▸ hXc)).trans e
    · obtain ⟨m, hm, hv⟩ := L.ns
      refine ⟨m, hm.sameBut hs' (L.apart _ hmem).symm, fun j y w h1 h2 h3 h4 => ?_⟩
      have hy : y ≠ x := fun q => by subst q; rw [hk'] at h4; cases h4
      have hj : j ≠ i := fun q => by subst q; rw [hn] at h1; cases h1; exact hy rfl
      exact hv j y w h1 (hset hj h2) h3 h4
    · by_cases hy : y = x
      · subst hy
        obtain rfl := nl_inj nd h1 hn
        obtain rfl := hself h2
        exact ⟨c, _, hc, hc', fun _ => ⟨v', rfl, rv⟩⟩
      · have hj : j ≠ i := fun q => by subst q; rw [hn] at h1; cases h1; exact hy rfl
        obtain ⟨c', v0', hc2, hcell', hq'⟩ := L.cells j y w h1 (hset hj h2) h4
        exact ⟨c', v0', hc2, hcell'.sameBut hs' (pw_apart L.apartC (mem_of_lookup hc2) hmem hy), hq'⟩
    · by_cases q : p.2 = c
      · exact q ▸ hl'
      · obtain ⟨o, ho⟩ := L.liveC p hp
        exact ⟨o, (hs'.2 _ q).trans ho⟩
inductive Tgt (tb : List (Str × NameKind)) (nl : List Str) : Expr → List Nat → Prop
  | one {x : Str} {p : Pos} {i : Nat} : nl[i]? = some x → isLoc tb x = true → Tgt tb nl (.Name x p) [i]
  | two {x y : Str} {p q t : Pos} {k i j : Nat} : nl[i]? = some x → isLoc tb x = true → nl[j]? = some y → isLoc tb y = true → Tgt tb nl (.Tuple [.Name x p, .Name y q] k t) [i, j]
noncomputable def TX (env : Env) (tb : List (Str × NameKind)) (X : List Addr) : Expr → Prop
  | .Name x _ => SX env tb X x
  | .Tuple [.Name x _, .Name y _] _ _ => SX env tb X x ∧ SX env tb X y
  | _ => True
variable (Z) in
/-- what a walk hands out -/
noncomputable def ItemV (ρ : List Addr) (h : Heap) : Expr → List AV → Value → Prop
  | .Name _ _, [x], v => VR Z ρ x v
  | .Tuple _ _ _, [x, y], v => ∃ T v1 v2, v = .ref T ∧ h.IsTuple T #[v1, v2] ∧ VR Z ρ x v1 ∧ VR Z ρ y v2
  | _, _, _ => False
theorem asg_sound {X : List Addr} {env : Env} {ls vals : List AV} {ρ : List Addr} {H : Hp} {s : Shared} {A : Around} {tg : Expr} {is : List Nat} {v : Value} {Q : Unit → Shared → Prop} (hh : A.handled = none) (eo : EO env tb) (nd : nl.Nodup) (R : HR Z ρ H s.heap) (L : LR Z env nl ls ρ s.heap)
    (hX : TX env tb X tg) (ht : Tgt tb nl tg is) (hv : ItemV Z ρ s.heap tg vals v)
    (hQ : ∀ h' tk, HR Z ρ H h' → Grow X ρ ρ s.heap h' → LR Z env nl (setAll is vals ls) ρ h' → (∀ b o, b ∉ X → s.heap.get? b = some o → h'.get? b = some o) → Q () { s with heap := h', toks := tk }) :
    Wp Z A (assign tg env v) Q s := by
  cases ht with
  | one hn hl =>
    cases vals with
    | nil => exact hv.elim
    | cons a r =>
      cases r with
      | nil => exact wpAny_assign_Name (store_sound eo nd R L hX hn hl hv hQ)
      | cons b r => cases r <;> exact hv.elim
  | two hn hl hn2 hl2 =>
    cases vals with
    | nil => exact hv.elim
    | cons a r =>
    cases r with
    | nil => exact hv.elim
    | cons b r =>
    cases r with
    | cons c r => exact hv.elim
    | nil =>
      obtain ⟨T, v1, v2, rfl, hT, r1, r2⟩ := hv
      refine wpAny_assign_Tuple hh hT rfl rfl fun h1 hx => ?_
      have hk : ∀ b o, s.heap.get? b = some o → h1.get? b = some o := fun b o e => hx b o (fun q => by rw [q, none_size] at e; cases e) e
      show wpAny _ A (do holding [v2] (assign _ env v1); do holding [] (assign _ env v2); pure ()) _ _ _
      refine wpAny_bind (wpAny_holding (wpAny_assign_Name (store_sound (s := { s with heap := h1 }) eo nd (R.ext hk) (L.grow (Grow.ext hk)) hX.1 hn hl r1 fun h2 tk2 R2 G2 L2 k2 => ?_)))
      refine wpAny_bind (wpAny_holding (wpAny_assign_Name (store_sound (s := { s with heap := h2, toks := tk2 }) eo nd R2 L2 hX.2 hn2 hl2 r2 fun h3 tk3 R3 G3 L3 k3 => wpAny_pure ?_)))
      exact hQ h3 tk3 R3 ((Grow.ext hk).trans (G2.trans G3)) L3 fun b o hb e => k3 b o hb (k2 b o hb (hk b o e))
end
end Mine
end
-- U13
section
set_option tactic.hygienic false
namespace Mine
open PySem PySem.W PyProof.Rows PySem.Calls PySem.SeqAt
structure Itr (Z : Wd) (A : Around) (ρ0 : List Addr) (g : Option (Nat × AO)) (its : List (List AV)) (tg : Expr) (I : Addr) (fp wr : List Addr) (St : Nat → Heap → Prop) : Prop where
  frame : ∀ i h h', St i h → (∀ b ∈ fp, ∀ o, h.get? b = some o → h'.get? b = some o) → St i h'
  live : ∀ i h, St i h → ∀ b ∈ wr, ∃ o, h.get? b = some o
  item : ∀ i vals H ρ (s : Shared) (Q : Value → Shared → Prop), its[i]? = some vals → kept g H → ρ0 <+: ρ → (∀ b ∈ wr, b ∉ ρ) → HR Z ρ H s.heap → St i s.heap →
    (∀ v h' tk, (∀ b o, b ∉ wr → s.heap.get? b = some o → h'.get? b = some o) → St (i + 1) h' → ItemV Z ρ h' tg vals v → Q v { s with heap := h', toks := tk }) →
    Wp Z A (pyNext (.ref I)) (fun r s1 => match r with
      | none => False
      | some v => Wp Z A (letOwnedTupleGo tg (.ref I) v) (fun _ s2 => Q v s2) s1) s
  done : ∀ H ρ (s : Shared) (Q : Option Value → Shared → Prop), kept g H → ρ0 <+: ρ → (∀ b ∈ wr, b ∉ ρ) → HR Z ρ H s.heap → St its.length s.heap →
    (∀ h' tk, (∀ b o, b ∉ wr → s.heap.get? b = some o → h'.get? b = some o) → Q none { s with heap := h', toks := tk }) → Wp Z A (pyNext (.ref I)) Q s
  self : ∀ i (s : Shared) (Q : Value → Shared → Prop), St i s.heap → Q (.ref I) s → Wp Z A (pyIter (.ref I)) Q s
section
variable {Z : Wd} {tb : Tb} {nl : List Str} {F : Fun} {d : Nat}
theorem kept_get {a : Nat} {o : AO} {H : Hp} (h : kept (some (a, o)) H) : H[a]? = some o := h
theorem pre_get {ρ0 ρ : List Addr} (hp : ρ0 <+: ρ) {a : Nat} {c : Addr} (h : ρ0[a]? = some c) : ρ[a]? = some c := by
  obtain ⟨t, rfl⟩ := hp
  rw [List.getElem?_append_left (List.getElem?_eq_some_iff.mp h).1]; exact h
theorem itr_list {A : Around} (hh : A.handled = none) {ρ0 : List Addr} {a : Nat} {c I : Addr} {xs : List AV} {x : Str} {p : Pos} (hc : ρ0[a]? = some c) (hI : I ≠ c) :
    Itr Z A ρ0 (some (a, .list xs)) (xs.map fun x => [x]) (.Name x p) I [I] [I] (fun i h => h.IsListIter I c i) where
  frame := fun i h h' ⟨o, ho, r⟩ hk => ⟨o, hk I (by simp) o ho, r⟩
  live := fun i h ⟨o, ho, _⟩ b hb => by simp at hb; subst hb; exact ⟨o, ho⟩
  item := fun i vals H ρ s Q hv hk hp hw R hst hQ => by
    obtain ⟨vs, e1, r1⟩ := R.get (kept_get hk) (pre_get hp hc)
    rw [List.getElem?_map] at hv
    obtain ⟨y, hy, rfl⟩ := Option.map_eq_some_iff.mp hv
    obtain ⟨v, hv1, rv⟩ := r1.get hy
    have hlt : i < vs.toArray.size := by simpa using (List.getElem?_eq_some_iff.mp hv1).1
    refine (Walks.list hh I c (Ne.symm hI) vs.toArray).item i s _ _ hlt ⟨hst, e1.isList⟩ fun w h' tk hP hst' hk' => ?_
    have : w = v := by
      have e : vs.toArray[i]? = some w := hP
      rw [List.getElem?_toArray, hv1] at e; cases e; rfl
    subst this
    exact wpAny_of_eq (a := ()) rfl (hQ w h' tk hk' hst'.1 rv)
  done := fun H ρ s Q hk hp hw R hst hQ => by
    obtain ⟨vs, e1, r1⟩ := R.get (kept_get hk) (pre_get hp hc)
    have hz := r1.length
    refine (Walks.list hh I c (Ne.symm hI) vs.toArray).done s _ _ ⟨?_, e1.isList⟩ fun h' tk hk' => hQ h' tk hk'
    have : vs.toArray.size = (xs.map fun x => [x]).length := by simp [hz]
    rw [this]; exact hst
  self := fun i s Q hst hQ => wpAny_pyIter_listiter hst hQ
theorem itr_tuple {A : Around} (hh : A.handled = none) {ρ0 : List Addr} {a : Nat} {c I : Addr} {xs : List AV} {x : Str} {p : Pos} (hc : ρ0[a]? = some c) (hI : I ≠ c) :
    Itr Z A ρ0 (some (a, .tup xs)) (xs.map fun x => [x]) (.Name x p) I [I] [I] (fun i h => h.IsTupleIter I c i) where
  frame := fun i h h' ⟨o, ho, r⟩ hk => ⟨o, hk I (by simp) o ho, r⟩
  live := fun i h ⟨o, ho, _⟩ b hb => by simp at hb; subst hb; exact ⟨o, ho⟩
  item := fun i vals H ρ s Q hv hk hp hw R hst hQ => by
    obtain ⟨vs, e1, r1⟩ := R.get (kept_get hk) (pre_get hp hc)
    rw [List.getElem?_map] at hv
    obtain ⟨y, hy, rfl⟩ := Option.map_eq_some_iff.mp hv
    obtain ⟨v, hv1, rv⟩ := r1.get hy
    have hlt : i < vs.toArray.size := by simpa using (List.getElem?_eq_some_iff.mp hv1).1
    refine (Walks.tuple hh I c (Ne.symm hI) vs.toArray).item i s _ _ hlt ⟨hst, e1.isTuple⟩ fun w h' tk hP hst' hk' => ?_
    have : w = v := by
      have e : vs.toArray[i]? = some w := hP
      rw [List.getElem?_toArray, hv1] at e; cases e; rfl
    subst this
    exact wpAny_of_eq (a := ()) rfl (hQ w h' tk hk' hst'.1 rv)
  done := fun H ρ s Q hk hp hw R hst hQ => by
    obtain ⟨vs, e1, r1⟩ := R.get (kept_get hk) (pre_get hp hc)
    have hz := r1.length
    refine (Walks.tuple hh I c (Ne.symm hI) vs.toArray).done s _ _ ⟨?_, e1.isTuple⟩ fun h' tk hk' => hQ h' tk hk'
    have : vs.toArray.size = (xs.map fun x => [x]).length := by simp [hz]
    rw [this]; exact hst
  self := fun i s Q hst hQ => wpAny_pyIter_tupleiter hst hQ
theorem itr_rng {A : Around} (hh : A.handled = none) {ρ0 : List Addr} {I : Addr} {a : Int} {n : Nat} {x : Str} {p : Pos} :
    Itr Z A ρ0 none ((List.range n).map fun (j : Nat) => [.int (a + j)]) (.Name x p) I [I] [I] (fun i h => IsRangeIter h I (a + (i : Nat) * 1) ((n : Int) - (i : Nat)) 1) where
  frame := fun i h h' ho hk => hk I (by simp) _ ho
  live := fun i h ho b hb => by simp at hb; subst hb; exact ⟨_, ho⟩
  item := fun i vals H ρ s Q hv hk hp hw R hst hQ => by
    rw [List.getElem?_map] at hv
    obtain ⟨y, hy, rfl⟩ := Option.map_eq_some_iff.mp hv
    obtain ⟨hi, hy2⟩ := List.getElem?_eq_some_iff.mp hy
    simp at hi hy2
    subst hy2
    refine (Walks.range hh I a 1 n).item i s _ _ hi hst fun w h' tk hP hst' hk' => ?_
    refine wpAny_of_eq (a := ()) rfl (hQ w h' tk hk' hst' ?_)
    obtain ⟨t, rfl⟩ := hP
    exact ⟨t, by rw [Int.mul_one]⟩
  done := fun H ρ s Q hk hp hw R hst hQ => by
    refine (Walks.range hh I a 1 n).done s _ _ ?_ fun h' tk hk' => hQ h' tk hk'
    simpa using hst
  self := fun i s Q hst hQ => (Walks.range (prog := Z.prog) (w := Z.w) hh I a 1 n).self i s _ _ hst hQ
theorem itr_enum {A : Around} (hh : A.handled = none) {ρ0 : List Addr} {a : Nat} {c I it : Addr} {xs : List AV} {es : List Expr} {k : Nat} {p : Pos} (hc : ρ0[a]? = some c) (hI : c ≠ I) (hit : c ≠ it) (hne : I ≠ it) :
    Itr Z A ρ0 (some (a, .list xs)) (xs.zipIdx.map fun p => [.int p.2, p.1]) (.Tuple es k p) I [I, it] [I, it] (fun i h => (∃ old, IsEnum h I it i old) ∧ h.IsListIter it c i) where
  frame := fun i h h' ⟨⟨old, he⟩, o, ho, r⟩ hk => ⟨⟨old, hk I (by simp) _ he⟩, o, hk it (by simp) o ho, r⟩
  live := fun i h ⟨⟨old, he⟩, o, ho, _⟩ b hb => by
    rcases List.mem_cons.mp hb with rfl | hb
    · exact ⟨_, he⟩
    · simp at hb; subst hb; exact ⟨o, ho⟩
  item := fun i vals H ρ s Q hv hk hp hw R hst hQ => by
    obtain ⟨vs, e1, r1⟩ := R.get (kept_get hk) (pre_get hp hc)
    rw [List.getElem?_map] at hv
    obtain ⟨y, hy, rfl⟩ := Option.map_eq_some_iff.mp hv
    rw [List.getElem?_zipIdx] at hy
    obtain ⟨z, hz, rfl⟩ := Option.map_eq_some_iff.mp hy
    obtain ⟨v, hv1, rv⟩ := r1.get hz
    have hlt : i < vs.toArray.size := by simpa using (List.getElem?_eq_some_iff.mp hv1).1
    have W := WalksT.enumerate (prog := Z.prog) (w := Z.w) hh I it c hne hI hit vs.toArray
    refine W.item i s _ _ hlt ⟨hst.1, hst.2, e1.isList⟩ fun T vals h' tk hP hT hTup hMid hk' => ?_
    refine W.go es k p i T { s with heap := h', toks := tk } _ _ hMid fun h2 hst2 hk2 => ?_
    obtain ⟨t, x, hx, rfl⟩ := hP
    rw [List.getElem?_toArray, hv1] at hx; cases hx
    refine hQ (.ref T) h2 tk (fun b o hb e => hk2 b o hb (hk' b o hb e)) ⟨hst2.1, hst2.2.1⟩ ⟨T, .int i t, v, rfl, ?_, ⟨t, ?_⟩, rv⟩
    · obtain ⟨o, ho, r⟩ := hTup
      exact ⟨o, hk2 T o (W.apart _ _ _ hMid) ho, r⟩
    · simp
  done := fun H ρ s Q hk hp hw R hst hQ => by
    obtain ⟨vs, e1, r1⟩ := R.get (kept_get hk) (pre_get hp hc)
    have hz := r1.length
    have W := WalksT.enumerate (prog := Z.prog) (w := Z.w) hh I it c hne hI hit vs.toArray
    have hn : vs.toArray.size = (xs.zipIdx.map fun p => ([.int p.2, p.1] : List AV)).length := by simp [hz]
    refine W.done s _ _ ⟨?_, ?_, e1.isList⟩ fun h' tk hk' => hQ h' tk hk'
    · rw [hn]; exact hst.1
    · rw [hn]; exact hst.2
  self := fun i s Q hst hQ => by
    obtain ⟨⟨old, he⟩, _⟩ := hst
    exact wpAny_pyIter_enum he hQ
theorem intKind_int {k : Int} {v : Value} (h : (intKind Z.prog Z.w).is k v = true) : ∃ t, v = .int k t := by
  cases v with
  | int i t => exact ⟨t, by simp [intKind, Value.isInt] at h; rw [h]⟩
  | _ => simp [intKind, Value.isInt] at h
theorem itr_keys {A : Around} (hh : A.handled = none) {ρ0 : List Addr} {c I : Addr} {es : List (Int × AV)} {kvs : List (Int × Value)} {ep : Nat} {a : Nat} {x : Str} {p : Pos} (hI : c ≠ I) (hkv : kvs.map (·.1) = es.map (·.1)) :
    Itr Z A ρ0 (some (a, .dictI es)) (es.map fun kv => [.int kv.1]) (.Name x p) I [I, c] [I] (fun i h => h.IsKeyIter I c i kvs.length ep ∧ h.DictAt (intKind Z.prog Z.w) c kvs ep) where
  frame := fun i h h' ⟨⟨o, ho, r⟩, ⟨od, es', hod, r'⟩⟩ hk => ⟨⟨o, hk I (by simp) o ho, r⟩, ⟨od, es', hk c (by simp) od hod, r'⟩⟩
  live := fun i h ⟨⟨o, ho, _⟩, _⟩ b hb => by simp at hb; subst hb; exact ⟨o, ho⟩
  item := fun i vals H ρ s Q hv hk hp hw R hst hQ => by
    rw [List.getElem?_map] at hv
    obtain ⟨y, hy, rfl⟩ := Option.map_eq_some_iff.mp hv
    have hq : (kvs.map (·.1))[i]? = some y.1 := by rw [hkv, List.getElem?_map, hy]; rfl
    rw [List.getElem?_map] at hq
    obtain ⟨⟨k, v⟩, hz, hz2⟩ := Option.map_eq_some_iff.mp hq
    dsimp only at hz2
    subst hz2
    refine wpAny_pyNext_dict_item hst.1 hst.2 hz fun key h' hkey hit hs => ?_
    obtain ⟨t, rfl⟩ := intKind_int hkey
    refine wpAny_of_eq (a := ()) rfl (hQ _ h' s.toks (fun b o hb e => (hs.2 b (by simpa using hb)).trans e) ⟨hit, ?_⟩ ⟨t, rfl⟩)
    obtain ⟨od, es', hod, r'⟩ := hst.2
    exact ⟨od, es', (hs.2 c hI).trans hod, r'⟩
  done := fun H ρ s Q hk hp hw R hst hQ => by
    have hz : kvs.length = es.length := by simpa using congrArg List.length hkv
    have hst' : s.heap.IsKeyIter I c kvs.length kvs.length ep := by
      have := hst.1
      simp only [List.length_map, ← hz] at this
      exact this
    exact wpAny_pyNext_dict_end hh hst' hst.2 (List.getElem?_eq_none (Nat.le_refl _)) fun h' hk' => hQ h' s.toks fun b o hb e => hk' b o (by simpa using hb) e
  self := fun i s Q hst hQ => wpAny_pyIter_keyiter hst.1 hQ
theorem grow_none {X ρ ρ' : List Addr} {h h' : Heap} (G : Grow X ρ ρ' h h') {a : Addr} (ha : h'.get? a = none) : h.get? a = none := by
  cases e : h.get? a with
  | none => rfl
  | some o => obtain ⟨o', e'⟩ := G.live a o e; rw [ha] at e'; cases e'
variable (Z) in
/-- a walk stands ready -/
inductive IterP (A : Around) (ρ : List Addr) (s : Shared) (keys : Prop) (g : Option (Nat × AO)) (its : List (List AV)) (tg : Expr) (H1 : Hp) (it : Value) : Shared → Prop
  | mk (I : Addr) (fp wr : List Addr) (St : Nat → Heap → Prop) (h1 : Heap) (tk : Nat) (ρ1 : List Addr) (e : it = .ref I) (i : Itr Z A ρ1 g its tg I fp wr St) (st : St 0 h1) (R : HR Z ρ1 H1 h1) (G : Grow [] ρ ρ1 s.heap h1)
      (w : ∀ b ∈ wr, b ∉ ρ1) (f : ∀ b ∈ wr, s.heap.get? b = none) (l : ∀ b ∈ fp, ∃ o, h1.get? b = some o) (k : ¬ keys → ∀ b ∈ fp, b ∈ wr) (r : ∀ b ∈ fp, b ∈ wr ∨ b ∈ ρ1) : IterP A ρ s keys g its tg H1 it { s with heap := h1, toks := tk }
/-- the walk is of one new object -/
theorem IterP.one {A : Around} {ρ ρ1 : List Addr} {s : Shared} {keys : Prop} {g : Option (Nat × AO)} {its : List (List AV)} {tg : Expr} {H1 : Hp} {h1 : Heap} {x : Obj} {tk : Nat} {St : Nat → Heap → Prop} (R1 : HR Z ρ1 H1 h1) (G1 : Grow [] ρ ρ1 s.heap h1)
    (hx : x.isFreed = false) (i : Itr Z A ρ1 g its tg h1.objs.size [h1.objs.size] [h1.objs.size] St) (st : St 0 (h1.push x)) : IterP Z A ρ s keys g its tg H1 (.ref h1.objs.size) { s with heap := h1.push x, toks := tk } := by
  have hk : ∀ b o, h1.get? b = some o → (h1.push x).get? b = some o := fun b o e => Heap.get?_push_of_some _ e
  have h1' : ∀ {P : Addr → Prop}, P h1.objs.size → ∀ b ∈ [h1.objs.size], P b := fun {P} p b hb => by
    cases hb with
    | head => exact p
    | tail _ hb => cases hb
  exact ⟨_, _, _, _, _, tk, ρ1, rfl, i, st, R1.ext hk, G1.trans (Grow.ext hk), h1' (P := fun b => b ∉ ρ1) (fresh_rho R1 none_size), h1' (P := fun b => s.heap.get? b = none) (grow_none G1 none_size), h1' (P := fun b => ∃ o, (h1.push x).get? b = some o) ⟨_, Heap.get?_push_size _ hx⟩, fun _ _ hb => hb, fun _ hb => .inl hb⟩
variable (Z tb nl F d) in
/-- how the text of a walk's source stands to the mini text -/
inductive IterT : IK → List E → Expr → Expr → Prop
  | seq {e : E} {x : Expr} {y : Str} {p : Pos} : Ev Z tb nl F d e x → IterT .seq [e] x (.Name y p)
  | keys {e : E} {x : Expr} {y : Str} {p : Pos} : Ev Z tb nl F d e x → IterT .keys [e] x (.Name y p)
  | enum {es : List E} {xs : List Expr} {q pos : Pos} {ts : List Expr} {k : Nat} {p : Pos} : isGlob tb "enumerate" = true → Plains xs → Evs Z tb nl F d es xs →
      IterT .enum es (.Call (.Name "enumerate" q) xs [] pos) (.Tuple ts k p)
  | rng {es : List E} {xs : List Expr} {q pos : Pos} {y : Str} {p : Pos} : isGlob tb "range" = true → Plains xs → Evs Z tb nl F d es xs →
      IterT .rng es (.Call (.Name "range" q) xs [] pos) (.Name y p)
theorem oneRef_inv {vs : List AV} {a : Nat} (h : oneRef vs = some a) : vs = [.ref a] := by
  cases vs with
  | nil => cases h
  | cons v r =>
    cases r with
    | cons _ _ => cases h
    | nil => cases v with
      | ref b => cases h; rfl
      | _ => cases h
theorem asI_inv {β : Type} {v : AV} {k : Int → Option β} {r : β} (h : asI v k = some r) : ∃ i, v = .int i ∧ k i = some r := by
  cases v with
  | int i => exact ⟨i, rfl, h⟩
  | _ => cases h
/-- what a walk by objects is over -/
theorem bind2 {α β γ : Type} {o : Option α} {f : α → Option β} {g : α → β → Option γ} {r : γ} (h : (o.bind fun a => (f a).bind (g a)) = some r) : ∃ a b, o = some a ∧ f a = some b ∧ g a b = some r := by
  obtain ⟨a, e1, h⟩ := Option.bind_eq_some_iff.mp h
  obtain ⟨b, e2, h⟩ := Option.bind_eq_some_iff.mp h
  exact ⟨a, b, e1, e2, h⟩
theorem ne_size {h : Heap} {c : Addr} {x : Obj} (e : h.get? c = some x) : h.objs.size ≠ c := fun q => by rw [← q, none_size] at e; cases e
theorem seq_iter {A : Around} (hh : A.handled = none) {H1 : Hp} {v : AV} {v' : Value} {s : Shared} {ρ ρ1 : List Addr} {h1 : Heap} {tk : Nat} {its : List (List AV)} {g : Option (Nat × AO)} {y : Str} {p : Pos}
    (G1 : Grow [] ρ ρ1 s.heap h1) (R1 : HR Z ρ1 H1 h1) (r1 : VR Z ρ1 v v') (e : evIter Z.P .seq [v] H1 = some (its, g)) :
    Wp Z A (pyIter v') (IterP Z A ρ s (IK.seq = .keys) g its (.Name y p) H1) { s with heap := h1, toks := tk } := by
  obtain ⟨a, o, ea, eo, e⟩ := bind2 (o := oneRef [v]) (f := fun a => H1[a]?) e
  cases oneRef_inv ea
  obtain ⟨c, hc, rfl⟩ := r1
  cases o with
  | list xs =>
    cases e
    obtain ⟨vs, ⟨n, e1⟩, r2⟩ := R1.get eo hc
    exact wpAny_pyIter_list (s := { s with heap := h1, toks := tk }) (listAt.isList ⟨n, e1⟩) (.one R1 G1 rfl (itr_list hh hc (ne_size e1)) ⟨_, Heap.get?_push_size _ rfl, rfl, rfl⟩)
  | tup xs =>
    cases e
    obtain ⟨vs, ⟨n, e1⟩, r2⟩ := R1.get eo hc
    exact wpAny_pyIter_tuple (s := { s with heap := h1, toks := tk }) (tupAt.isTuple ⟨n, e1⟩) (.one R1 G1 rfl (itr_tuple hh hc (ne_size e1)) ⟨_, Heap.get?_push_size _ rfl, rfl, rfl⟩)
  | _ => cases e
theorem keys_iter (W : WF0 Z) {A : Around} (hh : A.handled = none) {H1 : Hp} {v : AV} {v' : Value} {s : Shared} {ρ ρ1 : List Addr} {h1 : Heap} {tk : Nat} {its : List (List AV)} {g : Option (Nat × AO)} {y : Str} {p : Pos}
    (G1 : Grow [] ρ ρ1 s.heap h1) (R1 : HR Z ρ1 H1 h1) (r1 : VR Z ρ1 v v') (e : evIter Z.P .keys [v] H1 = some (its, g)) :
    Wp Z A (pyIter v') (IterP Z A ρ s (IK.keys = .keys) g its (.Name y p) H1) { s with heap := h1, toks := tk } := by
  obtain ⟨a, o, ea, eo, e⟩ := bind2 (o := oneRef [v]) (f := fun a => H1[a]?) e
  cases oneRef_inv ea
  obtain ⟨c, hc, rfl⟩ := r1
  cases o with
  | dictI es =>
    cases e
    obtain ⟨kvs, e1, r2⟩ := R1.get eo hc
    obtain ⟨ep, e1⟩ := e1.dictAt
    have hob : ∃ o, h1.get? c = some o := let ⟨o, _, ho, _⟩ := e1; ⟨o, ho⟩
    obtain ⟨oc, hob⟩ := hob
    have hk : ∀ b o, h1.get? b = some o → (h1.push { cls := .type "dict_keyiterator", data := .fields #[.ref c, .int 0 0, .int kvs.length 0, .int ep 0] }).get? b = some o := fun b o e => Heap.get?_push_of_some _ e
    refine wpAny_pyIter_dict (s := { s with heap := h1, toks := tk }) (knd := intKind Z.prog Z.w) (W.sys _ (R1.new _ (List.mem_of_getElem? hc))) e1 ?_
    refine ⟨h1.objs.size, [h1.objs.size, c], [h1.objs.size], _, _, tk, ρ1, rfl, itr_keys (kvs := kvs) (ep := ep) hh (ne_size hob).symm r2.1, ⟨⟨_, Heap.get?_push_size _ rfl, rfl, rfl⟩, let ⟨o, es', ho, r⟩ := e1; ⟨o, es', hk _ _ ho, r⟩⟩, R1.ext hk, G1.trans (Grow.ext hk), ?_, ?_, ?_, fun q => absurd rfl q, fun b hb => ?_⟩
    · intro b hb; simp at hb; subst hb; exact fresh_rho R1 none_size
    · intro b hb; simp at hb; subst hb; exact grow_none G1 none_size
    · intro b hb
      rcases List.mem_cons.mp hb with rfl | hb
      · exact ⟨_, Heap.get?_push_size _ rfl⟩
      · simp at hb; subst hb; exact ⟨_, hk _ _ hob⟩
    · rcases List.mem_cons.mp hb with rfl | hb
      · exact .inl (by simp)
      · simp at hb; subst hb; exact .inr (List.mem_of_getElem? hc)
  | _ => cases e
/-- a walk over a span of numbers -/
theorem rng_iter {A : Around} (hh : A.handled = none) {H1 : Hp} {s : Shared} {ρ ρ1 : List Addr} {h' : Heap} {y : Str} {p : Pos} (G1 : Grow [] ρ ρ1 s.heap h') (R1 : HR Z ρ1 H1 h') {a b : Int} {t u v : Tok} {tk2 : Nat} (ha : small a = true) (hb : small b = true) :
    Wp Z A (pyIter (.ref h'.objs.size)) (IterP Z A ρ s (IK.rng = .keys) none ((List.range (b - a).toNat).map fun (j : Nat) => [.int (a + j)]) (.Name y p) H1) { s with heap := h'.push { cls := .type "range", data := .fields #[.int a t, .int b u, .int 1 v] }, toks := tk2 } := by
  obtain ⟨ha1, ha2⟩ := small_iff.mp ha
  obtain ⟨hb1, hb2⟩ := small_iff.mp hb
  have hk1 : ∀ b' o, h'.get? b' = some o → (h'.push { cls := .type "range", data := .fields #[.int a t, .int b u, .int 1 v] }).get? b' = some o := fun b o e => Heap.get?_push_of_some _ e
  generalize hH : h'.push { cls := .type "range", data := .fields #[.int a t, .int b u, .int 1 v] } = h2 at hk1 ⊢
  have hr : IsRange h2 h'.objs.size a b 1 t u v := by rw [← hH]; exact Heap.get?_push_size _ rfl
  refine wpAny_pyIter_range (s := { s with heap := h2, toks := tk2 }) hr (small_one ha1 ha2 hb1 hb2) (.one (R1.ext hk1) (G1.trans (Grow.ext hk1)) rfl (itr_rng hh) ?_)
  have e : Builtin.Range.rangeSize a b 1 = (((b - a).toNat : Nat) : Int) := by rw [rangeSize_one]; split <;> lia
  rw [e]
  have q : IsRangeIter (h2.push { cls := .type "range_iterator", data := .fields #[rawInt a, rawInt (((b - a).toNat : Nat) : Int), rawInt 1] }) h2.objs.size a (((b - a).toNat : Nat) : Int) 1 := Heap.get?_push_size _ rfl
  simpa using q
variable (Z tb nl F d) in
/-- what a walk's source comes to, and what then goes on -/
inductive ItQ (A : Around) (ρ : List Addr) (s : Shared) (k : IK) (tg : Expr) (K : List (List AV) → Option (Nat × AO) → Hp → Prop) (v : Value) : Shared → Prop
  | mk (its : List (List AV)) (g : Option (Nat × AO)) (H1 : Hp) (s2 : Shared) (q : K its g H1) (p : IterP Z A ρ s (k = .keys) g its tg H1 v s2) : ItQ A ρ s k tg K v s2
noncomputable def kIt (P : PI) (k : IK) (K : List (List AV) → Option (Nat × AO) → Hp → Prop) : QL := fun vs H => ∃ its g, evIter P k vs H = some (its, g) ∧ K its g H
theorem iter_sound (W : WF Z) {k : IK} {src : List E} {x tg : Expr} (h : IterT Z tb nl F d k src x tg) {env : Env} {ls : List AV} {H : Hp} {A : Around} {s : Shared} {ρ : List Addr} {K : List (List AV) → Option (Nat × AO) → Hp → Prop}
    (X : Sx Z tb nl d env A ls H s ρ) (hv : evs Z.P F src ls H (kIt Z.P k K)) :
    Wp Z A (eval x env) (fun xv s1 => Wp Z A (pyIter xv) (ItQ Z A ρ s k tg K) s1) s := by
  have hh := X.hA.hh
  cases h with
  | seq h1 =>
    refine (h1 env ls H _ A s ρ X hv).mono ?_
    rintro v' _ ⟨v, H1, h', tk, ρ1, ⟨its, g, e, q⟩, R1, G1, r1⟩
    exact (seq_iter hh G1 R1 r1 e).mono fun _ _ p => ⟨_, _, _, _, q, p⟩
  | keys h1 =>
    refine (h1 env ls H _ A s ρ X hv).mono ?_
    rintro v' _ ⟨v, H1, h', tk, ρ1, ⟨its, g, e, q⟩, R1, G1, r1⟩
    exact (keys_iter W.toWF0 hh G1 R1 r1 e).mono fun _ _ p => ⟨_, _, _, _, q, p⟩
  | enum hg ha h1 =>
    refine Call_Name (args_eq ha) (load_blt W.toWFG X.eo hg X.R (v := .type "enumerate") (by simp [bltT]) ?_)
    refine cw_any (P := fun _ => True) (keepM rfl) ((h1 env ls H _ A s ρ X hv).mono ?_)
    rintro ws _ ⟨vs, H1, h', tk, ρ1, ⟨its, g, e, q⟩, R1, G1, r1⟩
    refine ⟨trivial, ?_⟩
    obtain ⟨a, o, ea, eo, e⟩ := bind2 (o := oneRef vs) (f := fun a => H1[a]?) e
    cases oneRef_inv ea
    cases o with
    | list xs' =>
      cases e
      obtain ⟨v', ws', rfl, rv, r2⟩ := r1.cons_inv
      obtain rfl := r2.nil_inv
      obtain ⟨c, hc, rfl⟩ := rv
      obtain ⟨us, ⟨nn, e1⟩, r3⟩ := R1.get eo hc
      have hlt : c < h'.objs.size := Heap.lt_size e1
      refine call_enumerate_list (s := { s with heap := h', toks := tk }) (listAt.isList ⟨nn, e1⟩) fun h2 he hit hz hk => ?_
      dsimp only at he hit hz hk ⊢
      have hn1 : ∀ b, h'.objs.size ≤ b → h'.get? b = none := fun b hb => by
        cases e : h'.get? b with
        | none => rfl
        | some o => exact absurd (Heap.lt_size e) (Nat.not_lt.mpr hb)
      have two : ∀ {P : Addr → Prop}, P (h'.objs.size + 1) → P h'.objs.size → ∀ b ∈ [h'.objs.size + 1, h'.objs.size], P b := fun {P} p q b hb => by
        cases hb with
        | head => exact p
        | tail _ hb => cases hb with
          | head => exact q
          | tail _ hb => cases hb
      have f1 := hn1 _ (Nat.le_succ _)
      refine wpAny_pyIter_enum (s := { s with heap := h2, toks := tk }) he ⟨_, _, _, _, q, ?_⟩
      exact ⟨h'.objs.size + 1, [h'.objs.size + 1, h'.objs.size], [h'.objs.size + 1, h'.objs.size], _, h2, tk, ρ1, rfl, itr_enum hh hc (Nat.ne_of_lt (Nat.lt_succ_of_lt hlt)) (Nat.ne_of_lt hlt) (Nat.succ_ne_self _), ⟨⟨_, he⟩, hit⟩, R1.ext hk, G1.trans (Grow.ext hk),
        two (P := fun b => b ∉ ρ1) (fresh_rho R1 f1) (fresh_rho R1 none_size), two (P := fun b => s.heap.get? b = none) (grow_none G1 f1) (grow_none G1 none_size), two (P := fun b => ∃ o, h2.get? b = some o) ⟨_, he⟩ (let ⟨o, ho, _⟩ := hit; ⟨o, ho⟩), fun _ b hb => hb, fun b hb => .inl hb⟩
    | _ => cases e
  | @rng es xs q0 pos y p hg ha h1 =>
    refine Call_Name (args_eq ha) (load_blt W.toWFG X.eo hg X.R (v := .type "range") (by simp [bltT]) ?_)
    refine cw_any (P := fun _ => True) (keepM rfl) ((h1 env ls H _ A s ρ X hv).mono ?_)
    rintro ws _ ⟨vs, H1, h', tk, ρ1, ⟨its, g, e, q⟩, R1, G1, r1⟩
    refine ⟨trivial, ?_⟩
    cases vs with
    | nil => cases e
    | cons x vs =>
    obtain ⟨v', ws', rfl, rv, r2⟩ := r1.cons_inv
    cases vs with
    | nil =>
      obtain ⟨b, rfl, e2⟩ := asI_inv (k := fun b => bif small b then some ((List.range b.toNat).map fun (j : Nat) => [AV.int j], none) else none) e
      obtain rfl := r2.nil_inv
      obtain ⟨t, rfl⟩ := rv
      cases hs : small b with
      | false => rw [hs] at e2; cases e2
      | true =>
        rw [hs] at e2; cases e2
        refine call_range_1 (Wp.mono (Q := IterP Z A ρ s (IK.rng = .keys) none _ _ H1) ?_ fun _ _ p => ⟨_, _, _, _, q, p⟩)
        have := rng_iter (Z := Z) (p := p) (y := y) hh G1 R1 (a := 0) (b := b) (t := tk) (u := t) (v := tk + 1) (tk2 := tk + 1 + 1) (by decide) hs
        simpa using this
    | cons x2 vs =>
      obtain ⟨w', ws'', rfl, rw', r3⟩ := r2.cons_inv
      cases vs with
      | cons _ _ => cases e
      | nil =>
        obtain ⟨a, rfl, e2⟩ := asI_inv (k := fun a => asI x2 fun b => bif small a && small b then some ((List.range (b - a).toNat).map fun (j : Nat) => [AV.int (a + j)], none) else none) e
        obtain ⟨b, rfl, e3⟩ := asI_inv (k := fun b => bif small a && small b then some ((List.range (b - a).toNat).map fun (j : Nat) => [AV.int (a + j)], none) else none) e2
        obtain rfl := r3.nil_inv
        obtain ⟨t, rfl⟩ := rv
        obtain ⟨u, rfl⟩ := rw'
        cases hs : small a && small b with
        | false => rw [hs] at e3; cases e3
        | true =>
          rw [hs] at e3; cases e3
          rw [Bool.and_eq_true] at hs
          exact call_range_2 ((rng_iter hh G1 R1 hs.1 hs.2).mono fun _ _ p => ⟨_, _, _, _, q, p⟩)
end
end Mine
end
-- U14
section
set_option tactic.hygienic false
namespace Mine
open PySem PySem.W PyProof.Rows PySem.Calls PySem.SeqAt
section
variable {prog : Program} {w : World} {A : Around} {R : Result → Shared → Prop} {s : Shared}
theorem compLoop_any {elt target iter : Expr} {ifs : List Expr} {scope : Scope} {pos : Pos} {it acc : Value} {env : Env} (I : Nat → Shared → Prop)
    (turn : ∀ n s, I n s → wpAny (model prog w) A (pyNext it) (fun r s₁ => match r with
      | none => R (.ok .next) s₁
      | some v => wpAny (model prog w) A (letOwnedTupleGo target it v) (fun _ s₂ => wpAny (model prog w) A (assign target env v) (fun _ s₃ =>
          wpAny (model prog w) A (forIn ifs true fun c r => if r = true then do let ok ← isTrue c env (eval c env); pure (ForInStep.yield ok) else pure (ForInStep.yield r)) (fun ok s₄ =>
            if ok = true then wpAny (model prog w) A (eval elt env) (fun x s₅ =>
              wpAny (model prog w) A (call (.builtin "list.append") [acc, x]) (fun _ s₆ => ∃ m, m < n ∧ I m s₆) (fun _ _ => False) s₅) (fun _ _ => False) s₄
            else ∃ m, m < n ∧ I m s₄) (fun _ _ => False) s₃) (fun _ _ => False) s₂) (fun _ _ => False) s₁) (fun _ _ => False) s)
    (n : Nat) (h : I n s) : codeAny (model prog w) A (.compLoop (.ListComp elt [⟨target, iter, ifs, 0⟩] scope pos) 0 it acc env) R s := by
  refine codeAny_loop rfl I (fun n s hI => ?_) n h
  show wpAny _ A ((compTurn (.ListComp elt [⟨target, iter, ifs, 0⟩] scope pos) 0 it acc env).onRaise (fun x => do noteFrame x env; theTreesLotGoes x)) _ _ s
  refine wpAny_noted ?_
  rw [compTurn_list]
  refine wpAny_bind (wpAny_standAt (wpAny_bind (wpAny_mono (turn n s hI) (fun r s₁ h₁ => ?_) fun _ _ q => q.elim)))
  cases r with
  | none => exact wpAny_pure h₁
  | some v =>
    refine wpAny_bind (wpAny_mono h₁ (fun _ s₂ h₂ => wpAny_bind (wpAny_mono h₂ (fun _ s₃ h₃ => wpAny_bind (wpAny_mono h₃ (fun ok s₄ h₄ => ?_) fun _ _ q => q.elim)) fun _ _ q => q.elim)) fun _ _ q => q.elim)
    cases ok with
    | false => exact wpAny_pure ⟨rfl, h₄⟩
    | true => exact wpAny_bind (wpAny_bind (wpAny_mono h₄ (fun x s₅ h₅ => wpAny_bind (wpAny_mono h₅ (fun _ s₆ h₆ => wpAny_pure (wpAny_pure ⟨rfl, h₆⟩)) fun _ _ q => q.elim)) fun _ _ q => q.elim))
end
section
variable {Z : Wd} {tb : Tb} {nl : List Str} {F : Fun} {d : Nat}
variable (Z tb nl F d) in
/-- an expression that writes nothing that stood -/
def EvX (e : E) (x : Expr) : Prop := ∀ env ls H Q A s ρ, Sx Z tb nl d env A ls H s ρ → ev Z.P F e ls H Q → Wp Z A (eval x env) (fun v' s' => PQ Z ρ s Q v' s' ∧ ∀ b o, s.heap.get? b = some o → s'.heap.get? b = some o) s
theorem Grow.drop0 {X ρ ρ' : List Addr} {h h' : Heap} (G : Grow X ρ ρ' h h') (hX : ∀ x ∈ X, h.get? x = none) : Grow [] ρ ρ' h h' :=
  ⟨G.pre, G.new, fun b o hn _ e => G.keep b o hn (fun m => by rw [hX b m] at e; cases e) e, G.live⟩
theorem Grow.more {X ρ ρ' : List Addr} {h h' : Heap} {a : Addr} (G : Grow X ρ ρ' h h') (ha : h.get? a = none) : Grow X ρ (ρ' ++ [a]) h h' :=
  ⟨G.pre.trans (List.prefix_append ..), fun b m => (List.mem_append.mp m).elim (G.new b) fun m => by simp at m; subst m; exact .inr ha, G.keep, G.live⟩
/-- the closure of a block -/
noncomputable def clo (cells : List (Str × Addr)) : List (Str × NameKind) → List (Str × Addr) → List (Str × Addr)
  | [], acc => acc
  | (n, k) :: r, acc => if k == .free then (match cells.lookup n with
    | some c => clo cells r ((n, c) :: acc)
    | none => clo cells r acc) else clo cells r acc
theorem closureFor_eq {env : Env} {scope : Scope} (h : ∀ p ∈ scope.names, p.2 = .free → ∃ c, env.cells.lookup p.1 = some c) : closureFor scope env = pure (clo env.cells scope.names []) := by
  unfold closureFor
  generalize scope.names = ns at h
  have key : ∀ (ns : List (Str × NameKind)) (acc : List (Str × Addr)), (∀ p ∈ ns, p.2 = .free → ∃ c, env.cells.lookup p.1 = some c) →
      (forIn ns acc fun x r => if (x.2 == NameKind.free) = true then do let a ← cellOf env x.1; pure (ForInStep.yield ((x.1, a) :: r)) else pure (ForInStep.yield r) : Sem (List (Str × Addr))) = pure (clo env.cells ns acc) := by
    intro ns
    induction ns with
    | nil => intro acc _; rfl
    | cons x ns ih =>
      intro acc h
      obtain ⟨n, k⟩ := x
      rw [List.forIn_cons]
      by_cases hk : (k == NameKind.free) = true
      · obtain ⟨c, hc⟩ := h (n, k) (by simp) (by simpa using hk)
        simp only [hk, if_true, cellOf, hc, clo]
        exact ih _ fun p m => h p (by simp [m])
      · simp only [hk, clo]
        exact ih _ fun p m => h p (by simp [m])
  have := key ns [] h
  exact (congrArg (· >>= pure) this).trans rfl
set_option tactic.hygienic true in
theorem clo_mem {cells : List (Str × Addr)} : ∀ {ns : List (Str × NameKind)} {acc : List (Str × Addr)} {p : Str × Addr}, p ∈ clo cells ns acc → p ∈ acc ∨ (cells.lookup p.1 = some p.2 ∧ (p.1, NameKind.free) ∈ ns)
  | [], _, _, h => .inl h
  | (n, k) :: r, acc, p, h => by
    unfold clo at h
    split at h
    · rename_i hk
      split at h
      · rename_i c hc
        rcases clo_mem h with h | ⟨h1, h2⟩
        · rcases List.mem_cons.mp h with rfl | h
          · exact .inr ⟨hc, by simp at hk; subst hk; simp⟩
          · exact .inl h
        · exact .inr ⟨h1, by simp [h2]⟩
      · rcases clo_mem h with h | ⟨h1, h2⟩
        · exact .inl h
        · exact .inr ⟨h1, by simp [h2]⟩
    · rcases clo_mem h with h | ⟨h1, h2⟩
      · exact .inl h
      · exact .inr ⟨h1, by simp [h2]⟩
theorem clo_sub {cells : List (Str × Addr)} : ∀ {ns : List (Str × NameKind)} {acc : List (Str × Addr)} {p : Str × Addr}, p ∈ acc → p ∈ clo cells ns acc
  | [], _, _, h => h
  | (n, k) :: r, acc, p, h => by
    unfold clo
    split
    · split
      · exact clo_sub (by simp [h])
      · exact clo_sub h
    · exact clo_sub h
theorem clo_has {cells : List (Str × Addr)} {x : Str} {c : Addr} (hc : cells.lookup x = some c) : ∀ {ns : List (Str × NameKind)} {acc : List (Str × Addr)}, (x, NameKind.free) ∈ ns → (x, c) ∈ clo cells ns acc
  | [], _, h => by cases h
  | (n, k) :: r, acc, h => by
    rcases List.mem_cons.mp h with q | h
    · cases q
      unfold clo
      rw [if_pos (by rfl), hc]
      exact clo_sub (by simp)
    · unfold clo
      split
      · split <;> exact clo_has hc h
      · exact clo_has hc h
theorem clo_lookup {cells : List (Str × Addr)} {ns : List (Str × NameKind)} {x : Str} {c : Addr} (hc : cells.lookup x = some c) (h : (x, NameKind.free) ∈ ns) : (clo cells ns []).lookup x = some c := by
  have hm := clo_has (acc := []) hc h
  have hall : ∀ p ∈ clo cells ns [], cells.lookup p.1 = some p.2 := fun p m => by
    rcases clo_mem m with h | h
    · cases h
    · exact h.1
  generalize clo cells ns [] = l at hm hall
  induction l with
  | nil => cases hm
  | cons p l ih =>
    obtain ⟨y, c'⟩ := p
    rw [List.lookup_cons]
    by_cases q : x == y
    · rw [q]
      have e : x = y := by simpa using q
      subst e
      have := hall (x, c') (by simp)
      dsimp only at this
      rw [hc] at this
      simpa using this.symm
    · rw [show (x == y) = false by simpa using q]
      refine ih ?_ fun p m => hall p (by simp [m])
      rcases List.mem_cons.mp hm with e | e
      · cases e; simp at q
      · exact e
theorem clo_nodup {cells : List (Str × Addr)} : ∀ {ns : List (Str × NameKind)} {acc : List (Str × Addr)}, (ns.map (·.1)).Nodup → (acc.map (·.1)).Nodup → (∀ p ∈ acc, p.1 ∉ ns.map (·.1)) → ((clo cells ns acc).map (·.1)).Nodup
  | [], _, _, h, _ => h
  | (n, k) :: r, acc, hn, ha, hd => by
    rw [List.map_cons, List.nodup_cons] at hn
    unfold clo
    split
    · split
      · refine clo_nodup hn.2 ?_ fun p m => ?_
        · rw [List.map_cons, List.nodup_cons]
          refine ⟨fun m => ?_, ha⟩
          obtain ⟨p, hp, e⟩ := List.mem_map.mp m
          exact hd p hp (by simp [e])
        · rcases List.mem_cons.mp m with rfl | m
          · exact hn.1
          · exact fun q => hd p m (by rw [List.map_cons]; exact List.mem_cons_of_mem _ q)
      · exact clo_nodup hn.2 ha fun p m q => hd p m (by rw [List.map_cons]; exact List.mem_cons_of_mem _ q)
    · exact clo_nodup hn.2 ha fun p m q => hd p m (by rw [List.map_cons]; exact List.mem_cons_of_mem _ q)
theorem clo_apart {cells : List (Str × Addr)} (hp : cells.Pairwise fun x y => x.2 ≠ y.2) {ns : List (Str × NameKind)} (hn : (ns.map (·.1)).Nodup) : (clo cells ns []).Pairwise fun x y => x.2 ≠ y.2 := by
  have h1 := clo_nodup (cells := cells) (acc := []) hn (by simp) (by simp)
  have hall : ∀ p ∈ clo cells ns [], p ∈ cells := fun p m => by
    rcases clo_mem m with h | h
    · cases h
    · exact mem_of_lookup h.1
  generalize clo cells ns [] = l at h1 hall
  induction l with
  | nil => exact List.Pairwise.nil
  | cons p l ih =>
    rw [List.map_cons, List.nodup_cons] at h1
    refine List.Pairwise.cons (fun q m => pw_apart hp (hall p (by simp)) (hall q (by simp [m])) fun e => h1.1 (List.mem_map.mpr ⟨q, m, e.symm⟩)) (ih h1.2 fun q m => hall q (by simp [m]))
end
end Mine
end
-- U15
section
set_option tactic.hygienic false
namespace Mine
open PySem PySem.W PyProof.Rows PySem.Calls PySem.SeqAt
section
variable {Z : Wd} {tb : Tb} {nl : List Str} {F : Fun} {d : Nat}
theorem compTb_get {names : List (Str × NameKind)} {x : Str} : (compTb tb names).lookup x = (names.lookup x).map fun k => if k == .free && tb.lookup x == some .cell then .cell else k := by
  unfold compTb
  induction names with
  | nil => rfl
  | cons p r ih =>
    obtain ⟨n, k⟩ := p
    show List.lookup x ((if (k == .free && tb.lookup n == some .cell) = true then (n, NameKind.cell) else (n, k)) :: _) = _
    by_cases q : x = n
    · subst q
      by_cases hc : (k == .free && tb.lookup x == some .cell) = true
      · rw [if_pos hc]
        simp only [List.lookup_cons, beq_self_eq_true, Option.map_some, hc, if_true]
      · rw [if_neg hc]
        simp only [List.lookup_cons, beq_self_eq_true, Option.map_some, hc]
        simp
    · have q' : (x == n) = false := by simpa using q
      by_cases hc : (k == .free && tb.lookup n == some .cell) = true
      · rw [if_pos hc]
        simp only [List.lookup_cons, q']
        exact ih
      · rw [if_neg hc]
        simp only [List.lookup_cons, q']
        exact ih
theorem relabel_names {scope : Scope} {env : Env} (eo : EO env tb) : (relabel scope env).names = compTb tb scope.names := by
  unfold relabel compTb
  simp only [eo.kind, kind_of eo]
  apply List.map_congr_left
  rintro ⟨n, k⟩ _
  simp
/-- what a comprehension's text must hold -/
structure CompOk (Z : Wd) (tb : Tb) (nl : List Str) (F : Fun) (d : Nat) (cap : List Nat) (k : IK) (src : List E) (tn : Nat) (cond : List E) (elt : E) (el tg it : Expr) (ifs : List Expr) (sc : Scope) (cs ts : List Str) (is : List Nat) : Prop where
  hcs : cs = cap.map (nth nl) ∧ ∀ i ∈ cap, (nl[i]?).isSome = true
  htn : ts.length = tn
  hkind : sc.kind = .function
  hcell : ∀ p ∈ sc.names, p.2 ≠ .cell
  hcap : ∀ x ∈ cs, sc.names.lookup x = some .free ∧ tb.lookup x = some .cell
  htl : ∀ x ∈ ts, sc.names.lookup x = some .local
  hlocal : ∀ p ∈ sc.names, p.2 = .local → sc.names.lookup p.1 = some .local
  hfree : ∀ p ∈ sc.names, p.2 = .free → p.1 ∈ cs
  hnn : (sc.names.map (·.1)).Nodup
  hnd : (cs ++ ts).Nodup
  hit : IterT Z tb nl F d k src it tg
  hfs : ∀ env x, foldedSetIterable it env x = pure x
  htg : Tgt (compTb tb sc.names) (cs ++ ts) tg is
  hset : ∀ (caps old vals : List AV), caps.length = cs.length → old.length = tn → vals.length = tn → setAll is vals (caps ++ old) = caps ++ vals
  htx : ∀ env : Env, TX env (compTb tb sc.names) [env.locals] tg
  hcond : (cond = [] ∧ ifs = []) ∨ ∃ c x, cond = [c] ∧ ifs = [x] ∧ Tr Z (compTb tb sc.names) (cs ++ ts) F d c x
  helt : Ev Z (compTb tb sc.names) (cs ++ ts) F d elt el
  hkeys : k = .keys → cond = [] ∧ EvX Z (compTb tb sc.names) (cs ++ ts) F d elt el
theorem cap_get {nl : List Str} : ∀ {cap : List Nat}, (∀ i ∈ cap, (nl[i]?).isSome = true) → ∀ {ls caps : List AV}, cap.mapM (fun i => ls[i]?) = some caps → caps.length = (cap.map (nth nl)).length ∧ ∀ (j : Nat) (x : Str), (cap.map (nth nl))[j]? = some x → ∃ (i : Nat) (v : AV), nl[i]? = some x ∧ ls[i]? = some v ∧ caps[j]? = some v
  | [], _, ls, caps, hm => by
    rw [List.mapM_nil] at hm
    cases hm
    exact ⟨rfl, fun j x e => by cases e⟩
  | i :: r, h, ls, caps, hm => by
    rw [List.mapM_cons] at hm
    obtain ⟨v, e1, hm⟩ := Option.bind_eq_some_iff.mp hm
    obtain ⟨vs, e2, hm⟩ := Option.bind_eq_some_iff.mp hm
    cases hm
    obtain ⟨q1, q2⟩ := cap_get (fun i m => h i (List.mem_cons_of_mem _ m)) e2
    obtain ⟨y, hy⟩ := Option.isSome_iff_exists.mp (h i (.head _))
    refine ⟨congrArg (· + 1) q1, fun j x e => ?_⟩
    cases j with
    | succ j => exact q2 j x e
    | zero => exact ⟨i, v, by rw [← e, hy]; show some y = some ((nl[i]?).getD _); rw [hy]; rfl, e1, rfl⟩
theorem comp_env {env : Env} {sc : Scope} {cl : List (Str × Addr)} {C : Addr} (eo : EO env tb) (hk : sc.kind = .function) : EO (compEnvC sc cl C env) (compTb tb sc.names) where
  tb := relabel_names eo
  kind := hk
  gl := eo.gl
  bl := eo.bl
structure CMid (Z : Wd) (St : Heap → Prop) (wr fp : List Addr) (Da Ca : Addr) (ρ ρ1 : List Addr) (h0 : Heap) (cenv : Env) (nl : List Str) (lsT : List AV) (us : List Value) (ws : List AV) (H : Hp) (ρ' : List Addr) (h : Heap) : Prop where
  st : St h
  R : HR Z ρ' H h
  G : Grow (Da :: Ca :: wr) ρ ρ' h0 h
  L : LR Z cenv nl lsT ρ' h
  D : listAt h Da us
  Dρ : Da ∉ ρ'
  wρ : ∀ b ∈ wr, b ∉ ρ'
  pre : ρ1 <+: ρ'
  fl : ∀ b ∈ fp, ∃ o, h.get? b = some o
  vr : VRs Z ρ' ws us
theorem CMid.step {St : Heap → Prop} {wr fp : List Addr} {Da Ca : Addr} {ρ ρ1 : List Addr} {h0 : Heap} {cenv : Env} {nl : List Str} {lsT : List AV} {us : List Value} {ws : List AV} {H H' : Hp} {ρ' ρ'' : List Addr} {h h' : Heap}
    (m : CMid Z St wr fp Da Ca ρ ρ1 h0 cenv nl lsT us ws H ρ' h) (hfr : ∀ h h', St h → (∀ b ∈ fp, ∀ o, h.get? b = some o → h'.get? b = some o) → St h') (hl : ∀ h, St h → ∀ b ∈ wr, ∃ o, h.get? b = some o)
    (R' : HR Z ρ'' H' h') (G' : Grow [] ρ' ρ'' h h') (hx : ∀ b ∈ fp, ∀ o, h.get? b = some o → h'.get? b = some o) : CMid Z St wr fp Da Ca ρ ρ1 h0 cenv nl lsT us ws H' ρ'' h' where
  st := hfr _ _ m.st hx
  R := R'
  G := m.G.trans (G'.wide (by simp))
  L := m.L.grow G'
  D := let ⟨n, e⟩ := m.D; ⟨n, G'.keep _ _ m.Dρ (by simp) e⟩
  Dρ := fun q => (G'.new _ q).elim m.Dρ fun e => by obtain ⟨n, e'⟩ := m.D; rw [e] at e'; cases e'
  wρ := fun b hb q => (G'.new _ q).elim (m.wρ b hb) fun e => by obtain ⟨o, e'⟩ := hl _ m.st b hb; rw [e] at e'; cases e'
  pre := m.pre.trans G'.pre
  fl := fun b hb => let ⟨o, e⟩ := m.fl b hb; ⟨o, hx b hb o e⟩
  vr := m.vr.mono G'.pre
/-- a comprehension's turn, in the mini text -/
noncomputable def cstep (P : PI) (F : Fun) (tn : Nat) (cond : List E) (elt : E) (caps : List AV) (it : List AV) (H : Hp) (K : QO) : Prop := it.length = tn ∧ evTest P F cond (caps ++ it) H (fun H K => ev P F elt (caps ++ it) H (kSome K)) K
theorem comp_turn {cap : List Nat} {k : IK} {src : List E} {tn : Nat} {cond : List E} {elt : E} {el tg it : Expr} {ifs : List Expr} {sc : Scope} {cs ts : List Str} {is : List Nat} (C : CompOk Z tb nl F d cap k src tn cond elt el tg it ifs sc cs ts is)
    {A : Around} {s : Shared} {St : Heap → Prop} {wr fp : List Addr} {Da Ca : Addr} {ρ ρ1 : List Addr} {cenv : Env} {lsT : List AV} {us : List Value} {ws : List AV} {H3 : Hp} {ρ' : List Addr} {h4 : Heap} {tk4 : Nat} {K : QO} {I : Shared → Prop}
    (M4 : CMid Z St wr fp Da Ca ρ ρ1 s.heap cenv (cs ++ ts) lsT us ws H3 ρ' h4) (eo : EO cenv (compTb tb sc.names)) (hA : AOk d A)
    (hfr : ∀ h h', St h → (∀ b ∈ fp, ∀ o, h.get? b = some o → h'.get? b = some o) → St h') (hl : ∀ h, St h → ∀ b ∈ wr, ∃ o, h.get? b = some o) (hkf : k ≠ .keys → ∀ b ∈ fp, b ∈ wr)
    (hfD : ∀ b ∈ fp, b ≠ Da) (hXD : ∀ b ∈ XE cenv, b ≠ Da) (hDb : Z.h₀.get? Da = none) (hz : ws.length ≤ 1000000)
    (hstep : evTest Z.P F cond lsT H3 (fun H K => ev Z.P F elt lsT H (kSome K)) K)
    (hI : ∀ ov H4 h5 tk5 ρ5 us5, K ov H4 → CMid Z St wr fp Da Ca ρ ρ1 s.heap cenv (cs ++ ts) lsT us5 (ws ++ ov.toList) H4 ρ5 h5 → I { s with heap := h5, toks := tk5 }) :
    wpAny (model Z.prog Z.w) A (forIn ifs true fun c r => if r = true then do let ok ← isTrue c cenv (eval c cenv); pure (ForInStep.yield ok) else pure (ForInStep.yield r)) (fun ok s₄ =>
      if ok = true then wpAny (model Z.prog Z.w) A (eval el cenv) (fun x s₅ =>
        wpAny (model Z.prog Z.w) A (call (.builtin "list.append") [.ref Da, x]) (fun _ s₆ => I s₆) (fun _ _ => False) s₅) (fun _ _ => False) s₄
      else I s₄) (fun _ _ => False) { s with heap := h4, toks := tk4 } := by
  -- the element's value laid at the list's end
  have lay : ∀ {H5 : Hp} {h5 : Heap} {tk5 : Nat} {ρ5 : List Addr} {x : AV} {x' : Value}, CMid Z St wr fp Da Ca ρ ρ1 s.heap cenv (cs ++ ts) lsT us ws H5 ρ5 h5 → VR Z ρ5 x x' → K (some x) H5 →
      wpAny (model Z.prog Z.w) A (call (.builtin "list.append") [.ref Da, x']) (fun _ s₆ => I s₆) (fun _ _ => False) { s with heap := h5, toks := tk5 } := by
    intro H5 h5 tk5 ρ5 x x' M rx q
    obtain ⟨n, e⟩ := M.D
    have hlen := M.vr.length
    refine wpAny_list_append_plain (s := { s with heap := h5, toks := tk5 }) (items := us.toArray) ⟨n, e⟩ (fun h6 hp hs => ?_) (by simp [hlen, size24]; lia)
    replace hs : Heap.SameBut Da h5 h6 := hs
    obtain ⟨n6, hn6⟩ := hp
    have hkx : ∀ b, b ≠ Da → ∀ o, h5.get? b = some o → h6.get? b = some o := fun b hb o e => (hs.2 b hb).trans e
    exact hI (some x) H5 h6 tk5 ρ5 (us ++ [x']) q ⟨hfr _ _ M.st fun b hb o e => hkx b (hfD b hb) o e, M.R.off M.Dρ hDb hs, M.G.trans (Grow.off (.head _) hs ⟨_, hn6⟩), M.L.keeps fun b hb o e => hkx b (hXD b hb) o e, ⟨n6, by rw [hn6]; simp⟩, M.Dρ, M.wρ, M.pre, fun b hb => let ⟨o, e⟩ := M.fl b hb; ⟨o, hkx b (hfD b hb) o e⟩, M.vr.append ⟨rx, trivial⟩⟩
  have elem : ∀ {H5 : Hp} {h5 : Heap} {tk5 : Nat} {ρ5 : List Addr}, CMid Z St wr fp Da Ca ρ ρ1 s.heap cenv (cs ++ ts) lsT us ws H5 ρ5 h5 → ev Z.P F elt lsT H5 (kSome K) →
      wpAny (model Z.prog Z.w) A (eval el cenv) (fun x s₅ => wpAny (model Z.prog Z.w) A (call (.builtin "list.append") [.ref Da, x]) (fun _ s₆ => I s₆) (fun _ _ => False) s₅) (fun _ _ => False) { s with heap := h5, toks := tk5 } := by
    intro H5 h5 tk5 ρ5 M hx
    by_cases hk : k = .keys
    · refine Wp.mono ((C.hkeys hk).2 cenv lsT H5 _ A { s with heap := h5, toks := tk5 } ρ5 ⟨eo, hA, M.R, M.L⟩ hx) ?_
      rintro x' _ ⟨⟨x, H6, h6, tk6, ρ6, q, R6, G6, r6⟩, hext⟩
      exact lay (M.step hfr hl R6 G6 fun b _ o e => hext b o e) r6 q
    · refine Wp.mono (C.helt cenv lsT H5 _ A { s with heap := h5, toks := tk5 } ρ5 ⟨eo, hA, M.R, M.L⟩ hx) ?_
      rintro x' _ ⟨x, H6, h6, tk6, ρ6, q, R6, G6, r6⟩
      exact lay (M.step hfr hl R6 G6 fun b hb o e => G6.keep b o (M.wρ b (hkf hk b hb)) (List.not_mem_nil) e) r6 q
  rcases C.hcond with ⟨rfl, rfl⟩ | ⟨c, x, rfl, rfl, htr⟩
  · refine wpAny_tests_nil ?_
    rw [if_pos rfl]
    exact elem M4 hstep
  · have hk : k ≠ .keys := fun q => by have := (C.hkeys q).1; cases this
    refine wpAny_tests_one ?_
    refine Wp.mono (htr cenv lsT H3 _ A { s with heap := h4, toks := tk4 } ρ' ⟨eo, hA, M4.R, M4.L⟩ hstep fun _ _ h => asB_is h) ?_
    rintro ok _ ⟨H5, h5, tk5, ρ5, q, R5, G5⟩
    have M5 := M4.step hfr hl R5 G5 fun b hb o e => G5.keep b o (M4.wρ b (hkf hk b hb)) (List.not_mem_nil) e
    cases ok with
    | true => exact elem M5 (q.t rfl)
    | false => exact hI none H5 h5 tk5 ρ5 us (q.f rfl) (by rw [Option.toList_none, List.append_nil]; exact M5)
/-- where a comprehension's loop stands -/
inductive CInv (Z : Wd) (St : Nat → Heap → Prop) (wr fp : List Addr) (Da Ca : Addr) (ρ ρ1 : List Addr) (s : Shared) (cenv : Env) (nl : List Str) (caps : List AV) (tn : Nat) (g : Option (Nat × AO)) (step : List AV → Hp → QO → Prop) (its : List (List AV)) (Q : QL) (n : Nat) : Shared → Prop
  | mk (h' : Heap) (tk : Nat) (ρ' : List Addr) (H3 : Hp) (i : Nat) (old : List AV) (us : List Value) (ws : List AV) (M : CMid Z (St i) wr fp Da Ca ρ ρ1 s.heap cenv nl (caps ++ old) us ws H3 ρ' h') (ho : old.length = tn) (hw : ws.length ≤ i)
      (hc : compL g step (its.drop i) H3 fun ws' H2 => Q (ws ++ ws') H2) (hi : i ≤ its.length) (hn : n = its.length + 1 - i) : CInv Z St wr fp Da Ca ρ ρ1 s cenv nl caps tn g step its Q n { s with heap := h', toks := tk }
theorem drop_cons {α : Type} {l r : List α} {x : α} {i : Nat} (h : l.drop i = x :: r) : i < l.length ∧ l[i]? = some x ∧ l.drop (i + 1) = r := by
  have h1 := congrArg List.length h
  have h2 := congrArg List.head? h
  have h3 := congrArg List.tail h
  rw [List.head?_drop] at h2
  rw [List.tail_drop] at h3
  rw [List.length_drop, List.length_cons] at h1
  exact ⟨by lia, h2, h3⟩
theorem comp_loop {cap : List Nat} {k : IK} {src : List E} {tn : Nat} {cond : List E} {elt : E} {el tg it : Expr} {ifs : List Expr} {sc : Scope} {cs ts : List Str} {is : List Nat} (C : CompOk Z tb nl F d cap k src tn cond elt el tg it ifs sc cs ts is)
    {pos : Pos} {A : Around} {s : Shared} {St : Nat → Heap → Prop} {wr fp : List Addr} {Da Ca I : Addr} {ρ ρ1 : List Addr} {cenv : Env} {caps old : List AV} {g : Option (Nat × AO)} {its : List (List AV)} {H1 : Hp} {Q : QL} {h2 : Heap} {tk2 : Nat} {RR : Result → Shared → Prop}
    (hItr : Itr Z A ρ1 g its tg I fp wr St) (eo : EO cenv (compTb tb sc.names)) (hA : AOk d A) (hXw : ∀ b ∈ XE cenv, b ∉ wr ∧ b ≠ Da) (hloc : cenv.locals = Ca) (hkf : k ≠ .keys → ∀ b ∈ fp, b ∈ wr) (hf : ∀ b ∈ fp, b ≠ Da ∧ b ≠ Ca)
    (hDw : Da ∉ wr) (hCw : Ca ∉ wr) (hDC : Da ≠ Ca) (hDb : Z.h₀.get? Da = none) (hwb : ∀ b ∈ wr, Z.h₀.get? b = none) (hDs : s.heap.get? Da = none) (hCs : s.heap.get? Ca = none) (hwf : ∀ b ∈ wr, s.heap.get? b = none) (hcl : caps.length = cs.length) (hz : its.length ≤ 1000000)
    (hR : ∀ us ws H2 ρ' h3 tk3, Q ws H2 → HR Z ρ' H2 h3 → Grow [] ρ ρ' s.heap h3 → listAt h3 Da us → VRs Z ρ' ws us → Da ∉ ρ' → Ca ∉ ρ' → (∃ m, h3.Ns Ca m) → RR (.ok .next) { s with heap := h3, toks := tk3 })
    (M : CMid Z (St 0) wr fp Da Ca ρ ρ1 s.heap cenv (cs ++ ts) (caps ++ old) [] [] H1 ρ1 h2) (ho : old.length = tn) (hL : compL g (cstep Z.P F tn cond elt caps) its H1 Q) :
    codeAny (model Z.prog Z.w) A (.compLoop (.ListComp el [⟨tg, it, ifs, 0⟩] sc pos) 0 (.ref I) (.ref Da) cenv) RR { s with heap := h2, toks := tk2 } := by
  refine compLoop_any (CInv Z St wr fp Da Ca ρ ρ1 s cenv (cs ++ ts) caps tn g (cstep Z.P F tn cond elt caps) its Q) ?_ (its.length + 1) ⟨h2, _, ρ1, H1, 0, old, [], [], M, ho, Nat.le_refl _, hL, Nat.zero_le _, rfl⟩
  rintro n _ ⟨h', tk, ρ', H3, i, old, us, ws, M', hold, hwl, hcl', hil, rfl⟩
  obtain ⟨hst', R', G', L', ⟨nn, hD'⟩, hDρ, hwρ', hpre, hfl', hrv⟩ := M'
  cases hdr : its.drop i with
  | nil =>
    have hi' : i = its.length := drop_end hdr hil
    subst hi'
    rw [hdr] at hcl'
    obtain ⟨hkept, q⟩ := hcl'
    rw [List.append_nil] at q
    refine wpAny_mono (hItr.done H3 ρ' { s with heap := h', toks := tk } (fun r s1 => r = none ∧ RR (.ok .next) s1) hkept hpre hwρ' R' hst' fun h3 tk3 hk3 => ⟨rfl, ?_⟩) (fun r s1 q => by obtain ⟨rfl, q⟩ := q; exact q) fun _ _ q => q
    refine hR us ws H3 ρ' h3 tk3 q (R'.tail hwρ' hwb hk3) ((G'.drop0 fun x hx => ?_).tail hwf hk3) ⟨nn, hk3 _ _ hDw hD'⟩ hrv hDρ (hloc ▸ L'.offL) ?_
    · rcases List.mem_cons.mp hx with rfl | hx
      · exact hDs
      · rcases List.mem_cons.mp hx with rfl | hx
        · exact hCs
        · exact hwf x hx
    · obtain ⟨m', ⟨o, es, ep, ho, r⟩, _⟩ := L'.ns
      rw [hloc] at ho
      exact ⟨m', o, es, ep, hk3 _ _ hCw ho, r⟩
  | cons itm rest =>
    obtain ⟨hilt, hig, hrest⟩ := drop_cons hdr
    rw [hdr] at hcl'
    obtain ⟨hkept, htl, hstep⟩ := hcl'
    refine wpAny_mono (hItr.item i itm H3 ρ' { s with heap := h', toks := tk } (fun v s2 => Wp Z A (assign tg cenv v) (fun _ s₃ =>
        wpAny (model Z.prog Z.w) A (forIn ifs true fun c r => if r = true then do let ok ← isTrue c cenv (eval c cenv); pure (ForInStep.yield ok) else pure (ForInStep.yield r)) (fun ok s₄ =>
          if ok = true then wpAny (model Z.prog Z.w) A (eval el cenv) (fun x s₅ =>
            wpAny (model Z.prog Z.w) A (call (.builtin "list.append") [.ref Da, x]) (fun _ s₆ => ∃ m, m < its.length + 1 - i ∧ CInv Z St wr fp Da Ca ρ ρ1 s cenv (cs ++ ts) caps tn g (cstep Z.P F tn cond elt caps) its Q m s₆) (fun _ _ => False) s₅) (fun _ _ => False) s₄
          else ∃ m, m < its.length + 1 - i ∧ CInv Z St wr fp Da Ca ρ ρ1 s cenv (cs ++ ts) caps tn g (cstep Z.P F tn cond elt caps) its Q m s₄) (fun _ _ => False) s₃) s2) hig hkept hpre hwρ' R' hst' fun v h3 tk3 hk3 hst3 hiv => ?_) (fun r s1 q => by
      cases r with
      | none => exact q.elim
      | some v => exact q) fun _ _ q => q
    have L3 := L'.keeps fun b hb o e => hk3 b o (hXw b hb).1 e
    refine asg_sound (s := { s with heap := h3, toks := tk3 }) hA.hh eo C.hnd (R'.tail hwρ' hwb hk3) L3 (C.htx cenv) C.htg hiv fun h4 tk4 R4 G4 L4 hk4 => ?_
    rw [C.hset caps old itm hcl hold htl] at L4
    have hk4' : ∀ b o, b ≠ Ca → h3.get? b = some o → h4.get? b = some o := fun b o hb e => hk4 b o (fun m => by
      cases m with
      | head => exact hb hloc
      | tail _ m => cases m) e
    have M4 : CMid Z (St (i + 1)) wr fp Da Ca ρ ρ1 s.heap cenv (cs ++ ts) (caps ++ itm) us ws H3 ρ' h4 := by
      refine ⟨hItr.frame _ _ _ hst3 fun b hb o e => hk4' b o (hf b hb).2 e, R4, (G'.trans ((Grow.writes hk3 (hItr.live _ _ hst3)).wide fun x hx => .tail _ (.tail _ hx))).trans (G4.wide fun x hx => ?_), L4, ⟨nn, hk4' _ _ hDC (hk3 _ _ hDw hD')⟩, hDρ, hwρ', hpre, fun b hb => ?_, hrv⟩
      · cases hx with
        | head => rw [hloc]; exact .tail _ (.head _)
        | tail _ hx => cases hx
      · have : ∃ o, h3.get? b = some o := by
          by_cases q : b ∈ wr
          · exact hItr.live _ _ hst3 b q
          · obtain ⟨o, e⟩ := hfl' b hb; exact ⟨o, hk3 b o q e⟩
        obtain ⟨o, e⟩ := this
        exact ⟨o, hk4' _ _ (hf b hb).2 e⟩
    refine comp_turn (s := s) (ws := ws) C M4 eo hA (fun h h' => hItr.frame (i + 1) h h') (fun h => hItr.live (i + 1) h) hkf (fun b hb => (hf b hb).1) (fun b hb => (hXw b hb).2) hDb (by lia) hstep fun ov H4 h5 tk5 ρ5 us5 q M5 => ?_
    refine ⟨its.length + 1 - (i + 1), turn_lt hilt, h5, tk5, ρ5, H4, i + 1, itm, us5, ws ++ ov.toList, M5, htl, ?_, ?_, hilt, rfl⟩
    · rw [List.length_append]
      cases ov with
      | none => exact Nat.le_succ_of_le hwl
      | some _ => exact Nat.succ_le_succ hwl
    · rw [hrest]
      have e : (fun ws' H2 => Q (ws ++ ov.toList ++ ws') H2) = kOpt ov (fun ws' H2 => Q (ws ++ ws') H2) := by
        funext ws' H2
        show Q _ _ = Q _ _
        rw [List.append_assoc]
      rw [e]
      exact q
end
end Mine
end
-- U16
section
set_option tactic.hygienic false
namespace Mine
open PySem PySem.W PyProof.Rows PySem.Calls PySem.SeqAt
section
variable {Z : Wd} {tb : Tb} {nl : List Str} {F : Fun} {d : Nat}
/-- the locals of a comprehension's block, where it begins -/
theorem comp_locals {cap : List Nat} {k : IK} {src : List E} {tn : Nat} {cond : List E} {elt : E} {el tg it : Expr} {ifs : List Expr} {sc : Scope} {cs ts : List Str} {is : List Nat} (C : CompOk Z tb nl F d cap k src tn cond elt el tg it ifs sc cs ts is)
    {env : Env} {ls caps : List AV} {ρ : List Addr} {H : Hp} {h1 h2 : Heap} {Ca : Addr} {m : Str → Option Value} (eo : EO env tb) (R1 : HR Z ρ H h1) (L1 : LR Z env nl ls ρ h1) (hCn : h1.get? Ca = none) (hk2 : ∀ b o, h1.get? b = some o → h2.get? b = some o) (hns2 : h2.Ns Ca m)
    (hcl : caps.length = cs.length) (hcg : ∀ (j : Nat) (x : Str), cs[j]? = some x → ∃ (i : Nat) (v : AV), nl[i]? = some x ∧ ls[i]? = some v ∧ caps[j]? = some v) :
    LR Z (compEnvC sc (clo env.cells sc.names []) Ca env) (cs ++ ts) (caps ++ List.replicate tn .unb) ρ h2 := by
  have eo' : EO (compEnvC sc (clo env.cells sc.names []) Ca env) (compTb tb sc.names) := comp_env eo C.hkind
  have hclm : ∀ p ∈ clo env.cells sc.names [], p ∈ env.cells := fun p m => by
    rcases clo_mem m with h | h
    · cases h
    · exact mem_of_lookup h.1
  have kcell : ∀ x ∈ cs, (compTb tb sc.names).lookup x = some .cell := fun x hx => by
    obtain ⟨q1, q2⟩ := C.hcap x hx
    rw [compTb_get, q1]; simp [q2]
  have kloc : ∀ x ∈ ts, (compTb tb sc.names).lookup x = some .local := fun x hx => by
    rw [compTb_get, C.htl x hx]; simp
  refine ⟨by simp [hcl, C.htn], ⟨_, hns2, fun i x u h1' h2' h3 h4 => ?_⟩, fun i x u h1' h2' h4 => ?_, fresh_rho R1 hCn, fun p hp => L1.offC p (hclm p hp), none_base R1 hCn, fun p hp => L1.newC p (hclm p hp), fun p hp => let ⟨o, ho⟩ := L1.liveC p (hclm p hp); ⟨o, hk2 _ _ ho⟩, fun p hp q => ?_, clo_apart L1.apartC C.hnn⟩
  · rw [kind_of eo'] at h4
    by_cases hi : i < cs.length
    · rw [List.getElem?_append_left hi] at h1'
      rw [kcell x (List.mem_of_getElem? h1')] at h4; cases h4
    · rw [List.getElem?_append_right (by lia)] at h2'
      have := List.mem_of_getElem? h2'
      rw [List.mem_replicate] at this
      exact absurd this.2 h3
  · rw [kind_of eo'] at h4
    by_cases hi : i < cs.length
    · rw [List.getElem?_append_left hi] at h1'
      obtain ⟨i', w, g1, g2, g3⟩ := hcg i x h1'
      rw [List.getElem?_append_left (by lia), g3] at h2'
      cases h2'
      have hx := List.mem_of_getElem? h1'
      obtain ⟨c, v0, hc, ⟨o, ho, hd⟩, hq⟩ := L1.cells i' x u g1 g2 (by rw [kind_of eo]; exact (C.hcap x hx).2)
      exact ⟨c, v0, clo_lookup hc (mem_of_lookup (C.hcap x hx).1), ⟨o, hk2 _ _ ho, hd⟩, hq⟩
    · rw [List.getElem?_append_right (by lia)] at h1'
      rw [kloc x (List.mem_of_getElem? h1')] at h4; cases h4
  · obtain ⟨o, ho⟩ := L1.liveC p (hclm p hp)
    have q : p.2 = Ca := q
    rw [q, hCn] at ho; cases ho
theorem comp_run (W : WF Z) {cap : List Nat} {k : IK} {src : List E} {tn : Nat} {cond : List E} {elt : E} {el tg it : Expr} {ifs : List Expr} {sc : Scope} {cs ts : List Str} {is : List Nat} (C : CompOk Z tb nl F d cap k src tn cond elt el tg it ifs sc cs ts is)
    {pos p : Pos} {env : Env} {ls : List AV} {H : Hp} {QV : QV} {A : Around} {s : Shared} {ρ : List Addr} {use : Option (Value → Sem Unit)} {Q : Value → Shared → Prop}
    (X : Sx Z tb nl d env A ls H s ρ) (hv : ev Z.P F (.comp cap k src tn cond elt) ls H QV)
    (hK : ∀ v H' h' tk ρ' D C m, QV v H' → HR Z ρ' H' h' → Grow [] ρ ρ' s.heap h' → VR Z ρ' v (.ref D) → C ∉ ρ' → s.heap.get? C = none → h'.Ns C m → compPost (model Z.prog Z.w) A (fun _ _ => False) use Q (.ref D) C (.ok .next) { s with heap := h', toks := tk }) :
    Wp Z A (comprehension (.ListComp el [⟨tg, it, ifs, 0⟩] sc pos) sc env p (newList []) false (eval it env) use) Q s := by
  obtain ⟨caps, hcaps, hv⟩ := hv
  obtain ⟨hcl, hcg⟩ := cap_get C.hcs.2 hcaps
  rw [← C.hcs.1] at hcl hcg
  have L := X.L
  have hclos : closureFor sc env = pure (clo env.cells sc.names []) := closureFor_eq fun p hp hf => by
    have hx := C.hfree p hp hf
    obtain ⟨j, hj⟩ := List.getElem?_of_mem hx
    obtain ⟨i, u, h1, h2, _⟩ := hcg j p.1 hj
    obtain ⟨c, v0, hc, _⟩ := L.cells i p.1 u h1 h2 (by rw [kind_of X.eo]; exact (C.hcap p.1 hx).2)
    exact ⟨c, hc⟩
  refine wpAny_comprehension_free (use := use) rfl (C.hfs env) hclos C.hkind C.hlocal ?_
  refine (iter_sound (K := fun its g H => its.length ≤ 1000000 ∧ compL g (cstep Z.P F tn cond elt caps) its H (kList QV)) W C.hit X hv).mono fun xv s1 hx => hx.mono ?_
  rintro itv _ ⟨its, g, H1, _, ⟨hz, hL⟩, ⟨I, fp, wr, St, h1, tk1, ρ1, rfl, hItr, hst, R1, G1, hwρ, hwf, hfl, hkf, hfr⟩⟩
  refine wpAny_newList (s := { s with heap := h1, toks := tk1 }) ?_ (by decide)
  refine wpAny_newFunctionEnv (s := { s with heap := h1.push { cls := .type "list", data := .seq ([] : List Value).toArray }, toks := tk1 }) C.hcell (by intro y hy; simp at hy) (fun h2 hns2 hsb2 => ?_) C.hkind
  dsimp only at hns2 hsb2 ⊢
  generalize hHD : h1.push { cls := .type "list", data := .seq ([] : List Value).toArray } = hD at hns2 hsb2 ⊢
  have hCsz : hD.objs.size = h1.objs.size + 1 := by rw [← hHD, Heap.size_push]
  generalize hCC : hD.objs.size = Ca at hns2 hsb2 hCsz ⊢
  generalize hDD : h1.objs.size = Da at hCsz ⊢
  have hDCne : Da ≠ Ca := by rw [hCsz]; exact Nat.ne_of_lt (Nat.lt_succ_self _)
  have hbelow : ∀ b o, h1.get? b = some o → b ≠ Da ∧ b ≠ Ca := fun b o e => by
    have := Heap.lt_size e
    rw [hDD] at this
    exact ⟨Nat.ne_of_lt this, by rw [hCsz]; exact Nat.ne_of_lt (Nat.lt_succ_of_lt this)⟩
  have hk2 : ∀ b o, h1.get? b = some o → h2.get? b = some o := fun b o e => hsb2.extBut b o (hbelow b o e).2 (Heap.get?_push_of_some _ (hHD ▸ Heap.get?_push_of_some _ e))
  have hDn : h1.get? Da = none := by rw [← hDD]; exact none_size
  have hCn : h1.get? Ca = none := by
    cases e : h1.get? Ca with
    | none => rfl
    | some o => exact absurd rfl (hbelow _ _ e).2
  have hDl : listAt h2 Da [] := ⟨0, hsb2.extBut _ _ hDCne (Heap.get?_push_of_some _ (by rw [← hHD, ← hDD]; exact Heap.get?_push_size _ rfl))⟩
  have L1 : LR Z env nl ls ρ1 h1 := L.grow G1
  have L2 := comp_locals C X.eo R1 L1 hCn hk2 hns2 hcl hcg
  have hwn : ∀ {a : Addr}, h1.get? a = none → a ∉ wr := fun ha m => by
    obtain ⟨o, e⟩ := hItr.live _ _ hst _ m
    rw [ha] at e; cases e
  have hXc : ∀ b ∈ XE (compEnvC sc (clo env.cells sc.names []) Ca env), b ∉ wr ∧ b ≠ Da := fun b hb => by
    have : b = Ca ∨ b ∈ XE env := by
      simp only [XE, List.mem_cons, List.mem_map] at hb ⊢
      rcases hb with rfl | ⟨p, hp, rfl⟩
      · exact .inl rfl
      · refine .inr (.inr ⟨p, ?_, rfl⟩)
        rcases clo_mem hp with h | h
        · cases h
        · exact mem_of_lookup h.1
    rcases this with rfl | hb
    · exact ⟨hwn hCn, hDCne.symm⟩
    · obtain ⟨o, e⟩ := L.liveX b hb
      obtain ⟨o', e'⟩ := L1.liveX b hb
      exact ⟨fun m => (by rw [hwf b m] at e; cases e), (hbelow b o' e').1⟩
  have eo' : EO (compEnvC sc (clo env.cells sc.names []) Ca env) (compTb tb sc.names) := comp_env X.eo C.hkind
  have hloc : (compEnvC sc (clo env.cells sc.names []) Ca env).locals = Ca := rfl
  generalize hce : compEnvC sc (clo env.cells sc.names []) Ca env = cenv at L2 hXc eo' hloc
  have hDb := none_base R1 hDn
  have hDs := grow_none G1 hDn
  have hCs := grow_none G1 hCn
  have M0 : CMid Z (St 0) wr fp Da Ca ρ ρ1 s.heap cenv (cs ++ ts) (caps ++ List.replicate tn .unb) [] [] H1 ρ1 h2 :=
    ⟨hItr.frame _ _ _ hst (fun b _ o e => hk2 b o e), R1.ext hk2, (G1.trans (Grow.ext hk2)).wide (fun _ h => by cases h), L2, hDl, fresh_rho R1 hDn, hwρ, List.prefix_rfl, fun b hb => let ⟨o, e⟩ := hfl b hb; ⟨o, hk2 _ _ e⟩, trivial⟩
  have loop := comp_loop (pos := pos) (tk2 := tk1 + ([] : List (Str × Value)).length) (RR := compPost (model Z.prog Z.w) A (fun _ _ => False) use Q (.ref Da) Ca) C hItr eo' X.hA hXc hloc (fun q => hkf q) (fun b hb => let ⟨o, e⟩ := hfl b hb; hbelow b o e) (hwn hDn) (hwn hCn) hDCne hDb (fun b hb => by
      cases e : Z.h₀.get? b with
      | none => rfl
      | some o => have q := X.R.base b o e; rw [hwf b hb] at q; cases q) hDs hCs hwf hcl hz
    (fun us ws H2 ρ' h3 tk3 q R3 G3 hD3 hrv hDρ hCρ hm => hK (.ref H2.length) (H2 ++ [.list ws]) h3 tk3 (ρ' ++ [Da]) Da Ca hm.choose q (R3.adopt (o := .list ws) hDρ hDb ⟨rfl, fun _ _ => rfl⟩ ⟨us, hD3, hrv.mono (List.prefix_append ..)⟩) (G3.more hDs) ⟨Da, by rw [← R3.len]; simp, rfl⟩ (fun m => by
      rcases List.mem_append.mp m with m | m
      · exact hCρ m
      · simp at m; exact hDCne m.symm) hCs hm.choose_spec) M0 (by simp) hL
  have st := M0.st
  subst hce
  exact codeAny_compStart_list loop (wpAny_mono (hItr.self 0 _ _ st loop) (fun _ _ q => q) fun _ _ q => q.elim)
variable (Z) in
inductive PS (ρ : List Addr) (s : Shared) (H : Hp) (Q : QV) (v' : Value) : Shared → Prop
  | mk (v : AV) (h' : Heap) (tk : Nat) (q : Q v H) (r : VR Z ρ v v') (k : ∀ b o, s.heap.get? b = some o → h'.get? b = some o) : PS ρ s H Q v' { s with heap := h', toks := tk }
variable (Z tb nl F d) in
/-- an expression that leaves the heap as it is -/
def EvSt (e : E) (x : Expr) : Prop := ∀ env ls H Q A s ρ, Sx Z tb nl d env A ls H s ρ → ev Z.P F e ls H Q → Wp Z A (eval x env) (PS Z ρ s H Q) s
theorem evSt_loc {i : Nat} {x : Str} {p : Pos} (hn : nl[i]? = some x) (hl : isLoc tb x = true) : EvSt Z tb nl F d (.loc i) (.Name x p) := by
  intro env ls H Q A s ρ X hv
  have hv := locQ_inv hv
  cases e : ls[i]? with
  | none => rw [e] at hv; cases hv
  | some v =>
    rw [e] at hv
    cases hv with | mk _ n q =>
    exact load_loc X hn hl e n fun v' r => ⟨v, s.heap, s.toks, q, r, fun _ _ e => e⟩
theorem evSt_addi {a b : E} {l r : Expr} {p : Pos} (h1 : EvSt Z tb nl F d a l) (h2 : EvSt Z tb nl F d b r) : EvSt Z tb nl F d (.bin .addi a b) (.BinOp l .Add r p) := by
  intro env ls H Q A s ρ X hv
  refine wpAny_BinOp ((h1 env ls H _ A s ρ X hv).mono ?_)
  rintro u' _ ⟨u, h', tk, hv, ru, k1⟩
  refine (h2 env ls H _ A { s with heap := h', toks := tk } ρ (X.go (X.R.ext k1) (Grow.ext k1)) hv).mono ?_
  rintro w' _ ⟨w, h2', tk2, ⟨v, H3, e, q⟩, rw', k2⟩
  simp only [evBin, evAddI] at e
  split at e
  · obtain ⟨t, rfl⟩ := ru; obtain ⟨t2, rfl⟩ := rw'; cases e
    exact add_int ⟨_, h2', _, q, ⟨_, rfl⟩, fun b o e => k2 b o (k1 b o e)⟩
  · cases e
theorem evSt_idx (W : WF Z) {a b : E} {l r : Expr} {p : Pos} (hs : ∀ o i, subscripted r false o i = operate [o, i] (getItem o i)) (h1 : EvSt Z tb nl F d a l) (h2 : EvSt Z tb nl F d b r) : EvSt Z tb nl F d (.idx a b) (.Subscript l r p) := by
  intro env ls H Q A s ρ X hv
  refine Subscript_ ((h1 env ls H _ A s ρ X hv).mono ?_)
  rintro u' _ ⟨u, h', tk, hv, ru, k1⟩
  refine (h2 env ls H _ A { s with heap := h', toks := tk } ρ (X.go (X.R.ext k1) (Grow.ext k1)) hv).mono ?_
  rintro w' _ ⟨w, h2', tk2, ⟨r, er, q⟩, rw', k2⟩
  obtain ⟨T, id, hT, hl, hw⟩ := idx_still (s := { s with heap := h2', toks := tk2 }) (A := A) W.toWF0 ((X.R.ext k1).ext k2) ru rw' er
  refine tail_any hT hl (hw.mono ?_) (hs _ _)
  rintro v' _ ⟨rv, tk3, rfl⟩
  exact ⟨r, h2', tk3, q, rv, fun b o e => k2 b o (k1 b o e)⟩
theorem evX_pair {a b : E} {x y : Expr} {k : Nat} {p : Pos} (ha : Plains [x, y]) (h1 : EvSt Z tb nl F d a x) (h2 : EvSt Z tb nl F d b y) : EvX Z tb nl F d (.tup [a, b]) (.Tuple [x, y] k p) := by
  intro env ls H Q A s ρ X hv
  refine Tuple_ ?_
  rw [args_eq ha]
  refine spliced_cons ((h1 env ls H _ A s ρ X hv).mono ?_)
  rintro u' _ ⟨u, h', tk, hv, ru, k1⟩
  refine spliced_cons ((h2 env ls H _ A { s with heap := h', toks := tk } ρ (X.go (X.R.ext k1) (Grow.ext k1)) hv).mono ?_)
  rintro w' _ ⟨w, h2', tk2, q, rw', k2⟩
  refine spliced_nil (wpAny_newTuple ?_ (by show 2 ≤ sizeLine; decide))
  exact ⟨PV.fin (tk1 := tk2) q ((Grow.ext k1).trans (Grow.ext k2)) (PV.made (tk := tk2) (s := { s with heap := h2', toks := tk2 }) ((X.R.ext k1).ext k2) (tup_new ⟨ru, rw', trivial⟩)), fun b o e => Heap.get?_push_of_some _ (k2 b o (k1 b o e))⟩
/-- a comprehension as an expression -/
theorem ev_comp (W : WF Z) {cap : List Nat} {k : IK} {src : List E} {tn : Nat} {cond : List E} {elt : E} {el tg it : Expr} {ifs : List Expr} {sc : Scope} {cs ts : List Str} {is : List Nat} {pos : Pos} (C : CompOk Z tb nl F d cap k src tn cond elt el tg it ifs sc cs ts is) :
    Ev Z tb nl F d (.comp cap k src tn cond elt) (.ListComp el [⟨tg, it, ifs, 0⟩] sc pos) := by
  intro env ls H Q A s ρ X hv
  show Wp Z A (comprehension (.ListComp el [⟨tg, it, ifs, 0⟩] sc pos) sc env (firstIterPos [⟨tg, it, ifs, 0⟩] pos) (newList []) false (eval it env) none) _ s
  refine comp_run W C X hv fun v H' h' tk ρ' D Ca m q R' G' rv hCρ hCs hm => ⟨m, hm, fun h2 hs => ?_⟩
  have hCb := none_base X.R hCs
  refine ⟨v, H', h2, tk, ρ', q, R'.off hCρ hCb hs, G'.tail (wr := [Ca]) (fun b hb => ?_) (fun b o hb e => (hs.2 b fun q => hb (q ▸ .head _)).trans e), rv⟩
  cases hb with
  | head => exact hCs
  | tail _ hb => cases hb
theorem set_one {caps old vals : List AV} {n : Nat} (h1 : caps.length = n) (h2 : old.length = 1) (h3 : vals.length = 1) : setAll [n] vals (caps ++ old) = caps ++ vals := by
  subst h1
  obtain ⟨a, rfl⟩ := List.length_eq_one_iff.mp h2
  obtain ⟨b, rfl⟩ := List.length_eq_one_iff.mp h3
  simp [setAll]
theorem two_of {α : Type} {l : List α} (h : l.length = 2) : ∃ a b, l = [a, b] := by
  obtain ⟨a, t, rfl⟩ := List.exists_cons_of_length_eq_add_one h
  obtain ⟨b, rfl⟩ := List.length_eq_one_iff.mp (Nat.succ.inj h)
  exact ⟨a, b, rfl⟩
theorem set_two {caps old vals : List AV} {n : Nat} (h1 : caps.length = n) (h2 : old.length = 2) (h3 : vals.length = 2) : setAll [n, n + 1] vals (caps ++ old) = caps ++ vals := by
  subst h1
  obtain ⟨a, b, rfl⟩ := two_of h2
  obtain ⟨c, e, rfl⟩ := two_of h3
  simp [setAll, List.set_append]
end
end Mine
end
-- U17
section
set_option tactic.hygienic false
namespace Mine
open PySem PySem.W PyProof.Rows PySem.Calls PySem.SeqAt
section
variable {Z : Wd} {tb : Tb} {nl : List Str} {F : Fun} {d : Nat}
abbrev NoComp (x : Expr) : Prop := ∀ t l env, swapsWith x t l env = pure false
structure RP (x : Expr) (k : Nat) : Prop where
  plain : Plain x
  sup : k ≠ 2 → NoSup x
  comp : k ≠ 1 → NoComp x
  ntup : k ≠ 4 → ∀ ts m p env, swappedStores [.Tuple ts m p] x env = pure none
  tup : k = 4 → ∃ a b, x = .Tuple (vw x).ks a b
theorem RP.all {x : Expr} {k : Nat} (h1 : Plain x) (h2 : NoSup x) (h3 : NoComp x) (h4 : ∀ ts m p env, swappedStores [.Tuple ts m p] x env = pure none) (hk : k ≠ 4) : RP x k := ⟨h1, fun _ => h2, fun _ => h3, fun _ => h4, fun h => absurd h hk⟩
theorem RP.const {v : Const} {n : Nat} {p : Pos} {k : Nat} (hk : k ≠ 4) : RP (.Constant v n p) k := .all ⟨fun _ _ => rfl, fun _ => rfl, fun _ _ => rfl, fun _ _ => rfl⟩ (fun _ _ _ => rfl) (fun _ _ _ => rfl) (fun _ _ _ _ => rfl) hk
theorem RP.un {o : UnaryOp} {x : Expr} {p : Pos} : RP (.UnaryOp o x p) 0 := .all ⟨fun _ _ => rfl, fun _ => rfl, fun _ _ => rfl, fun _ _ => rfl⟩ (fun _ _ _ => rfl) (fun _ _ _ => rfl) (fun _ _ _ _ => rfl) nofun
theorem RP.name {x : Str} {p : Pos} : RP (.Name x p) 0 := .all ⟨fun _ _ => rfl, fun _ => rfl, fun _ _ => rfl, fun _ _ => rfl⟩ (fun _ _ _ => rfl) (fun _ _ _ => rfl) (fun _ _ _ _ => rfl) nofun
theorem RP.bin {l r : Expr} {o : Operator} {p : Pos} : RP (.BinOp l o r p) 0 := .all ⟨fun _ _ => rfl, fun _ => rfl, fun _ _ => rfl, fun _ _ => rfl⟩ (fun _ _ _ => rfl) (fun _ _ _ => rfl) (fun _ _ _ _ => rfl) nofun
theorem RP.cmp {l r : Expr} {o : CmpOp} {p : Pos} : RP (.Compare l [o] [r] p) 0 := .all ⟨fun _ _ => rfl, fun _ => rfl, fun _ _ => rfl, fun _ _ => rfl⟩ (fun _ _ _ => rfl) (fun _ _ _ => rfl) (fun _ _ _ _ => rfl) nofun
theorem RP.bo {o : BoolOp} {xs : List Expr} {p : Pos} : RP (.BoolOp o xs p) 0 := .all ⟨fun _ _ => rfl, fun _ => rfl, fun _ _ => rfl, fun _ _ => rfl⟩ (fun _ _ _ => rfl) (fun _ _ _ => rfl) (fun _ _ _ _ => rfl) nofun
theorem RP.ife {x y z : Expr} {p : Pos} : RP (.IfExp x y z p) 0 := .all ⟨fun _ _ => rfl, fun _ => rfl, fun _ _ => rfl, fun _ _ => rfl⟩ (fun _ _ _ => rfl) (fun _ _ _ => rfl) (fun _ _ _ _ => rfl) nofun
theorem RP.lst {xs : List Expr} {p : Pos} : RP (.List xs p) 0 := .all ⟨fun _ _ => rfl, fun _ => rfl, fun _ _ => rfl, fun _ _ => rfl⟩ (fun _ _ _ => rfl) (fun _ _ _ => rfl) (fun _ _ _ _ => rfl) nofun
theorem RP.tu {xs : List Expr} {n : Nat} {p : Pos} : RP (.Tuple xs n p) 4 := ⟨⟨fun _ _ => rfl, fun _ => rfl, fun _ _ => rfl, fun _ _ => rfl⟩, fun _ _ _ _ => rfl, fun _ _ _ _ => rfl, fun h => absurd rfl h, fun _ => ⟨_, _, rfl⟩⟩
theorem RP.dct {xs : List (Option Expr)} {ys : List Expr} {p : Pos} : RP (.Dict xs ys p) 0 := .all ⟨fun _ _ => rfl, fun _ => rfl, fun _ _ => rfl, fun _ _ => rfl⟩ (fun _ _ _ => rfl) (fun _ _ _ => rfl) (fun _ _ _ _ => rfl) nofun
theorem RP.cal {f : Str} {xs : List Expr} {q p : Pos} : RP (.Call (.Name f q) xs [] p) 2 := ⟨⟨fun _ _ => rfl, fun _ => rfl, fun _ _ => rfl, fun _ _ => rfl⟩, fun h => absurd rfl h, fun _ _ _ _ => rfl, fun _ _ _ _ _ => rfl, nofun⟩
theorem RP.mth {o : Expr} {a : Str} {xs : List Expr} {q p : Pos} : RP (.Call (.Attribute o a q) xs [] p) 0 := .all ⟨fun _ _ => rfl, fun _ => rfl, fun _ _ => rfl, fun _ _ => rfl⟩ (fun _ _ _ => rfl) (fun _ _ _ => rfl) (fun _ _ _ _ => rfl) nofun
theorem RP.att {o : Expr} {a : Str} {p : Pos} : RP (.Attribute o a p) 0 := .all ⟨fun _ _ => rfl, fun _ => rfl, fun _ _ => rfl, fun _ _ => rfl⟩ (fun _ _ _ => rfl) (fun _ _ _ => rfl) (fun _ _ _ _ => rfl) nofun
theorem RP.sub1 {o i : Expr} {p : Pos} : RP (.Subscript o i p) 0 := .all ⟨fun _ _ => rfl, fun _ => rfl, fun _ _ => rfl, fun _ _ => rfl⟩ (fun _ _ _ => rfl) (fun _ _ _ => rfl) (fun _ _ _ _ => rfl) nofun
theorem RP.cmpr {el : Expr} {gs : List Comprehension} {sc : Scope} {p : Pos} : RP (.ListComp el gs sc p) 1 := ⟨⟨fun _ _ => rfl, fun _ => rfl, fun _ _ => rfl, fun _ _ => rfl⟩, fun _ _ _ _ => rfl, fun h => absurd rfl h, fun _ _ _ _ _ => rfl, nofun⟩
theorem R_plain {c : CkI} {e : E} {x : Expr} (hw : (R c e tb nl).w x = true) : RP ((R c e tb nl).f x) (R c e tb nl).k := by
  cases e with
  | lit v => cases v with
    | int i => cases i with
      | ofNat _ => exact .const nofun
      | negSucc _ => exact .un
    | ref _ => cases hw
    | st _ => cases hw
    | unb => cases hw
    | _ => exact .const nofun
  | loc _ => exact .name
  | glob _ => exact .name
  | bin _ _ _ => exact .bin
  | cmp _ _ _ => exact .cmp
  | and _ _ => exact .bo
  | or _ _ => exact .bo
  | not _ => exact .un
  | ite _ _ _ => exact .ife
  | list _ => exact .lst
  | tup _ => exact .tu
  | dictI => exact .dct
  | dictS _ _ => exact .dct
  | call _ _ => exact .cal
  | prim p _ => cases p <;> exact .cal
  | bm _ _ _ => exact .mth
  | um _ _ _ => exact .mth
  | attr _ _ => exact .att
  | comp _ _ _ _ _ _ => exact .cmpr
  | _ => exact .sub1
theorem Rs_plains {c : CkI} : ∀ {es : List E} {xs : List Expr}, (Rs c es tb nl).w xs = true → Plains ((Rs c es tb nl).f xs)
  | [], _, _ => .nil
  | _ :: _, _, h => .cons (R_plain (Bool.and_eq_true_iff.mp h).1).plain (Rs_plains (Bool.and_eq_true_iff.mp h).2)
theorem Rs_len {c : CkI} : ∀ {es : List E} {xs : List Expr}, ((Rs c es tb nl).f xs).length = es.length
  | [], _ => rfl
  | _ :: _, _ => congrArg (· + 1) Rs_len
theorem isLoc_of {x : Str} (h : tb.lookup x = some .local) (hd : (x == ("__debug__" : Str)) = false) : isLoc tb x = true := by
  simp [isLoc, h]; simpa using hd
theorem comp_ok {cap : List Nat} {k : IK} {src : List E} {tn : Nat} {cond : List E} {elt : E} {el tg it : Expr} {ifs : List Expr} {sc : Scope} {cs ts : List Str}
    (hw : compW k nl cs ts tn sc tb cap = true) (hcs : cs = cap.map (nth nl)) (hn : ts.length = 1 ∨ ts.length = 2) (h10 : IterT Z tb nl F d k src it (tgR ts tg)) (h11 : ∀ env x, foldedSetIterable it env x = pure x)
    (h12 : (cond = [] ∧ ifs = []) ∨ ∃ c x, cond = [c] ∧ ifs = [x] ∧ Tr Z (compTb tb sc.names) (cs ++ ts) F d c x) (h13 : Ev Z (compTb tb sc.names) (cs ++ ts) F d elt el)
    (h14 : k = .keys → cond = [] ∧ EvX Z (compTb tb sc.names) (cs ++ ts) F d elt el) : ∃ is, CompOk Z tb nl F d cap k src tn cond elt el (tgR ts tg) it ifs sc cs ts is := by
  simp only [compW, Bool.and_eq_true, beq_iff_eq, List.all_eq_true, bne_iff_ne, ne_eq, Bool.not_eq_true', Bool.or_eq_true, decide_eq_true_eq, List.contains_iff_mem] at hw
  obtain ⟨h0, h1, h2, h3, h4, h5, h6, h7, h8, h9⟩ := hw
  have h6' : ∀ p ∈ sc.names, p.2 = .local → sc.names.lookup p.1 = some .local := fun p hp q => (h6 p hp).resolve_left fun z => z q
  have h7' : ∀ p ∈ sc.names, p.2 = .free → p.1 ∈ cs := fun p hp q => (h7 p hp).resolve_left fun z => z q
  have kl : ∀ x ∈ ts, (compTb tb sc.names).lookup x = some .local := fun x hx => by rw [compTb_get, (h4 x hx).1]; rfl
  rcases hn with hn | hn
  · obtain ⟨x, rfl⟩ := List.length_eq_one_iff.mp hn
    have hx := kl x (.head _)
    refine ⟨[cs.length], ⟨hcs, h0⟩, h5, h1, h2, h3, fun x hx => (h4 x hx).1, h6', h7', h8, h9, h10, h11, .one (by simp [nth]) (isLoc_of hx (h4 x (.head _)).2), fun caps old vals q1 q2 q3 => ?_, fun env => .inr ⟨rfl, hx⟩, h12, h13, h14⟩
    subst h5
    exact set_one q1 q2 q3
  · obtain ⟨x, y, rfl⟩ := two_of hn
    have hx := kl x (.head _)
    have hy := kl y (.tail _ (.head _))
    refine ⟨[cs.length, cs.length + 1], ⟨hcs, h0⟩, h5, h1, h2, h3, fun x hx => (h4 x hx).1, h6', h7', h8, h9, h10, h11, .two (by simp) (isLoc_of hx (h4 x (.head _)).2) (by rw [List.getElem?_append_right (Nat.le_succ _)]; simp) (isLoc_of hy (h4 y (.tail _ (.head _))).2), fun caps old vals q1 q2 q3 => ?_, fun env => ⟨.inr ⟨rfl, hx⟩, .inr ⟨rfl, hy⟩⟩, h12, h13, h14⟩
    subst h5
    exact set_two q1 q2 q3
theorem still_all (W : WF Z) (e : E) : stillE e = true → ∀ tb nl x, (R (ckI Z) e tb nl).w x = true → EvSt Z tb nl F d e ((R (ckI Z) e tb nl).f x) := by
  refine E.rec (motive_1 := fun e => stillE e = true → ∀ tb nl x, (R (ckI Z) e tb nl).w x = true → EvSt Z tb nl F d e ((R (ckI Z) e tb nl).f x)) (motive_2 := fun _ => True) ?_ ?_ ?_ ?_ ?_ ?_ ?_ ?_ ?_ ?_ ?_ ?_ ?_ ?_ ?_ ?_ ?_ ?_ ?_ ?_ ?_ ?_ ?_ ?_ ?_ e
  case refine_2 =>
    intro i _ tb nl x hw
    obtain ⟨h1, h2⟩ := Bool.and_eq_true_iff.mp hw
    obtain ⟨y, hy⟩ := Option.isSome_iff_exists.mp h1
    exact evSt_loc (by rw [hy]; show _ = some ((nl[i]?).getD _); rw [hy]; rfl) h2
  case refine_4 =>
    intro op a b ha hb h tb nl x hw
    cases op with
    | addi =>
      obtain ⟨h1, h2⟩ := Bool.and_eq_true_iff.mp h
      obtain ⟨w1, w2⟩ := Bool.and_eq_true_iff.mp hw
      exact evSt_addi (ha h1 tb nl _ w1) (hb h2 tb nl _ w2)
    | _ => cases h
  case refine_19 =>
    intro a b ha hb h tb nl x hw
    obtain ⟨h1, h2⟩ := Bool.and_eq_true_iff.mp h
    obtain ⟨w1, w2⟩ := Bool.and_eq_true_iff.mp hw
    exact evSt_idx W (R_plain w2).plain.sub (ha h1 tb nl _ w1) (hb h2 tb nl _ w2)
  all_goals (intros; first | trivial | (rename_i h _ _ _ _; cases h))
theorem keys_elt (W : WF Z) {elt : E} {x : Expr} (h : stillT elt = true) (hw : (R (ckI Z) elt tb nl).w x = true) : EvX Z tb nl F d elt ((R (ckI Z) elt tb nl).f x) := by
  cases elt with
  | tup es =>
    obtain ⟨h1, h2⟩ := Bool.and_eq_true_iff.mp h
    obtain ⟨a, b, rfl⟩ := two_of (beq_iff_eq.mp h1)
    have w : (Rs (ckI Z) [a, b] tb nl).w (vw x).ks = true := (Bool.and_eq_true_iff (x := decide ([a, b].length ≤ 1000)) (y := (Rs (ckI Z) [a, b] tb nl).w (vw x).ks)).mp hw |>.2
    have h2 := List.all_eq_true.mp h2
    obtain ⟨w1, w2⟩ := Bool.and_eq_true_iff.mp w
    exact evX_pair (Rs_plains w) (still_all W a (h2 a (.head _)) tb nl _ w1) (still_all W b (h2 b (.tail _ (.head _))) tb nl _ (Bool.and_eq_true_iff.mp w2).1)
  | _ => cases h
theorem iter_ok {k : IK} {src : List E} {it tg : Expr} {ts : List Str} (hs : ∀ xs, (Rs (ckI Z) src tb nl).w xs = true → EvL Z tb nl F d src ((Rs (ckI Z) src tb nl).f xs)) (hw : itW k src.length (Rs (ckI Z) src tb nl) it tb ts = true) :
    (ts.length = 1 ∨ ts.length = 2) ∧ IterT Z tb nl F d k src (itR k (Rs (ckI Z) src tb nl) it) (tgR ts tg) ∧ ∀ env x, foldedSetIterable (itR k (Rs (ckI Z) src tb nl) it) env x = pure x := by
  have nm : ∀ {n : Nat}, n = 1 → ts.length = n → tgR ts tg = .Name (nth ts 0) tg.pos := fun h e => by rw [h] at e; unfold tgR; rw [e]; rfl
  cases k with
  | seq =>
    obtain ⟨h1, h2⟩ := Bool.and_eq_true_iff.mp hw
    obtain ⟨h1, h3⟩ := Bool.and_eq_true_iff.mp h1
    have h2 := beq_iff_eq.mp h2
    obtain ⟨e, rfl⟩ := List.length_eq_one_iff.mp (beq_iff_eq.mp h1)
    have q := hs _ h3
    cases q with | cons q _ =>
    rw [nm rfl h2]
    exact ⟨.inl h2, .seq q, (R_plain (Bool.and_eq_true_iff.mp h3).1).plain.fold⟩
  | keys =>
    obtain ⟨h1, h2⟩ := Bool.and_eq_true_iff.mp hw
    obtain ⟨h1, h3⟩ := Bool.and_eq_true_iff.mp h1
    have h2 := beq_iff_eq.mp h2
    obtain ⟨e, rfl⟩ := List.length_eq_one_iff.mp (beq_iff_eq.mp h1)
    have q := hs _ h3
    cases q with | cons q _ =>
    rw [nm rfl h2]
    exact ⟨.inl h2, .keys q, (R_plain (Bool.and_eq_true_iff.mp h3).1).plain.fold⟩
  | enum =>
    obtain ⟨h1, h2⟩ := Bool.and_eq_true_iff.mp hw
    obtain ⟨h1, h3⟩ := Bool.and_eq_true_iff.mp h1
    have h2 := beq_iff_eq.mp h2
    have h4 := (Bool.and_eq_true_iff.mp h1).2
    have e : tgR ts tg = .Tuple (tgNames ts (vw tg).ks) (vw tg).n tg.pos := by unfold tgR; rw [h2]; rfl
    rw [e]
    exact ⟨.inr h2, .enum h3 (Rs_plains h4) (hs _ h4).evs, fun _ _ => rfl⟩
  | rng =>
    obtain ⟨h1, h2⟩ := Bool.and_eq_true_iff.mp hw
    obtain ⟨h4, h3⟩ := Bool.and_eq_true_iff.mp h1
    have h2 := beq_iff_eq.mp h2
    rw [nm rfl h2]
    exact ⟨.inl h2, .rng h3 (Rs_plains h4) (hs _ h4).evs, fun _ _ => rfl⟩
variable (Z F d) in
/-- what is so of an expression's text -/
structure EOk (e : E) : Prop where
  o : ∀ tb nl x, (R (ckI Z) e tb nl).w x = true → Ev Z tb nl F d e ((R (ckI Z) e tb nl).f x) ∧ Tr Z tb nl F d e ((R (ckI Z) e tb nl).f x)
  g : ∀ tb nl xs, (R (ckI Z) e tb nl).v xs = true → ∀ p, EvT Z tb nl F d e (fun env => boolOp p .And (evalEach ((R (ckI Z) e tb nl).g xs) env)) ∧ TrT Z tb nl F d e fun env => allTrue .And ((R (ckI Z) e tb nl).g xs) env
  ne : ∀ tb nl xs, ∃ y r, (R (ckI Z) e tb nl).g xs = y :: r
abbrev andT {a b : Bool} (h : (a && b) = true) : a = true ∧ b = true := Bool.and_eq_true_iff.mp h
theorem chain1 {e : E} {y : Expr} (h : Ev Z tb nl F d e y ∧ Tr Z tb nl F d e y) (p : Pos) : EvT Z tb nl F d e (fun env => boolOp p .And (evalEach [y] env)) ∧ TrT Z tb nl F d e fun env => allTrue .And [y] env :=
  ⟨fun env ls H Q A s ρ X hv => h.1 env ls H Q A s ρ X hv, trT_last h.2⟩
theorem both {e : E} {x : Expr} (q : Ev Z tb nl F d e x) (r : ∀ env whole, isTrue x env whole = (do let v ← whole; standAt x.pos; holding [v] (truthy v)) := by exact fun _ _ => rfl) : Ev Z tb nl F d e x ∧ Tr Z tb nl F d e x := ⟨q, Tr.ofEv q r⟩
theorem EOk.one {e : E} {k : Tb → List Str → Nat} {f : Tb → List Str → Expr → Expr} {w : Tb → List Str → Expr → Bool} (hr : ∀ tb nl, R (ckI Z) e tb nl = .one (k tb nl) (f tb nl) (w tb nl)) (H : ∀ tb nl x, w tb nl x = true → Ev Z tb nl F d e (f tb nl x) ∧ Tr Z tb nl F d e (f tb nl x)) : EOk Z F d e := by
  refine ⟨fun tb nl x hw => ?_, fun tb nl xs hw p => ?_, fun tb nl xs => by rw [hr]; exact ⟨_, _, rfl⟩⟩
  · rw [hr] at hw ⊢; exact H tb nl x hw
  · rw [hr] at hw ⊢; exact chain1 (H tb nl _ hw) p
theorem ck_comp (W : WF Z) {cap : List Nat} {k : IK} {src : List E} {tn : Nat} {cond : List E} {elt : E} (hs : ∀ tb nl xs, (Rs (ckI Z) src tb nl).w xs = true → EvL Z tb nl F d src ((Rs (ckI Z) src tb nl).f xs)) (hc : ∀ c ∈ cond, EOk Z F d c) (he : EOk Z F d elt) {x : Expr}
    (hw : (R (ckI Z) (.comp cap k src tn cond elt) tb nl).w x = true) : ∃ el tg it ifs cs ts is, (R (ckI Z) (.comp cap k src tn cond elt) tb nl).f x = .ListComp el [⟨tg, it, ifs, 0⟩] (vw x).sc x.pos ∧ CompOk Z tb nl F d cap k src tn cond elt el tg it ifs (vw x).sc cs ts is := by
  obtain ⟨w1, hw⟩ := andT hw
  obtain ⟨w2, hw⟩ := andT hw
  obtain ⟨w3, hw⟩ := andT hw
  obtain ⟨w4, hw⟩ := andT hw
  obtain ⟨w5, hw⟩ := andT hw
  obtain ⟨w6, w7⟩ := andT hw
  obtain ⟨i1, i2, i3⟩ := iter_ok (tg := (gen x).target) (hs tb nl) w2
  have hC : (cond = [] ∧ (Rs (ckI Z) cond (compTb tb (vw x).sc.names) (cap.map (nth nl) ++ tgIds (gen x).target)).f (gen x).ifs = []) ∨ ∃ c y, cond = [c] ∧ (Rs (ckI Z) cond (compTb tb (vw x).sc.names) (cap.map (nth nl) ++ tgIds (gen x).target)).f (gen x).ifs = [y] ∧ Tr Z (compTb tb (vw x).sc.names) (cap.map (nth nl) ++ tgIds (gen x).target) F d c y := by
    cases cond with
    | nil => exact .inl ⟨rfl, rfl⟩
    | cons c r =>
      cases r with
      | cons _ _ => exact absurd (of_decide_eq_true w4) (by simp)
      | nil => exact .inr ⟨c, _, rfl, rfl, ((hc c (.head _)).o _ _ _ (andT w6).1).2⟩
  have hK : k = .keys → cond = [] ∧ EvX Z (compTb tb (vw x).sc.names) (cap.map (nth nl) ++ tgIds (gen x).target) F d elt ((R (ckI Z) elt (compTb tb (vw x).sc.names) (cap.map (nth nl) ++ tgIds (gen x).target)).f (kid x 0)) := fun q => by
    subst q
    obtain ⟨a, b⟩ := andT w5
    exact ⟨List.isEmpty_iff.mp a, keys_elt W b w7⟩
  obtain ⟨is, C⟩ := comp_ok w1 rfl i1 i2 i3 hC (he.o _ _ _ w7).1 hK
  exact ⟨_, _, _, _, _, _, is, rfl, C⟩
theorem ck_all (W : WF Z) (hF : FnS Z F d) (e : E) : EOk Z F d e := by
  refine E.rec (motive_1 := EOk Z F d) (motive_2 := fun es => (∀ tb nl xs, (Rs (ckI Z) es tb nl).w xs = true → EvL Z tb nl F d es ((Rs (ckI Z) es tb nl).f xs)) ∧ ∀ c ∈ es, EOk Z F d c) ?_ ?_ ?_ ?_ ?_ ?_ ?_ ?_ ?_ ?_ ?_ ?_ ?_ ?_ ?_ ?_ ?_ ?_ ?_ ?_ ?_ ?_ ?_ ?_ ?_ e
  · intro v
    refine .one (fun _ _ => rfl) fun tb nl x hw => ?_
    cases v with
    | none => exact both ev_litN
    | bool b => exact both ev_litB
    | int i => cases i with
      | ofNat n => exact both ev_litI
      | negSucc n => exact both ev_litM
    | str s => exact both (ev_litS (of_decide_eq_true hw))
    | _ => cases hw
  · intro i
    refine .one (fun _ _ => rfl) fun tb nl x hw => ?_
    obtain ⟨h1, h2⟩ := andT hw
    obtain ⟨y, hy⟩ := Option.isSome_iff_exists.mp h1
    exact both (ev_loc (by rw [hy]; show _ = some ((nl[i]?).getD _); rw [hy]; rfl) h2)
  · exact fun g => .one (fun _ _ => rfl) fun tb nl x hw => both (ev_glob W.toWFG hw)
  · exact fun op a b ha hb => .one (fun _ _ => rfl) fun tb nl x hw => both (ev_bin W (ha.o _ _ _ (andT hw).1).1 (hb.o _ _ _ (andT hw).2).1)
  · exact fun op a b ha hb => .one (fun _ _ => rfl) fun tb nl x hw => ⟨ev_cmp W ((R_plain (andT hw).2).plain.marks _) (ha.o _ _ _ (andT hw).1).1 (hb.o _ _ _ (andT hw).2).1, tr_cmp W ((R_plain (andT hw).2).plain.marks _) (ha.o _ _ _ (andT hw).1).1 (hb.o _ _ _ (andT hw).2).1⟩
  · intro a b ha hb
    have key : ∀ tb nl x ys, (R (ckI Z) a tb nl).w x = true → (R (ckI Z) b tb nl).v ys = true → ∀ p, EvT Z tb nl F d (.and a b) (fun env => boolOp p .And (evalEach ((R (ckI Z) a tb nl).f x :: (R (ckI Z) b tb nl).g ys) env)) ∧ TrT Z tb nl F d (.and a b) fun env => allTrue .And ((R (ckI Z) a tb nl).f x :: (R (ckI Z) b tb nl).g ys) env :=
      fun tb nl x ys h1 h2 p => ⟨evT_and (ha.o _ _ _ h1).1 (hb.ne _ _ _) (hb.g _ _ _ h2 p).1, trT_and (ha.o _ _ _ h1).2 (hb.g _ _ _ h2 p).2⟩
    have o : ∀ tb nl x, (R (ckI Z) (.and a b) tb nl).w x = true → Ev Z tb nl F d (.and a b) ((R (ckI Z) (.and a b) tb nl).f x) ∧ Tr Z tb nl F d (.and a b) ((R (ckI Z) (.and a b) tb nl).f x) := fun tb nl x hw => by
      have q := key tb nl _ _ (andT hw).1 (andT hw).2 x.pos
      exact ⟨fun env ls H Q A s ρ X hv => q.1 env ls H Q A s ρ X hv, fun env ls H Q A s ρ X hv hQ => q.2 env ls H Q A s ρ X hv hQ⟩
    refine ⟨o, fun tb nl xs hw p => ?_, fun tb nl xs => by
      show ∃ y r, cond (Nat.ble 2 xs.length) _ _ = _
      cases Nat.ble 2 xs.length <;> exact ⟨_, _, rfl⟩⟩
    have hw : cond (Nat.ble 2 xs.length) _ _ = true := hw
    show EvT Z tb nl F d (.and a b) (fun env => boolOp p .And (evalEach (cond (Nat.ble 2 xs.length) _ _) env)) ∧ TrT Z tb nl F d (.and a b) fun env => allTrue .And (cond (Nat.ble 2 xs.length) _ _) env
    cases e : Nat.ble 2 xs.length with
    | true => rw [e] at hw; exact key tb nl _ _ (andT hw).1 (andT hw).2 p
    | false => rw [e] at hw; exact chain1 (o tb nl _ hw) p
  · exact fun a b ha hb => .one (fun _ _ => rfl) fun tb nl x hw => by
      have q1 := ha.o _ _ _ (andT hw).1
      have q2 := hb.o _ _ _ (andT hw).2
      have t := trT_or (F := F) q1.2 (trT_last (op := .Or) q2.2)
      have v := evT_or (F := F) (p := x.pos) q1.1 q2.1
      exact ⟨fun env ls H Q A s ρ X hv => v env ls H Q A s ρ X hv, fun env ls H Q A s ρ X hv hQ => t env ls H Q A s ρ X hv hQ⟩
  · exact fun a ha => .one (fun _ _ => rfl) fun tb nl x hw => ⟨ev_not (ha.o _ _ _ hw).1, tr_not (ha.o _ _ _ hw).2⟩
  · exact fun t a b ht ha hb => .one (fun _ _ => rfl) fun tb nl x hw => by
      obtain ⟨w0, w⟩ := andT hw
      obtain ⟨w1, w2⟩ := andT w
      have q0 := ht.o _ _ _ w0
      have q1 := ha.o _ _ _ w1
      have q2 := hb.o _ _ _ w2
      exact ⟨ev_ite q0.2 q1.1 q2.1, tr_ite q0.2 q1.2 q2.2⟩
  · exact fun es h => .one (fun _ _ => rfl) fun tb nl x hw => both (ev_list hF (of_decide_eq_true (andT hw).1) (Rs_plains (andT hw).2) (h.1 _ _ _ (andT hw).2).evs)
  · exact fun es h => .one (fun _ _ => rfl) fun tb nl x hw => both (ev_tup hF (of_decide_eq_true (andT hw).1) (Rs_plains (andT hw).2) (h.1 _ _ _ (andT hw).2).evs)
  · exact .one (fun _ _ => rfl) fun tb nl x hw => both ev_dictI
  · exact fun ks es h => .one (fun _ _ => rfl) fun tb nl x hw => by
      obtain ⟨w1, w⟩ := andT hw
      obtain ⟨w2, w⟩ := andT w
      obtain ⟨w3, w4⟩ := andT w
      exact both (ev_dictS W.toWF0 (fun k m => of_decide_eq_true (List.all_eq_true.mp w1 k m)) (of_decide_eq_true w3) (of_decide_eq_true w2) (h.1 _ _ _ w4))
  · exact fun f es h => .one (fun _ _ => rfl) fun tb nl x hw => by
      obtain ⟨w1, w⟩ := andT hw
      obtain ⟨w2, w3⟩ := andT w
      exact both (ev_call W hF w1 (List.contains_iff_mem.mp w2) (Rs_plains w3) (h.1 _ _ _ w3).evs)
  · intro p es h
    have gen : (p ≠ .items ∧ p ≠ .isbool) → ∀ (tb : Tb) (nl : List Str) (x : Expr), (isGlob tb (prName p) && (Rs (ckI Z) es tb nl).w (tail x)) = true → Ev Z tb nl F d (.prim p es) (.Call (.Name (prName p) (kid x 0).pos) ((Rs (ckI Z) es tb nl).f (tail x)) [] x.pos) ∧ Tr Z tb nl F d (.prim p es) (.Call (.Name (prName p) (kid x 0).pos) ((Rs (ckI Z) es tb nl).f (tail x)) [] x.pos) :=
      fun hp tb nl x hw => both (ev_prim W hp (andT hw).1 (Rs_plains (andT hw).2) (h.1 _ _ _ (andT hw).2).evs)
    cases p with
    | items =>
      exact .one (fun _ _ => rfl) fun tb nl x hw => by
        obtain ⟨w1, w⟩ := andT hw
        obtain ⟨w2, w⟩ := andT w
        obtain ⟨w3, w4⟩ := andT w
        obtain ⟨e, rfl⟩ := List.length_eq_one_iff.mp (beq_iff_eq.mp w2)
        exact both (ev_items W w1 ((R_plain (andT w4).1).sup (bne_iff_ne.mp w3)) ((h.2 e (.head _)).o _ _ _ (andT w4).1).1)
    | isbool =>
      exact .one (fun _ _ => rfl) fun tb nl x hw => by
        obtain ⟨w1, w⟩ := andT hw
        obtain ⟨w2, w⟩ := andT w
        obtain ⟨w3, w4⟩ := andT w
        obtain ⟨e, rfl⟩ := List.length_eq_one_iff.mp (beq_iff_eq.mp w3)
        exact both (ev_isbool W w1 w2 (R_plain (andT w4).1).plain ((h.2 e (.head _)).o _ _ _ (andT w4).1).1)
    | _ => exact .one (fun _ _ => rfl) (gen ⟨nofun, nofun⟩)
  · exact fun m o es ho h => .one (fun _ _ => rfl) fun tb nl x hw => by
      obtain ⟨w1, w⟩ := andT hw
      obtain ⟨w2, w⟩ := andT w
      obtain ⟨w3, w4⟩ := andT w
      exact both (ev_bm W hF ((R_plain w3).sup (bne_iff_ne.mp w1)) (by rw [Rs_len]; exact of_decide_eq_true w2) (Rs_plains w4) (ho.o _ _ _ w3).1 (h.1 _ _ _ w4))
  · exact fun m o es ho h => .one (fun _ _ => rfl) fun tb nl x hw => by
      obtain ⟨w1, w⟩ := andT hw
      obtain ⟨w2, w⟩ := andT w
      obtain ⟨w3, w4⟩ := andT w
      exact both (ev_um W hF ((R_plain w3).sup (bne_iff_ne.mp w1)) (by rw [Rs_len]; exact of_decide_eq_true w2) (Rs_plains w4) (ho.o _ _ _ w3).1 (h.1 _ _ _ w4).evs)
  · exact fun o a ho => .one (fun _ _ => rfl) fun tb nl x hw => by
      obtain ⟨w1, w⟩ := andT hw
      obtain ⟨w2, w3⟩ := andT w
      exact both (ev_attr W ((R_plain w3).sup (bne_iff_ne.mp w1)) (List.contains_iff_mem.mp w2) (ho.o _ _ _ w3).1)
  · exact fun o i ho hi => .one (fun _ _ => rfl) fun tb nl x hw => both (ev_idx W (R_plain (andT hw).2).plain.sub (ho.o _ _ _ (andT hw).1).1 (hi.o _ _ _ (andT hw).2).1)
  · exact fun o i ho hi => .one (fun _ _ => rfl) fun tb nl x hw => both (ev_from W (ho.o _ _ _ (andT hw).1).1 (hi.o _ _ _ (andT hw).2).1)
  · exact fun o i ho hi => .one (fun _ _ => rfl) fun tb nl x hw => both (ev_upto W (ho.o _ _ _ (andT hw).1).1 (hi.o _ _ _ (andT hw).2).1)
  · exact fun o ho => .one (fun _ _ => rfl) fun tb nl x hw => both (ev_rev W (ho.o _ _ _ hw).1)
  · exact fun cap k src tn cond elt hs hc he => .one (fun _ _ => rfl) fun tb nl x hw => by
      obtain ⟨el, tg, it, ifs, cs, ts, is, e, C⟩ := ck_comp W hs.1 hc.2 he (tb := tb) (nl := nl) (x := x) hw
      have q := ev_comp (pos := x.pos) W C
      rw [← e] at q
      exact both q
  · exact ⟨fun _ _ _ _ => .nil, fun c m => by cases m⟩
  · refine fun e es he hes => ⟨fun tb nl xs hw => .cons (he.o _ _ _ (andT hw).1).1 (hes.1 _ _ _ (andT hw).2), fun c m => ?_⟩
    cases m with
    | head => exact he
    | tail _ m => exact hes.2 c m
end
end Mine
end
-- U18
section
set_option tactic.hygienic false
namespace Mine
open PySem PySem.W PyProof.Rows PySem.Calls PySem.SeqAt
noncomputable def isStar : Expr → Bool
  | .Starred .. => true
  | _ => false
noncomputable def locName (tb : Tb) (line : Nat) : Expr → Option Str
  | .Name id p => if tb.lookup id == some .local && p.line == line then some id else none
  | _ => none
noncomputable def swN (tb : Tb) (ts : List Expr) : List Str := ts.filterMap (locName tb ((ts.head?.map (·.pos.line)).getD 0))
/-- whether a tuple's stores are swapped; none: not known -/
noncomputable def swT (b1 b2 b3 b4 b5 : Bool) (names : List Str) : Option (Option (List Str)) := bif b1 || (b2 || (b3 || b4)) then some none else bif b5 then none else some (some names)
noncomputable def swK (tb : Tb) (ts vs : List Expr) : Option (Option (List Str)) := swT (!(ts.length == 2 || ts.length == 3) || vs.length != ts.length) (vs.any isStar) ((swN tb ts).length != ts.length || (swN tb ts).eraseDups.length != (swN tb ts).length) (vs.all (foldedForSure 8)) (vs.all (constantsAlone 8)) (swN tb ts)
theorem sw_aux {b0 b1 b2 b3 b4 b5 : Bool} {names : List Str} {x : Sem (Option (List Str))} {r : Option (List Str)} (h0 : b0 = false) (h : swT b1 b2 b3 b4 b5 names = some r) :
    (if (b1 || b0) = true then pure none else if b2 = true then pure none else if b3 = true then pure none else if b4 = true then pure none else if b5 = true then x else pure (some names) : Sem (Option (List Str))) = pure r := by
  subst h0
  cases b1
  case true => cases h; rfl
  cases b2
  case true => cases h; rfl
  cases b3
  case true => cases h; rfl
  cases b4
  case true => cases h; rfl
  cases b5
  case true => cases h
  cases h; rfl
section
variable {Z : Wd} {tb : Tb} {nl : List Str} {F : Fun} {d : Nat}
theorem swK_ok {env : Env} (eo : EO env tb) {ts vs : List Expr} {k a : Nat} {p b : Pos} {r : Option (List Str)} (h : swK tb ts vs = some r) : swappedStores [.Tuple ts k p] (.Tuple vs a b) env = pure r := by
  have hb : (env.blockKind != .function) = false := by
    have : env.blockKind = .function := by simp [Env.blockKind, eo.kind]
    rw [this]; rfl
  obtain ⟨rfl, _, _, _⟩ := eo
  exact sw_aux hb h
theorem dropValue_call {prog : Program} {w : World} {A : Around} {E : Value → Shared → Prop} {s : Shared} {f : Expr} {xs : List Expr} {ks : List Keyword} {q pos : Pos} {v : Value} {Q : Flow → Shared → Prop} (h : Q .next s) : wpAny (model prog w) A (dropValue (.Call f xs ks q) pos v) Q E s := by
  cases v with
  | ref a => exact wpAny_bind (wpAny_standAt (wpAny_bind (wpAny_runValue (codeAny_builtin entry_let_go (show wpAny _ _ (ret .none) _ _ s from wpAny_pure (wpAny_pure h))))))
  | _ => exact wpAny_pure h
variable (Z) in
/-- what a statement comes to -/
inductive PX (env : Env) (nl : List Str) (ρ : List Addr) (s : Shared) (A : QL) (R : QV) : Flow → Shared → Prop
  | next (ls : List AV) (H' : Hp) (h' : Heap) (tk : Nat) (ρ' : List Addr) (a : A ls H') (R1 : HR Z ρ' H' h') (G : Grow (XE env) ρ ρ' s.heap h') (L : LR Z env nl ls ρ' h') : PX env nl ρ s A R .next { s with heap := h', toks := tk }
  | ret (v : AV) (v' : Value) (H' : Hp) (h' : Heap) (tk : Nat) (ρ' : List Addr) (q : R v H') (R1 : HR Z ρ' H' h') (G : Grow (XE env) ρ ρ' s.heap h') (r : VR Z ρ' v v') : PX env nl ρ s A R (.ret v') { s with heap := h', toks := tk }
theorem PX.from {ρ ρ1 : List Addr} {env : Env} {s : Shared} {h1 : Heap} {tk1 : Nat} {A : QL} {R : QV} {f : Flow} {s' : Shared} (G : Grow (XE env) ρ ρ1 s.heap h1) (p : PX Z env nl ρ1 { s with heap := h1, toks := tk1 } A R f s') : PX Z env nl ρ s A R f s' := by
  cases p with
  | next ls H' h' tk ρ' a R1 G' L => exact .next ls H' h' tk ρ' a R1 (G.trans G') L
  | ret v v' H' h' tk ρ' q R1 G' r => exact .ret v v' H' h' tk ρ' q R1 (G.trans G') r
theorem Grow.any {X ρ ρ' : List Addr} {h h' : Heap} (G : Grow [] ρ ρ' h h') : Grow X ρ ρ' h h' := G.wide fun _ m => by cases m
variable (Z tb nl F d) in
def XS (W : Nat) (b : S) (st : Stmt) : Prop := ∀ env ls H A R Ar s ρ, Sx Z tb nl d env Ar ls H s ρ → ex Z.P F W b ls H A R → Wp Z Ar (exec st env) (PX Z env nl ρ s A R) s
variable (Z tb nl F d) in
def XSs (W : Nat) (b : List S) (st : List Stmt) : Prop := ∀ env ls H A R Ar s ρ, Sx Z tb nl d env Ar ls H s ρ → exs Z.P F W b ls H A R → Wp Z Ar (execs st env) (PX Z env nl ρ s A R) s
theorem xss_nil {W : Nat} : XSs Z tb nl F d W [] [] := fun _ ls H _ _ _ s ρ X hv => wpAny_execs_nil (.next ls H s.heap s.toks ρ hv X.R Grow.refl X.L)
theorem xss_cons {W : Nat} {b : S} {bs : List S} {st : Stmt} {sts : List Stmt} (h1 : XS Z tb nl F d W b st) (h2 : XSs Z tb nl F d W bs sts) : XSs Z tb nl F d W (b :: bs) (st :: sts) := by
  intro env ls H A R Ar s ρ X hv
  refine wpAny_execs_cons ((h1 env ls H _ R Ar s ρ X hv).mono ?_)
  rintro f s1 p
  cases p with
  | next ls1 H1 h' tk ρ' a R1 G1 L1 => exact (h2 env ls1 H1 A R Ar _ ρ' ⟨X.eo, X.hA, R1, L1⟩ a).mono fun _ _ q => PX.from G1 q
  | ret v v' H' h' tk ρ' q R1 G1 r => exact .ret v v' H' h' tk ρ' q R1 G1 r
theorem xs_ret {W : Nat} {e : E} {x : Expr} {p : Pos} (h1 : Ev Z tb nl F d e x) : XS Z tb nl F d W (.ret e) (.Return (some x) p) := by
  intro env ls H A R Ar s ρ X hv
  refine wpAny_Return_some ((h1 env ls H R Ar s ρ X hv).mono ?_)
  rintro v' _ ⟨v, H1, h', tk, ρ', q, R1, G1, rv⟩
  exact .ret v v' H1 h' tk ρ' q R1 G1.any rv
theorem xs_ret0 {W : Nat} {p : Pos} : XS Z tb nl F d W (.ret (.lit .none)) (.Return none p) := by
  intro env ls H A R Ar s ρ X hv
  show wpAny _ _ (do standAt p; pure (Flow.ret .none)) _ _ _
  exact wpAny_bind (wpAny_standAt (wpAny_pure (.ret .none .none H s.heap s.toks ρ hv X.R Grow.refl rfl)))
theorem xs_ex {W : Nat} {e : E} {x : Expr} {p : Pos} (hx : ∃ f xs ks q, x = .Call f xs ks q) (hc : NoComp x) (h1 : Ev Z tb nl F d e x) : XS Z tb nl F d W (.ex e) (.Expr x p) := by
  intro env ls H A R Ar s ρ X hv
  have hi : interactive env = false := by simp [interactive, X.eo.kind]
  show wpAny _ _ _ _ _ _
  rw [exec_Expr env x p hi (hc _ _ _)]
  refine wpAny_bind (wpAny_standAt (wpAny_bind ((h1 env ls H _ Ar s ρ X hv).mono ?_)))
  rintro v' _ ⟨v, H1, h', tk, ρ', q, R1, G1, rv⟩
  obtain ⟨f, xs, ks, q0, rfl⟩ := hx
  exact dropValue_call (.next ls H1 h' tk ρ' q R1 G1.any (X.L.grow G1))
theorem xs_iff {W : Nat} {c : E} {a b : List S} {x : Expr} {y z : List Stmt} {p : Pos} (h0 : Tr Z tb nl F d c x) (h1 : XSs Z tb nl F d W a y) (h2 : XSs Z tb nl F d W b z) : XS Z tb nl F d W (.iff c a b) (.If x y z p) := by
  intro env ls H A R Ar s ρ X hv
  refine wpAny_If ((h0 env ls H _ Ar s ρ X hv fun _ _ h => asB_is h).mono ?_)
  rintro c _ ⟨H1, h', tk, ρ', q, R1, G1⟩
  cases c with
  | true => exact (h1 env ls H1 A R Ar _ ρ' (X.go R1 G1) (q.t rfl)).mono fun _ _ q => PX.from G1.any q
  | false => exact (h2 env ls H1 A R Ar _ ρ' (X.go R1 G1) (q.f rfl)).mono fun _ _ q => PX.from G1.any q
/-- what is behind a store of one name -/
theorem asg_end {env : Env} {Ar : Around} {ls : List AV} {H H1 : Hp} {s : Shared} {ρ ρ' : List Addr} {i : Nat} {x : Str} {p : Pos} {v : AV} {v' : Value} {h' : Heap} {tk : Nat} {A : QL} {R : QV} (X : Sx Z tb nl d env Ar ls H s ρ) (nd : nl.Nodup) (hn : nl[i]? = some x) (hl : isLoc tb x = true)
    (q : A (ls.set i v) H1) (R1 : HR Z ρ' H1 h') (G1 : Grow [] ρ ρ' s.heap h') (rv : VR Z ρ' v v') : Wp Z Ar (storeName env x v') (fun _ => PX Z env nl ρ s A R .next) { s with heap := h', toks := tk } :=
  store_sound (s := { s with heap := h', toks := tk }) X.eo nd R1 (X.L.grow G1) (.inl rfl) hn hl rv fun h2 tk2 R2 G2 L2 _ => .next _ H1 h2 tk2 ρ' q R2 (G1.any.trans G2) L2
theorem xs_asg {W : Nat} {i : Nat} {e : E} {x : Str} {v : Expr} {p q : Pos} (nd : nl.Nodup) (hn : nl[i]? = some x) (hl : isLoc tb x = true) (hc : NoComp v) (h1 : Ev Z tb nl F d e v) : XS Z tb nl F d W (.asg i e) (.Assign [.Name x p] v q) := by
  intro env ls H A R Ar s ρ X hv
  refine wpAny_Assign_Name ((h1 env ls H _ Ar s ρ X hv).mono ?_) (hc _ _ _)
  rintro v' _ ⟨u, H1, h', tk, ρ', q, R1, G1, rv⟩
  exact asg_end (p := p) X nd hn hl q R1 G1 rv
theorem xs_asg_comp (Ww : WF Z) {W : Nat} {i : Nat} {x : Str} {p q : Pos} {cap : List Nat} {k : IK} {src : List E} {tn : Nat} {cond : List E} {elt : E} {el tg it : Expr} {ifs : List Expr} {sc : Scope} {cs ts : List Str} {is : List Nat} {pos : Pos}
    (C : CompOk Z tb nl F d cap k src tn cond elt el tg it ifs sc cs ts is) (nd : nl.Nodup) (hn : nl[i]? = some x) (hl : isLoc tb x = true) : XS Z tb nl F d W (.asg i (.comp cap k src tn cond elt)) (.Assign [.Name x p] (.ListComp el [⟨tg, it, ifs, 0⟩] sc pos) q) := by
  intro env ls H A R Ar s ρ X hv
  obtain ⟨b, hb⟩ : ∃ b, swapsWith (.ListComp el [⟨tg, it, ifs, 0⟩] sc pos) (some (.Name x p)) q.line env = pure b := ⟨_, rfl⟩
  cases b with
  | false =>
    refine wpAny_Assign_Name ((ev_comp Ww C env ls H _ Ar s ρ X hv).mono ?_) hb
    rintro v' _ ⟨u, H1, h', tk, ρ', q, R1, G1, rv⟩
    exact asg_end (p := p) X nd hn hl q R1 G1 rv
  | true =>
    show wpAny _ _ _ _ _ _
    rw [exec_Assign_Name_used x p _ q hb]
    refine wpAny_bind (wpAny_standAt (wpAny_bind ?_))
    show wpAny _ _ (comprehension (.ListComp el [⟨tg, it, ifs, 0⟩] sc pos) sc env (firstIterPos [⟨tg, it, ifs, 0⟩] pos) (newList []) false (eval it env) (some (assign (.Name x p) env)) >>= fun _ => pure ()) _ _ _
    refine wpAny_bind ?_
    refine comp_run Ww C X hv fun v H1 h' tk ρ' D Ca m qv R' G' rv hCρ hCs hm => ?_
    have hCX : Ca ∉ XE env := fun m => by obtain ⟨o, e⟩ := X.L.liveX _ m; rw [hCs] at e; cases e
    show wpAny _ _ _ _ _ _
    refine wpAny_assign_Name (store_sound (s := { s with heap := h', toks := tk }) X.eo nd R' (X.L.grow G') (.inl rfl) hn hl rv fun h2 tk2 R2 G2 L2 k2 => ?_)
    refine ⟨m, ?_, fun h3 hs => ?_⟩
    · obtain ⟨o, es, ep, ho, r⟩ := hm
      exact ⟨o, es, ep, k2 _ _ hCX ho, r⟩
    · have hk3 : ∀ b o, b ∉ [Ca] → h2.get? b = some o → h3.get? b = some o := fun b o hb e => (hs.2 b fun q => hb (q ▸ .head _)).trans e
      refine wpAny_pure (wpAny_pure (.next _ H1 h3 tk2 ρ' qv (R2.off hCρ (none_base X.R hCs) hs) ((G'.any.trans G2).tail (wr := [Ca]) (fun b hb => ?_) hk3) (L2.keeps fun b hb o e => hk3 b o (fun q => ?_) e)))
      · cases hb with
        | head => exact hCs
        | tail _ hb => cases hb
      · cases q with
        | head => exact hCX hb
        | tail _ q => cases q
theorem xs_setA (Ww : WF Z) {W : Nat} {o : E} {a : Nat} {e : E} {y v : Expr} {p q : Pos} (hm : a ∈ Z.as) (hc : NoComp v) (h1 : Ev Z tb nl F d e v) (h2 : Ev Z tb nl F d o y) : XS Z tb nl F d W (.setA o a e) (.Assign [.Attribute y (Z.nm a) p] v q) := by
  intro env ls H A R Ar s ρ X hv
  refine plainObj_wpAny_Assign_Attribute ((h1 env ls H _ Ar s ρ X hv).mono ?_) (hc _ _ _)
  rintro v' _ ⟨u, H1, h', tk, ρ', hv, R1, G1, rv⟩
  refine (h2 env ls H1 _ Ar { s with heap := h', toks := tk } ρ' (X.go R1 G1) hv).mono ?_
  rintro w' _ ⟨w, H2, h2', tk2, ρ2, ⟨H3, e3, q⟩, R2, G2, rw'⟩
  refine (setA_sound (s := { s with heap := h2', toks := tk2 }) Ww.toWF0 Ww.toWFK R2 rw' (rv.mono G2.pre) hm e3).mono ?_
  rintro _ _ ⟨h3, tk3, ρ3, R3, G3⟩
  exact .next ls H3 h3 tk3 ρ3 q R3 ((G1.trans G2).trans G3).any (((X.L.grow G1).grow G2).grow G3)
theorem ks_set (W : WF0 Z) {ρ : List Addr} {H H' : Hp} {o k v : AV} {o' k' v' : Value} {A : Around} {s : Shared} (R : HR Z ρ H s.heap) (ro : VR Z ρ o o') (rk : VR Z ρ k k') (rv : VR Z ρ v v') (e : evSetI o k v H = some H') :
    Wp Z A (setItem o' k' v') (fun _ => PU Z [] ρ s H') s := by
  cases o with
  | ref a =>
    cases k with
    | int k =>
      have e : (match H[a]? with
        | some (.dictI es) => if es.length ≤ 1000000 then some (H.set a (.dictI (putI es k v))) else none
        | _ => none) = some H' := e
      cases h1 : H[a]? with
      | none => rw [h1] at e; exact no_some e
      | some ob =>
      rw [h1] at e
      cases ob with
      | dictI es =>
        by_cases hz : es.length ≤ 1000000
        case neg => exact no_some ((if_neg hz).symm.trans e)
        cases (if_pos hz).symm.trans e
        obtain ⟨c, hc, rfl⟩ := ro
        obtain ⟨kvs, e1, r1⟩ := R.get h1 hc
        obtain ⟨t, rfl⟩ := rk
        have hl := r1.length
        refine wpAny_setItem_pairs (knd := intKind Z.prog Z.w) (intKind_is _ _ _ _) e1 (fun h' hd hs => ?_) (by rw [hl, size24]; lia)
        exact ⟨h', _, ρ, R.set hc hs ⟨_, hd, ki_stored r1 rv⟩, Grow.set (List.mem_of_getElem? hc) hs (let ⟨o, _, _, ho, _⟩ := hd; ⟨o, ho⟩)⟩
      | _ => exact no_some e
    | str k =>
      have e : (match H[a]? with
        | some (.dictS es) => if es.length ≤ 1000000 then some (H.set a (.dictS (putS es k v))) else none
        | _ => none) = some H' := e
      cases h1 : H[a]? with
      | none => rw [h1] at e; exact no_some e
      | some ob =>
      rw [h1] at e
      cases ob with
      | dictS es =>
        by_cases hz : es.length ≤ 1000000
        case neg => exact no_some ((if_neg hz).symm.trans e)
        cases (if_pos hz).symm.trans e
        obtain ⟨c, hc, rfl⟩ := ro
        obtain ⟨kvs, e1, r1⟩ := R.get h1 hc
        obtain ⟨hk, t, rfl⟩ := rk
        have hl := r1.length
        refine wpAny_setItem_pairs (knd := PySem.strKind Z.prog Z.w) (strKind_is _ _ _ _) e1 (fun h' hd hs => ?_) (by rw [hl, size24]; lia)
        exact ⟨h', _, ρ, R.set hc hs ⟨_, hd, ks_stored W hk r1 rv⟩, Grow.set (List.mem_of_getElem? hc) hs (let ⟨o, _, _, ho, _⟩ := hd; ⟨o, ho⟩)⟩
      | _ => exact no_some e
    | _ => exact no_some e
  | _ => exact no_some e
/-- a store behind a value -/
theorem put_sound (Ww : WF Z) {o i : E} {y z : Expr} (h2 : Ev Z tb nl F d o y) (h3 : Ev Z tb nl F d i z) {env : Env} {Ar : Around} {ls : List AV} {H : Hp} {s : Shared} {ρ : List Addr} {v : AV} {v' : Value} {K : Hp → Prop} {QQ : Unit → Shared → Prop} (X : Sx Z tb nl d env Ar ls H s ρ)
    (rv : VR Z ρ v v') (hv : put (ev Z.P F o ls) (ev Z.P F i ls) v K H) (hQ : ∀ H4 h4 tk4 ρ4, K H4 → HR Z ρ4 H4 h4 → Grow [] ρ ρ4 s.heap h4 → QQ () { s with heap := h4, toks := tk4 }) :
    Wp Z Ar (eval y env) (fun w' => Wp Z Ar (eval z env) fun k' => Wp Z Ar (setItem w' k' v') QQ) s := by
  refine (h2 env ls H _ Ar s ρ X hv).mono ?_
  rintro w' _ ⟨w, H2, h2', tk2, ρ2, hv, R2, G2, rw'⟩
  refine (h3 env ls H2 _ Ar { s with heap := h2', toks := tk2 } ρ2 (X.go R2 G2) hv).mono ?_
  rintro k' _ ⟨k, H3, h3', tk3, ρ3, ⟨H4, e4, q⟩, R3, G3, rk⟩
  refine (ks_set (s := { s with heap := h3', toks := tk3 }) Ww.toWF0 R3 (rw'.mono G3.pre) rk ((rv.mono G2.pre).mono G3.pre) e4).mono ?_
  rintro _ _ ⟨h4, tk4, ρ4, R4, G4⟩
  exact hQ H4 h4 tk4 ρ4 q R4 ((G2.trans G3).trans G4)
theorem xs_setI (Ww : WF Z) {W : Nat} {o i e : E} {y z v : Expr} {p q : Pos} (hc : NoComp v) (h1 : Ev Z tb nl F d e v) (h2 : Ev Z tb nl F d o y) (h3 : Ev Z tb nl F d i z) : XS Z tb nl F d W (.setI o i e) (.Assign [.Subscript y z p] v q) := by
  intro env ls H A R Ar s ρ X hv
  refine wpAny_Assign_Subscript ((h1 env ls H _ Ar s ρ X hv).mono ?_) (hc _ _ _)
  rintro v' _ ⟨u, H1, h', tk, ρ', hv, R1, G1, rv⟩
  exact put_sound Ww h2 h3 (X.go (tk1 := tk) R1 G1) rv hv fun H4 h4 tk4 ρ4 q R4 G4 => .next ls H4 h4 tk4 ρ4 q R4 (G1.trans G4).any ((X.L.grow G1).grow G4)
end
end Mine
end
-- U19
section
set_option tactic.hygienic false
namespace Mine
open PySem PySem.W PyProof.Rows PySem.Calls PySem.SeqAt
section
variable {Z : Wd} {tb : Tb} {nl : List Str} {F : Fun} {d : Nat}
/-- a place of a block's names -/
structure LocAt (tb : Tb) (nl : List Str) (i : Nat) : Prop where
  n : nl[i]? = some (nth nl i)
  l : isLoc tb (nth nl i) = true
variable (Z) in
/-- each tree is a store to its name -/
inductive Stores (env : Env) (A : Around) : List Str → List (Value → Sem Unit) → Prop
  | nil : Stores env A [] []
  | cons {x : Str} {t : Value → Sem Unit} {xs : List Str} {ts : List (Value → Sem Unit)} (h : ∀ (v : Value) (s : Shared) (Q : Unit → Shared → Prop), Wp Z A (storeName env x v) Q s → Wp Z A (t v) Q s) (r : Stores env A xs ts) : Stores env A (x :: xs) (t :: ts)
structure Each (n : Nat) (l : List (Bool × (Value → Sem Unit))) : Prop where
  len : l.length = n
  star : l.findIdx? (·.1) = none
theorem tgs_stores {env : Env} {A : Around} {xs : List Str} : ∀ {ks : List Expr}, Stores Z env A xs ((assignEach (tgNames xs ks) env).map (·.2)) := by
  induction xs with
  | nil => exact .nil
  | cons x r ih => exact .cons (fun v s Q h => wpAny_assign_Name h) ih
theorem tgs_each {env : Env} {xs : List Str} : ∀ {ks : List Expr}, Each xs.length (assignEach (tgNames xs ks) env) := by
  induction xs with
  | nil => exact ⟨rfl, rfl⟩
  | cons x r ih =>
    intro ks
    obtain ⟨h1, h2⟩ := ih (ks := ks.tail)
    refine ⟨congrArg (· + 1) h1, ?_⟩
    rw [List.findIdx?_eq_none_iff] at h2 ⊢
    intro y hy
    cases hy with
    | head => rfl
    | tail _ hy => exact h2 y hy
theorem names_stores {env : Env} {A : Around} {xs : List Str} : Stores Z env A xs (xs.map fun n => bindName env n) := by
  induction xs with
  | nil => exact .nil
  | cons x r ih => exact .cons (fun v s Q h => wpAny_bindName h) ih
/-- stores one after the other -/
theorem stores_sound {env : Env} {A : Around} (eo : EO env tb) (nd : nl.Nodup) {ρ : List Addr} {H : Hp} {Q : Unit → Shared → Prop} {is : List Nat} : ∀ {trees : List (Value → Sem Unit)} {vals : List AV} {vs : List Value} {ls : List AV} {s : Shared},
    (∀ i ∈ is, LocAt tb nl i) → Stores Z env A (is.map (nth nl)) trees → VRs Z ρ vals vs → vals.length = is.length → HR Z ρ H s.heap → LR Z env nl ls ρ s.heap →
    (∀ h' tk, HR Z ρ H h' → Grow (XE env) ρ ρ s.heap h' → LR Z env nl (setAll is vals ls) ρ h' → Q () { s with heap := h', toks := tk }) → Wp Z A (assignInOrder trees vs) Q s := by
  induction is with
  | nil =>
    intro trees vals vs ls s hN ht hv hlen R L hQ
    cases ht
    cases vals with
    | cons _ _ => cases hlen
    | nil => exact wpAny_pure (hQ s.heap s.toks R Grow.refl L)
  | cons i is ih =>
    intro trees vals vs ls s hN ht hv hlen R L hQ
    cases ht with
    | cons h r =>
    cases vals with
    | nil => cases hlen
    | cons u vals =>
    obtain ⟨v, vs, rfl, rv, rvs⟩ := hv.cons_inv
    show wpAny _ _ (do holding vs (_ : Sem Unit); assignInOrder _ vs) _ _ _
    have hi := hN i (.head _)
    refine wpAny_bind (wpAny_holding (h v s _ (store_sound eo nd R L (.inl rfl) hi.n hi.l rv fun h' tk R' G' L' _ => ?_)))
    exact ih (s := { s with heap := h', toks := tk }) (fun i m => hN i (.tail _ m)) r rvs (Nat.succ.inj hlen) R' L' fun h2 tk2 R2 G2 L2 => hQ h2 tk2 R2 (G'.trans G2) L2
theorem setAll_set {is : List Nat} : ∀ {vals ls : List AV} {i : Nat} {v : AV}, i ∉ is → setAll is vals (ls.set i v) = (setAll is vals ls).set i v := by
  induction is with
  | nil => exact fun _ => rfl
  | cons j is ih =>
    intro vals ls i v h
    cases vals with
    | nil => rfl
    | cons u vals =>
      rw [List.mem_cons, not_or] at h
      show setAll is vals ((ls.set i v).set j u) = (setAll is vals (ls.set j u)).set i v
      rw [List.set_comm _ _ h.1, ih h.2]
theorem setAll_append {is js : List Nat} {ws : List AV} : ∀ {vals ls : List AV}, is.length = vals.length → setAll (is ++ js) (vals ++ ws) ls = setAll js ws (setAll is vals ls) := by
  induction is with
  | nil =>
    intro vals ls h
    cases vals with
    | nil => rfl
    | cons _ _ => cases h
  | cons i is ih =>
    intro vals ls h
    cases vals with
    | nil => cases h
    | cons v vals => exact ih (Nat.succ.inj h)
theorem setAll_reverse {is : List Nat} : ∀ {vals ls : List AV}, is.length = vals.length → is.Nodup → setAll is.reverse vals.reverse ls = setAll is vals ls := by
  induction is with
  | nil =>
    intro vals ls h _
    cases vals with
    | nil => rfl
    | cons _ _ => cases h
  | cons i is ih =>
    intro vals ls h nd
    cases vals with
    | nil => cases h
    | cons v vals =>
    have h := Nat.succ.inj h
    rw [List.nodup_cons] at nd
    rw [List.reverse_cons, List.reverse_cons, setAll_append (by rw [List.length_reverse, List.length_reverse, h]), ih h nd.2]
    show (setAll is vals ls).set i v = setAll is vals (ls.set i v)
    rw [setAll_set nd.1]
theorem ext_keep {h h' : Heap} (hx : Heap.ExtBut h.objs.size h h') {b : Addr} {o : Obj} (e : h.get? b = some o) : h'.get? b = some o :=
  hx b o (fun q => by rw [q, none_size] at e; cases e) e
theorem swapsSole_not {t value : Expr} {l : Nat} {env : Env} (h : NoComp value) : swapsWithSole [t] value l env = pure false := h (some t) l env
theorem xs_asgT (Ww : WF Z) {W : Nat} {is : List Nat} {e : E} {ks : List Expr} {v : Expr} {k : Nat} {p q : Pos} (nd : nl.Nodup) (nds : is.Nodup) (hc : NoComp v) (ht : ∀ i ∈ is, LocAt tb nl i)
    (hs : (∀ env, EO env tb → swappedStores [.Tuple (tgNames (is.map (nth nl)) ks) k p] v env = pure none) ∨ ∀ env, EO env tb → swappedStores [.Tuple (tgNames (is.map (nth nl)) ks) k p] v env = pure (some (is.map (nth nl)))) (h1 : Ev Z tb nl F d e v) :
    XS Z tb nl F d W (.asgT is e) (.Assign [.Tuple (tgNames (is.map (nth nl)) ks) k p] v q) := by
  intro env ls H A R Ar s ρ X hv
  have ev1 := h1 env ls H _ Ar s ρ X hv
  rcases hs with hs | hs
  · refine Assign_Tuple (ev1.mono ?_) (swapsSole_not hc) (hs env X.eo)
    rintro v' _ ⟨v, H1, h', tk, ρ', ⟨vs, ho, hvl, q⟩, R1, G1, rv⟩
    obtain ⟨a, rfl, us, e2, r2⟩ := R1.robj Ww.toWF0 rv ho
    obtain ⟨he, hst⟩ := tgs_each (env := env) (xs := is.map (nth nl)) (ks := ks)
    rw [List.length_map, ← hvl, ← r2.length] at he
    refine wpAny_assign_Tuple (s := { s with heap := h', toks := tk }) X.hA.hh e2.isTuple he hst fun h2 hx => ?_
    have hk : ∀ b o, h'.get? b = some o → h2.get? b = some o := fun b o e => ext_keep hx e
    exact stores_sound (s := { s with heap := h2, toks := tk }) (vals := vs) (vs := us) X.eo nd ht tgs_stores r2 hvl (R1.ext hk) ((X.L.grow G1).grow (Grow.ext hk)) fun h3 tk3 R3 G3 L3 => .next _ H1 h3 tk3 ρ' q R3 ((G1.trans (Grow.ext hk)).any.trans G3) L3
  · refine Assign_Tuple_swapped (ev1.mono ?_) (swapsSole_not hc) (hs env X.eo)
    rintro v' _ ⟨v, H1, h', tk, ρ', ⟨vs, ho, hvl, q⟩, R1, G1, rv⟩
    obtain ⟨a, rfl, us, e2, r2⟩ := R1.robj Ww.toWF0 rv ho
    have hz : (is.map (nth nl)).length = us.toArray.size := by rw [List.length_map, ← hvl, ← r2.length]; rfl
    rw [hz]
    refine wpAny_unpackItems_tuple (s := { s with heap := h', toks := tk }) X.hA.hh e2.isTuple fun h2 hx => ?_
    have hk : ∀ b o, h'.get? b = some o → h2.get? b = some o := fun b o e => ext_keep hx e
    rw [← List.map_reverse]
    refine stores_sound (s := { s with heap := h2, toks := tk }) (is := is.reverse) (vals := vs.reverse) (vs := us.reverse) X.eo nd (fun i m => ht i (List.mem_reverse.mp m)) names_stores r2.reverse (by rw [List.length_reverse, List.length_reverse, hvl]) (R1.ext hk) ((X.L.grow G1).grow (Grow.ext hk)) fun h3 tk3 R3 G3 L3 => ?_
    rw [setAll_reverse hvl.symm nds] at L3
    exact .next _ H1 h3 tk3 ρ' q R3 ((G1.trans (Grow.ext hk)).any.trans G3) L3
/-- a store to a place of an object -/
theorem asgI_sound (Ww : WF Z) {o i : E} {y z : Expr} {p : Pos} (h2 : Ev Z tb nl F d o y) (h3 : Ev Z tb nl F d i z) {env : Env} {Ar : Around} {ls : List AV} {H : Hp} {s : Shared} {ρ : List Addr} {v : AV} {v' : Value} {K : Hp → Prop} {QQ : Unit → Shared → Prop} (X : Sx Z tb nl d env Ar ls H s ρ)
    (rv : VR Z ρ v v') (hv : put (ev Z.P F o ls) (ev Z.P F i ls) v K H) (hQ : ∀ H4 h4 tk4 ρ4, K H4 → HR Z ρ4 H4 h4 → Grow [] ρ ρ4 s.heap h4 → QQ () { s with heap := h4, toks := tk4 }) :
    Wp Z Ar (assign (.Subscript y z p) env v') QQ s := by
  show wpAny _ _ _ _ _ _
  rw [assign_Subscript]
  refine wpAny_bind (wpAny_holding ((put_sound Ww h2 h3 X rv hv hQ).mono fun w' s1 h => wpAny_bind (wpAny_holding (h.mono fun k' s2 h => wpAny_bind (wpAny_standAt (wpAny_bind (wpAny_holding (h.mono fun _ s3 h => ?_))))))))
  exact fun Γ p hΓ => by
    rw [Sem.wp_release]
    exact h
theorem xs_setI2 (Ww : WF Z) {W : Nat} {o1 i1 o2 i2 e : E} {y1 z1 y2 z2 v : Expr} {p1 p2 p q : Pos} {k : Nat} (hc : NoComp v) (hs : ∀ env, EO env tb → swappedStores [.Tuple [.Subscript y1 z1 p1, .Subscript y2 z2 p2] k p] v env = pure none) (h0 : Ev Z tb nl F d e v)
    (h1 : Ev Z tb nl F d o1 y1) (h2 : Ev Z tb nl F d i1 z1) (h3 : Ev Z tb nl F d o2 y2) (h4 : Ev Z tb nl F d i2 z2) : XS Z tb nl F d W (.setI2 o1 i1 o2 i2 e) (.Assign [.Tuple [.Subscript y1 z1 p1, .Subscript y2 z2 p2] k p] v q) := by
  intro env ls H A R Ar s ρ X hv
  refine Assign_Tuple ((h0 env ls H _ Ar s ρ X hv).mono ?_) (swapsSole_not hc) (hs env X.eo)
  rintro v' _ ⟨t, H1, h', tk, ρ', ⟨v1, v2, ho, q⟩, R1, G1, rv⟩
  obtain ⟨a, rfl, us, et, rt⟩ := R1.robj Ww.toWF0 rv ho
  obtain ⟨w1, us, rfl, r1, rt⟩ := rt.cons_inv
  obtain ⟨w2, us, rfl, r2, rt⟩ := rt.cons_inv
  obtain rfl := rt.nil_inv
  refine wpAny_assign_Tuple (s := { s with heap := h', toks := tk }) X.hA.hh et.isTuple rfl rfl fun h2' hx => ?_
  have hk : ∀ b o, h'.get? b = some o → h2'.get? b = some o := fun b o e => ext_keep hx e
  have Gk := G1.trans (Grow.ext hk)
  have X2 : Sx Z tb nl d env Ar ls H1 { s with heap := h2', toks := tk } ρ' := ⟨X.eo, X.hA, R1.ext hk, X.L.grow Gk⟩
  show wpAny _ Ar (do holding [w2] (assign (.Subscript y1 z1 p1) env w1); do holding [] (assign (.Subscript y2 z2 p2) env w2); pure ()) _ _ _
  refine wpAny_bind (wpAny_holding (asgI_sound Ww h1 h2 X2 r1 q fun H3 h3' tk3 ρ3 q R3 G3 => ?_))
  refine wpAny_bind (wpAny_holding (asgI_sound Ww h3 h4 (X2.go (tk1 := tk3) R3 G3) (r2.mono G3.pre) q fun H4 h4' tk4 ρ4 q R4 G4 => ?_))
  exact wpAny_pure (.next ls H4 h4' tk4 ρ4 q R4 ((Gk.trans G3).trans G4).any ((X2.L.grow G3).grow G4))
/-- where a while stands -/
inductive WInv (Z : Wd) (env : Env) (nl : List Str) (ρ : List Addr) (s : Shared) (c : List AV → Hp → QV → Prop) (body : List AV → Hp → QL → QV → Prop) (A : QL) (R : QV) (n : Nat) : Shared → Prop
  | mk (h' : Heap) (tk : Nat) (ρ' : List Addr) (ls' : List AV) (H' : Hp) (R' : HR Z ρ' H' h') (G : Grow (XE env) ρ ρ' s.heap h') (L : LR Z env nl ls' ρ' h') (f : whL c body n ls' H' A R) : WInv Z env nl ρ s c body A R n { s with heap := h', toks := tk }
theorem xs_wh {W : Nat} {c : E} {b : List S} {x : Expr} {y : List Stmt} {p : Pos} (h0 : Tr Z tb nl F d c x) (h1 : XSs Z tb nl F d W b y) : XS Z tb nl F d W (.wh c b) (.While x y [] p) := by
  intro env ls H A R Ar s ρ X hv
  refine wpAny_While (codeAny_whileLoop (WInv Z env nl ρ s (ev Z.P F c) (exs Z.P F W b) A R) ?_ W ⟨s.heap, s.toks, ρ, ls, H, X.R, Grow.refl, X.L, hv.go⟩)
  rintro n _ ⟨h', tk, ρ', ls', H', R', G', L', hw⟩
  cases n with
  | zero => exact hw.elim
  | succ n =>
    refine wpAny_mono (h0 env ls' H' _ Ar { s with heap := h', toks := tk } ρ' ⟨X.eo, X.hA, R', L'⟩ hw fun _ _ h => asB_is h) ?_ fun _ _ q => q.elim
    rintro b' _ ⟨H1, h1', tk1, ρ1, q, R1, G1⟩
    have G1' := G'.trans G1.any
    cases b' with
    | true =>
      rw [if_pos rfl]
      refine wpAny_mono (h1 env ls' H1 _ R Ar { s with heap := h1', toks := tk1 } ρ1 ⟨X.eo, X.hA, R1, L'.grow G1⟩ (q.t rfl)) ?_ fun _ _ q => q.elim
      rintro f _ p
      cases p with
      | next ls1 H2 h2' tk2 ρ2 a R2 G2 L2 => exact ⟨n, Nat.lt_succ_self n, h2', tk2, ρ2, ls1, H2, R2, G1'.trans G2, L2, a⟩
      | ret v v' H2 h2' tk2 ρ2 q R2 G2 r => exact .ret v v' H2 h2' tk2 ρ2 q R2 (G1'.trans G2) r
    | false =>
      rw [if_neg (by decide)]
      exact wpAny_execs_nil (.next ls' H1 h1' tk1 ρ1 (q.f rfl) R1 G1' (L'.grow G1))
/-- where a for stands -/
inductive FInv (Z : Wd) (St : Nat → Heap → Prop) (wr : List Addr) (ρ ρ1 : List Addr) (env : Env) (nl : List Str) (s : Shared) (g : Option (Nat × AO)) (is : List Nat) (body : List AV → Hp → QL → QV → Prop) (its : List (List AV)) (A : QL) (R : QV) (n : Nat) : Shared → Prop
  | mk (h' : Heap) (tk : Nat) (ρ' : List Addr) (ls' : List AV) (H' : Hp) (i : Nat) (st : St i h') (R' : HR Z ρ' H' h') (G : Grow (XE env ++ wr) ρ ρ' s.heap h') (L : LR Z env nl ls' ρ' h') (w : ∀ b ∈ wr, b ∉ ρ') (pre : ρ1 <+: ρ')
      (f : forL g is body (its.drop i) ls' H' A R) (hi : i ≤ its.length) (hn : n = its.length + 1 - i) : FInv Z St wr ρ ρ1 env nl s g is body its A R n { s with heap := h', toks := tk }
theorem Grow.unw {X wr ρ ρ' : List Addr} {h h' : Heap} (G : Grow (X ++ wr) ρ ρ' h h') (hw : ∀ b ∈ wr, h.get? b = none) : Grow X ρ ρ' h h' :=
  ⟨G.pre, G.new, fun b o hn hX e => G.keep b o hn (fun m => by
    rcases List.mem_append.mp m with m | m
    · exact hX m
    · rw [hw b m] at e; cases e) e, G.live⟩
theorem xs_fr (Ww : WF Z) {W : Nat} {is : List Nat} {k : IK} {src : List E} {b : List S} {tg it : Expr} {y : List Stmt} {p : Pos} (nd : nl.Nodup) (hk : k ≠ .keys) (ht : Tgt tb nl tg is) (hi : IterT Z tb nl F d k src it tg) (hfs : ∀ env x, foldedSetIterable it env x = pure x)
    (h1 : XSs Z tb nl F d W b y) : XS Z tb nl F d W (.fr is k src b) (.For tg it y [] p) := by
  intro env ls H A R Ar s ρ X hv
  have hA := X.hA
  have hTX : TX env tb (XE env) tg := by
    cases ht
    · exact .inl rfl
    · exact ⟨.inl rfl, .inl rfl⟩
  refine wpAny_For ((iter_sound (K := fun its g H => forL g is (exs Z.P F W b) its ls H A R) Ww hi X hv.go).mono fun xv s1 hx => Wp.mono hx ?_) (hfs env)
  rintro itv _ ⟨its, g, H1, _, q, ⟨I, fp, wr, St, h1', tk1, ρ1, rfl, hItr, hst, R1, G1, hwρ, hwf, hfl, hkf, hfr⟩⟩
  have hXw : ∀ b ∈ XE env, b ∉ wr := fun b hb m => by obtain ⟨o, e⟩ := X.L.liveX b hb; rw [hwf b m] at e; cases e
  have hwb : ∀ b ∈ wr, Z.h₀.get? b = none := fun b hb => none_base X.R (hwf b hb)
  have hkf' := hkf hk
  have fpX : ∀ b ∈ fp, b ∉ XE env := fun b hb m => hXw b m (hkf' b hb)
  have wide : ∀ x ∈ XE env, x ∈ XE env ++ wr := fun x hx => List.mem_append_left _ hx
  refine codeAny_forLoop_any (FInv Z St wr ρ ρ1 env nl s g is (exs Z.P F W b) its A R) ?_ (its.length + 1) ⟨h1', tk1, ρ1, ls, H1, 0, hst, R1, G1.any, X.L.grow G1, hwρ, List.prefix_rfl, q, Nat.zero_le _, rfl⟩
  rintro n _ ⟨h', tk, ρ', ls', H', i, hst', R', G', L', hwρ', hpre, hfor, hil, rfl⟩
  cases hdr : its.drop i with
  | nil =>
    have hi' : i = its.length := drop_end hdr hil
    subst hi'
    rw [hdr] at hfor
    obtain ⟨hkept, q⟩ := hfor
    refine wpAny_mono (hItr.done H' ρ' { s with heap := h', toks := tk } (fun r s1 => r = none ∧ PX Z env nl ρ s A R .next s1) hkept hpre hwρ' R' hst' fun h3 tk3 hk3 => ?_) (fun r s1 q => ?_) fun _ _ q => q.elim
    · exact ⟨rfl, .next ls' H' h3 tk3 ρ' q (R'.tail hwρ' hwb hk3) ((G'.unw hwf).tail hwf hk3) (L'.keeps fun b hb o e => hk3 b o (hXw b hb) e)⟩
    · obtain ⟨rfl, q⟩ := q
      exact wpAny_execs_nil q
  | cons itm rest =>
    obtain ⟨hilt, hig, hrest⟩ := drop_cons hdr
    rw [hdr] at hfor
    obtain ⟨hkept, hlen, hbody⟩ := hfor
    refine wpAny_mono (hItr.item i itm H' ρ' { s with heap := h', toks := tk } (fun v s2 => Wp Z Ar (assign tg env v) (fun _ s₃ => Wp Z Ar (execs y env) (fun f s₄ => match f with
      | .next | .cont => ∃ m, m < its.length + 1 - i ∧ FInv Z St wr ρ ρ1 env nl s g is (exs Z.P F W b) its A R m s₄
      | .brk => PX Z env nl ρ s A R .next s₄
      | .ret v => PX Z env nl ρ s A R (.ret v) s₄) s₃) s2) hig hkept hpre hwρ' R' hst' fun v h3 tk3 hk3 hst3 hiv => ?_) (fun r' s1 q => ?_) fun _ _ q => q.elim
    · have L3 := L'.keeps fun b hb o e => hk3 b o (hXw b hb) e
      have G3 : Grow (XE env ++ wr) ρ ρ' s.heap h3 := G'.trans ((Grow.writes hk3 (hItr.live _ _ hst3)).wide fun x hx => List.mem_append_right _ hx)
      refine asg_sound (X := XE env) (s := { s with heap := h3, toks := tk3 }) hA.hh X.eo nd (R'.tail hwρ' hwb hk3) L3 hTX ht hiv fun h4 tk4 R4 G4 L4 hk4 => ?_
      have hst4 : St (i + 1) h4 := hItr.frame _ _ _ hst3 fun b hb o e => hk4 b o (fpX b hb) e
      have G4' : Grow (XE env ++ wr) ρ ρ' s.heap h4 := G3.trans (G4.wide wide)
      -- the body
      refine wpAny_mono (h1 env _ H' _ R Ar { s with heap := h4, toks := tk4 } ρ' ⟨X.eo, hA, R4, L4⟩ hbody) ?_ fun _ _ q => q
      rintro f _ p
      cases p with
      | next ls1 H2 h5 tk5 ρ5 q R5 G5 L5 =>
        refine ⟨its.length + 1 - (i + 1), turn_lt hilt, h5, tk5, ρ5, ls1, H2, i + 1, hItr.frame _ _ _ hst4 fun b hb o e => G5.keep b o (hwρ' b (hkf' b hb)) (fpX b hb) e, R5, G4'.trans (G5.wide wide), L5, fun b hb m => ?_, hpre.trans G5.pre, by rw [hrest]; exact q, hilt, rfl⟩
        rcases G5.new b m with m | m
        · exact hwρ' b hb m
        · obtain ⟨o, e⟩ := hItr.live _ _ hst4 b hb
          rw [show h4.get? b = none from m] at e; cases e
      | ret v v' H2 h5 tk5 ρ5 q R5 G5 r => exact .ret v v' H2 h5 tk5 ρ5 q R5 ((G4'.trans (G5.wide wide)).unw hwf) r
    · cases r' with
      | none => exact q.elim
      | some v =>
        refine wpAny_mono q (fun _ s2 q2 => wpAny_mono q2 (fun _ s3 q3 => wpAny_mono q3 (fun f s4 q4 => ?_) fun _ _ z => z.elim) fun _ _ z => z.elim) fun _ _ z => z.elim
        cases f <;> exact q4
end
end Mine
end
-- U20
section
set_option tactic.hygienic false
namespace Mine
open PySem PySem.W PyProof.Rows PySem.Calls PySem.SeqAt
/-- what a statement shows of itself -/
structure SV where
  ts : List Expr := []
  x : Expr := default
  ys : List Stmt := []
  zs : List Stmt := []
  o : Option Expr := none
  p : Pos := default
noncomputable def sview : Stmt → SV
  | .Assign ts v p => { ts := ts, x := v, p := p }
  | .Expr x p => { x := x, p := p }
  | .If x y z p => { x := x, ys := y, zs := z, p := p }
  | .For t x y _ p => { ts := [t], x := x, ys := y, p := p }
  | .While x y _ p => { x := x, ys := y, p := p }
  | .Return o p => { o := o, p := p }
  | _ => {}
structure SB where
  f : Stmt → Stmt
  w : Stmt → Bool
structure SBs where
  f : List Stmt → List Stmt
  w : List Stmt → Bool
noncomputable def locOk (tb : Tb) (nl : List Str) (i : Nat) : Bool := (nl[i]?).isSome && isLoc tb (nth nl i)
noncomputable def tg0 (st : Stmt) : Expr := hd (sview st).ts
noncomputable def swOk (tb : Tb) (k : Nat) (xs : List Str) (ts vs : List Expr) : Bool := bif k == 4 then swK tb ts vs == some none || swK tb ts vs == some (some xs) else true
noncomputable def isCall (e : E) : Bool := E.casesOn e (fun _ => false) (fun _ => false) (fun _ => false) (fun _ _ _ => false) (fun _ _ _ => false) (fun _ _ => false) (fun _ _ => false) (fun _ => false) (fun _ _ _ => false) (fun _ => false) (fun _ => false) false (fun _ _ => false) (fun _ _ => true) (fun _ _ => false) (fun _ _ _ => true) (fun _ _ _ => true)
  (fun _ _ => false) (fun _ _ => false) (fun _ _ => false) (fun _ _ => false) (fun _ => false) (fun _ _ _ _ _ _ => false)
noncomputable def subR (o i : RB) (t : Expr) : Expr := .Subscript (o.f (kid t 0)) (i.f (kid t 1)) t.pos
noncomputable def subW (o i : RB) (t : Expr) : Bool := o.w (kid t 0) && i.w (kid t 1)
mutual
noncomputable def RS (c : CkI) (tb : Tb) (nl : List Str) : S → SB
  | .asg i e => ⟨fun st => .Assign [.Name (nth nl i) (tg0 st).pos] ((R c e tb nl).f (sview st).x) (sview st).p, fun st => locOk tb nl i && (R c e tb nl).w (sview st).x⟩
  | .asgT is e => ⟨fun st => .Assign [.Tuple (tgNames (is.map (nth nl)) (vw (tg0 st)).ks) (vw (tg0 st)).n (tg0 st).pos] ((R c e tb nl).f (sview st).x) (sview st).p,
      fun st => decide is.Nodup && (is.all (locOk tb nl) && ((R c e tb nl).k != 1 && (swOk tb (R c e tb nl).k (is.map (nth nl)) (tgNames (is.map (nth nl)) (vw (tg0 st)).ks) (vw ((R c e tb nl).f (sview st).x)).ks && (R c e tb nl).w (sview st).x)))⟩
  | .setI o i e => ⟨fun st => .Assign [subR (R c o tb nl) (R c i tb nl) (tg0 st)] ((R c e tb nl).f (sview st).x) (sview st).p, fun st => (R c e tb nl).k != 1 && ((R c e tb nl).w (sview st).x && subW (R c o tb nl) (R c i tb nl) (tg0 st))⟩
  | .setI2 o1 i1 o2 i2 e => ⟨fun st => .Assign [.Tuple [subR (R c o1 tb nl) (R c i1 tb nl) (kid (tg0 st) 0), subR (R c o2 tb nl) (R c i2 tb nl) (kid (tg0 st) 1)] (vw (tg0 st)).n (tg0 st).pos] ((R c e tb nl).f (sview st).x) (sview st).p,
      fun st => (R c e tb nl).k != 1 && ((R c e tb nl).w (sview st).x && (subW (R c o1 tb nl) (R c i1 tb nl) (kid (tg0 st) 0) && subW (R c o2 tb nl) (R c i2 tb nl) (kid (tg0 st) 1)))⟩
  | .setA o a e => ⟨fun st => .Assign [.Attribute ((R c o tb nl).f (kid (tg0 st) 0)) (c.nm a) (tg0 st).pos] ((R c e tb nl).f (sview st).x) (sview st).p, fun st => c.as.contains a && ((R c e tb nl).k != 1 && ((R c e tb nl).w (sview st).x && (R c o tb nl).w (kid (tg0 st) 0)))⟩
  | .ex e => ⟨fun st => .Expr ((R c e tb nl).f (sview st).x) (sview st).p, fun st => isCall e && ((R c e tb nl).k != 1 && (R c e tb nl).w (sview st).x)⟩
  | .iff t a b => ⟨fun st => .If ((R c t tb nl).f (sview st).x) ((RSs c tb nl a).f (sview st).ys) ((RSs c tb nl b).f (sview st).zs) (sview st).p, fun st => (R c t tb nl).w (sview st).x && ((RSs c tb nl a).w (sview st).ys && (RSs c tb nl b).w (sview st).zs)⟩
  | .fr is k src b => ⟨fun st => .For (tgR (is.map (nth nl)) (tg0 st)) (itR k (Rs c src tb nl) (sview st).x) ((RSs c tb nl b).f (sview st).ys) [] (sview st).p,
      fun st => is.all (locOk tb nl) && (itW k src.length (Rs c src tb nl) (sview st).x tb (is.map (nth nl)) && (!isKeys k && (RSs c tb nl b).w (sview st).ys))⟩
  | .wh t b => ⟨fun st => .While ((R c t tb nl).f (sview st).x) ((RSs c tb nl b).f (sview st).ys) [] (sview st).p, fun st => (R c t tb nl).w (sview st).x && (RSs c tb nl b).w (sview st).ys⟩
  | .ret e => ⟨fun st => .Return (Option.casesOn (sview st).o none fun x => some ((R c e tb nl).f x)) (sview st).p, fun st => Option.casesOn (sview st).o ((R c e tb nl).k == 3) fun x => (R c e tb nl).w x⟩
noncomputable def RSs (c : CkI) (tb : Tb) (nl : List Str) : List S → SBs
  | [] => ⟨fun _ => [], fun _ => true⟩
  | s :: r => ⟨fun st => (RS c tb nl s).f (st.headD default) :: (RSs c tb nl r).f st.tail, fun st => (RS c tb nl s).w (st.headD default) && (RSs c tb nl r).w st.tail⟩
end
section
variable {Z : Wd} {tb : Tb} {nl : List Str} {F : Fun} {d : Nat}
theorem locOk_at {i : Nat} (h : locOk tb nl i = true) : LocAt tb nl i := by
  obtain ⟨h1, h2⟩ := andT h
  obtain ⟨y, hy⟩ := Option.isSome_iff_exists.mp h1
  exact ⟨by rw [hy]; show _ = some ((nl[i]?).getD _); rw [hy]; rfl, h2⟩
noncomputable def kE (e : E) : Nat := E.casesOn e (fun v => litK v) (fun _ => 0) (fun _ => 0) (fun _ _ _ => 0) (fun _ _ _ => 0) (fun _ _ => 0) (fun _ _ => 0) (fun _ => 0) (fun _ _ _ => 0) (fun _ => 0) (fun _ => 4) 0 (fun _ _ => 0) (fun _ _ => 2) (fun _ _ => 2) (fun _ _ _ => 0) (fun _ _ _ => 0)
  (fun _ _ => 0) (fun _ _ => 0) (fun _ _ => 0) (fun _ _ => 0) (fun _ => 0) (fun _ _ _ _ _ _ => 1)
theorem k_is {c : CkI} {e : E} : (R c e tb nl).k = kE e := by
  cases e with
  | prim p _ => cases p <;> rfl
  | _ => rfl
theorem litK_inv {v : AV} {n : Nat} (h : litK v = n + 1) : v = .none := by
  cases v with
  | none => rfl
  | _ => exact no_num h rfl
theorem k_comp {c : CkI} {e : E} (h : (R c e tb nl).k = 1) : ∃ cap k src tn cond elt, e = .comp cap k src tn cond elt := by
  have h := k_is.symm.trans h
  cases e with
  | comp _ _ _ _ _ _ => exact ⟨_, _, _, _, _, _, rfl⟩
  | lit v => cases litK_inv h; exact no_num h rfl
  | _ => exact no_num h rfl
theorem k_none {c : CkI} {e : E} (h : (R c e tb nl).k = 3) : e = .lit .none := by
  have h := k_is.symm.trans h
  cases e with
  | lit v => exact congrArg E.lit (litK_inv h)
  | _ => exact no_num h rfl
theorem no_true {p : Prop} (h : false = true) : p := by cases h
theorem call_is {c : CkI} {e : E} {x : Expr} (h : isCall e = true) : ∃ f xs ks q, (R c e tb nl).f x = .Call f xs ks q := by
  cases e with
  | call f es => exact ⟨_, _, _, _, rfl⟩
  | bm m o es => exact ⟨_, _, _, _, rfl⟩
  | um m o es => exact ⟨_, _, _, _, rfl⟩
  | _ => exact no_true h
theorem sw_ok {x : Expr} {k : Nat} (h : RP x k) {ts : List Expr} {xs : List Str} {m : Nat} {p : Pos} (hs : swOk tb k xs ts (vw x).ks = true) :
    (∀ env, EO env tb → swappedStores [.Tuple ts m p] x env = pure none) ∨ ∀ env, EO env tb → swappedStores [.Tuple ts m p] x env = pure (some xs) := by
  by_cases hk : k = 4
  · obtain ⟨a, b, e⟩ := h.tup hk
    subst hk
    rw [e]
    rcases Bool.or_eq_true_iff.mp hs with hs | hs
    · exact .inl fun env eo => swK_ok eo (beq_iff_eq.mp hs)
    · exact .inr fun env eo => swK_ok eo (beq_iff_eq.mp hs)
  · exact .inl fun env _ => h.ntup hk _ _ _ _
theorem sw_sub {x : Expr} {k : Nat} (h : RP x k) {y1 z1 y2 z2 : Expr} {p1 p2 p : Pos} {m : Nat} : ∀ env, EO env tb → swappedStores [.Tuple [.Subscript y1 z1 p1, .Subscript y2 z2 p2] m p] x env = pure none := by
  by_cases hk : k = 4
  · obtain ⟨a, b, e⟩ := h.tup hk
    rw [e]
    have key : ∀ b1 b2 b4 b5 names, swT b1 b2 true b4 b5 names = some none := fun b1 b2 b4 b5 names => by cases b1 <;> cases b2 <;> rfl
    exact fun env eo => swK_ok eo (key _ _ _ _ _)
  · exact fun env _ => h.ntup hk _ _ _ _
theorem tgt_of {is : List Nat} {t : Expr} (h : ∀ i ∈ is, LocAt tb nl i) (hn : (is.map (nth nl)).length = 1 ∨ (is.map (nth nl)).length = 2) : Tgt tb nl (tgR (is.map (nth nl)) t) is := by
  rw [List.length_map] at hn
  rcases hn with hn | hn
  · obtain ⟨i, rfl⟩ := List.length_eq_one_iff.mp hn
    have q := h i (.head _)
    exact .one q.n q.l
  · obtain ⟨i, j, rfl⟩ := two_of hn
    have q := h i (.head _)
    have r := h j (.tail _ (.head _))
    exact .two q.n q.l r.n r.l
theorem cs_all (Ww : WF Z) (hF : FnS Z F d) (nd : nl.Nodup) (W : Nat) (b : List S) : ∀ st, (RSs (ckI Z) tb nl b).w st = true → XSs Z tb nl F d W b ((RSs (ckI Z) tb nl b).f st) := by
  have E1 : ∀ {e : E} {x : Expr}, (R (ckI Z) e tb nl).w x = true → Ev Z tb nl F d e ((R (ckI Z) e tb nl).f x) := fun {e x} h => ((ck_all Ww hF e).o tb nl x h).1
  have T1 : ∀ {e : E} {x : Expr}, (R (ckI Z) e tb nl).w x = true → Tr Z tb nl F d e ((R (ckI Z) e tb nl).f x) := fun {e x} h => ((ck_all Ww hF e).o tb nl x h).2
  have N1 : ∀ {e : E} {x : Expr}, (R (ckI Z) e tb nl).w x = true → ((R (ckI Z) e tb nl).k != 1) = true → NoComp ((R (ckI Z) e tb nl).f x) := fun h g => (R_plain h).comp (bne_iff_ne.mp g)
  have EL' : ∀ {tb nl} {es : List E} {xs : List Expr}, (Rs (ckI Z) es tb nl).w xs = true → EvL Z tb nl F d es ((Rs (ckI Z) es tb nl).f xs) := fun {tb nl es} => by
    induction es with
    | nil => exact fun _ => .nil
    | cons e es ih => exact fun h => .cons ((ck_all Ww hF e).o tb nl _ (andT h).1).1 (ih (andT h).2)
  refine S.rec_1 (motive_1 := fun b => ∀ st, (RS (ckI Z) tb nl b).w st = true → XS Z tb nl F d W b ((RS (ckI Z) tb nl b).f st)) (motive_2 := fun b => ∀ st, (RSs (ckI Z) tb nl b).w st = true → XSs Z tb nl F d W b ((RSs (ckI Z) tb nl b).f st)) ?_ ?_ ?_ ?_ ?_ ?_ ?_ ?_ ?_ ?_ ?_ ?_ b
  · intro i e st hw
    obtain ⟨w1, w2⟩ := andT hw
    have q := locOk_at w1
    by_cases hk : (R (ckI Z) e tb nl).k = 1
    · obtain ⟨cap, k, src, tn, cond, elt, rfl⟩ := k_comp hk
      obtain ⟨el, tg, it, ifs, cs, ts, is, e, C⟩ := ck_comp Ww (fun tb nl xs h => EL' h) (fun c _ => ck_all Ww hF c) (ck_all Ww hF elt) w2
      have r := xs_asg_comp (W := W) (p := (tg0 st).pos) (q := (sview st).p) (pos := (sview st).x.pos) Ww C nd q.n q.l
      rw [← e] at r
      exact r
    · exact xs_asg nd q.n q.l ((R_plain w2).comp hk) (E1 w2)
  · intro is e st hw
    obtain ⟨w1, hw⟩ := andT hw
    obtain ⟨w2, hw⟩ := andT hw
    obtain ⟨w3, hw⟩ := andT hw
    obtain ⟨w4, w5⟩ := andT hw
    exact xs_asgT Ww nd (of_decide_eq_true w1) (N1 w5 w3) (fun i m => locOk_at (List.all_eq_true.mp w2 i m)) (sw_ok (R_plain w5) w4) (E1 w5)
  · intro o i e st hw
    obtain ⟨w1, hw⟩ := andT hw
    obtain ⟨w2, hw⟩ := andT hw
    obtain ⟨w3, w4⟩ := andT hw
    exact xs_setI Ww (N1 w2 w1) (E1 w2) (E1 w3) (E1 w4)
  · intro o1 i1 o2 i2 e st hw
    obtain ⟨w1, hw⟩ := andT hw
    obtain ⟨w2, hw⟩ := andT hw
    obtain ⟨w3, w4⟩ := andT hw
    exact xs_setI2 Ww (N1 w2 w1) (sw_sub (R_plain w2)) (E1 w2) (E1 (andT w3).1) (E1 (andT w3).2) (E1 (andT w4).1) (E1 (andT w4).2)
  · intro o a e st hw
    obtain ⟨w0, hw⟩ := andT hw
    obtain ⟨w1, hw⟩ := andT hw
    obtain ⟨w2, w3⟩ := andT hw
    exact xs_setA Ww (List.contains_iff_mem.mp w0) (N1 w2 w1) (E1 w2) (E1 w3)
  · intro e st hw
    obtain ⟨w0, hw⟩ := andT hw
    obtain ⟨w1, w2⟩ := andT hw
    exact xs_ex (call_is w0) (N1 w2 w1) (E1 w2)
  · intro t a b ha hb st hw
    obtain ⟨w1, hw⟩ := andT hw
    obtain ⟨w2, w3⟩ := andT hw
    exact xs_iff (T1 w1) (ha _ w2) (hb _ w3)
  · intro is k src b hb st hw
    obtain ⟨w1, hw⟩ := andT hw
    obtain ⟨w2, hw⟩ := andT hw
    obtain ⟨w3, w4⟩ := andT hw
    obtain ⟨i1, i2, i3⟩ := iter_ok (F := F) (d := d) (tg := tg0 st) (fun xs h => EL' h) w2
    refine xs_fr Ww nd (fun e => ?_) (tgt_of (fun i m => locOk_at (List.all_eq_true.mp w1 i m)) i1) i2 i3 (hb _ w4)
    rw [e] at w3
    cases w3
  · intro t b hb st hw
    obtain ⟨w1, w2⟩ := andT hw
    exact xs_wh (T1 w1) (hb _ w2)
  · intro e st hw
    show XS Z tb nl F d W (.ret e) (.Return (Option.casesOn (sview st).o none fun x => some ((R (ckI Z) e tb nl).f x)) (sview st).p)
    have hw : (Option.casesOn (sview st).o ((R (ckI Z) e tb nl).k == 3) fun x => (R (ckI Z) e tb nl).w x : Bool) = true := hw
    cases h : (sview st).o with
    | none =>
      rw [h] at hw
      cases k_none (beq_iff_eq.mp hw)
      exact xs_ret0
    | some x =>
      rw [h] at hw
      exact xs_ret (E1 hw)
  · exact fun _ _ => xss_nil
  · exact fun b bs hb hbs st hw => xss_cons (hb _ (andT hw).1) (hbs _ (andT hw).2)
end
end Mine
end
-- U21
section
set_option tactic.hygienic false
namespace Mine
open PySem PySem.W PyProof.Rows PySem.Calls PySem.SeqAt
section
variable {Z : Wd}
theorem lookup_ne {α : Type} {l : List (Str × α)} {x n : Str} {w : α} (h : x ≠ n) : ((n, w) :: l).lookup x = l.lookup x := by rw [List.lookup_cons, beq_eq_false_iff_ne.mpr h]
theorem lookup_hd {α : Type} {l : List (Str × α)} {x : Str} {w : α} : ((x, w) :: l).lookup x = some w := by rw [List.lookup_cons, beq_self_eq_true]
theorem key_in {α : Type} {l : List (Str × α)} {x : Str} {v : α} (h : (x, v) ∈ l) : x ∈ l.map (·.1) := List.mem_map.mpr ⟨_, h, rfl⟩
theorem lookup_nodup {α : Type} {l : List (Str × α)} {x : Str} {v : α} (nd : (l.map (·.1)).Nodup) (h : (x, v) ∈ l) : l.lookup x = some v := by
  induction l with
  | nil => cases h
  | cons p l ih =>
    rw [List.map_cons, List.nodup_cons] at nd
    cases h with
    | head => exact lookup_hd
    | tail _ h => exact (lookup_ne fun (e : x = p.1) => nd.1 (e ▸ key_in h)).trans (ih nd.2 h)
theorem lookup_some {α : Type} {l : List (Str × α)} {x : Str} {v : α} (h : (x, v) ∈ l) : ∃ w, l.lookup x = some w := by
  induction l with
  | nil => cases h
  | cons p l ih =>
    by_cases q : x = p.1
    · subst q; exact ⟨_, lookup_hd⟩
    · cases h with
      | head => exact absurd rfl q
      | tail _ h => obtain ⟨w, e⟩ := ih h; exact ⟨w, (lookup_ne q).trans e⟩
theorem bindL_skip {kd : Str → Option NameKind} {binds : List (Str × Value)} {m : Str → Option Value} {x : Str} (h : x ∉ binds.map (·.1)) : bindL kd binds m x = m x := by
  induction binds generalizing m with
  | nil => rfl
  | cons p r ih =>
    rw [List.map_cons, List.mem_cons, not_or] at h
    unfold bindL
    rw [ih h.2]
    by_cases q : kd p.1 = some .local
    · rw [if_pos q]; exact if_neg h.1
    · rw [if_neg q]
theorem bindL_get {kd : Str → Option NameKind} {binds : List (Str × Value)} {m : Str → Option Value} {x : Str} {v : Value} (nd : (binds.map (·.1)).Nodup) (h : (x, v) ∈ binds) (hk : kd x = some .local) : bindL kd binds m x = some v := by
  induction binds generalizing m with
  | nil => cases h
  | cons p r ih =>
    rw [List.map_cons, List.nodup_cons] at nd
    unfold bindL
    cases h with
    | head => rw [if_pos hk, bindL_skip nd.1]; exact if_pos rfl
    | tail _ h => exact ih nd.2 h
theorem bindC_skip {kd : Str → Option NameKind} {binds : List (Str × Value)} {m : Str → Option Value} {x : Str} (h : x ∉ binds.map (·.1)) : bindC kd binds m x = m x := by
  induction binds generalizing m with
  | nil => rfl
  | cons p r ih =>
    rw [List.map_cons, List.mem_cons, not_or] at h
    unfold bindC
    rw [ih h.2]
    by_cases q : kd p.1 = some .local
    · rw [if_pos q]
    · rw [if_neg q]; exact if_neg h.1
theorem bindC_get {kd : Str → Option NameKind} {binds : List (Str × Value)} {m : Str → Option Value} {x : Str} {v : Value} (nd : (binds.map (·.1)).Nodup) (h : (x, v) ∈ binds) (hk : kd x = some .cell) : bindC kd binds m x = some v := by
  induction binds generalizing m with
  | nil => cases h
  | cons p r ih =>
    rw [List.map_cons, List.nodup_cons] at nd
    unfold bindC
    cases h with
    | head => rw [if_neg (by rw [hk]; decide), bindC_skip nd.1]; exact if_pos rfl
    | tail _ h => exact ih nd.2 h
theorem cellsFrom_sub {names : List (Str × NameKind)} : ∀ {n : Nat} {acc : List (Str × Addr)} {p : Str × Addr}, p ∈ acc → p ∈ cellsFrom n names acc := by
  induction names with
  | nil => exact fun h => h
  | cons q r ih =>
    intro n acc p h
    unfold cellsFrom
    split
    · exact ih (.tail _ h)
    · exact ih h
theorem cellsFrom_has {names : List (Str × NameKind)} : ∀ {n : Nat} {acc : List (Str × Addr)} {x : Str}, (x, NameKind.cell) ∈ names → ∃ c, (x, c) ∈ cellsFrom n names acc := by
  induction names with
  | nil => exact fun h => (List.not_mem_nil h).elim
  | cons q r ih =>
    intro n acc x h
    unfold cellsFrom
    cases h with
    | head => rw [if_pos (by rfl)]; exact ⟨n, cellsFrom_sub (.head _)⟩
    | tail _ h => split <;> exact ih h
theorem cellsFrom_nodup {names : List (Str × NameKind)} : ∀ {n : Nat} {acc : List (Str × Addr)}, (names.map (·.1)).Nodup → (acc.map (·.1)).Nodup → (∀ p ∈ acc, p.1 ∉ names.map (·.1)) → ((cellsFrom n names acc).map (·.1)).Nodup := by
  induction names with
  | nil => exact fun _ h _ => h
  | cons q r ih =>
    intro n acc hn ha hd
    rw [List.map_cons, List.nodup_cons] at hn
    have hd' : ∀ p ∈ acc, p.1 ∉ r.map (·.1) := fun p m h => hd p m (.tail _ h)
    unfold cellsFrom
    split
    · refine ih hn.2 (List.nodup_cons.mpr ⟨fun m => ?_, ha⟩) fun p m => ?_
      · obtain ⟨p, hp, e⟩ := List.mem_map.mp m
        exact hd p hp (e ▸ .head _)
      · cases m with
        | head => exact hn.1
        | tail _ m => exact hd' p m
    · exact ih hn.2 ha hd'
theorem zip_mem {α β : Type} {xs : List α} {ys : List β} {j : Nat} {x : α} {y : β} (h1 : xs[j]? = some x) (h2 : ys[j]? = some y) : (x, y) ∈ xs.zip ys := by
  have : (xs.zip ys)[j]? = some (x, y) := by rw [List.getElem?_zip_eq_some]; exact ⟨h1, h2⟩
  exact List.mem_of_getElem? this
theorem zip_fst {α β : Type} {xs : List α} {ys : List β} (h : xs.length = ys.length) : (xs.zip ys).map (·.1) = xs := by
  rw [List.map_fst_zip (by lia)]
/-- what a def of the program must be -/
structure FnOk (Z : Wd) (f : Nat) (i : FnI) (fd : FuncData) (body : List Stmt) (nl : List Str) (dvs : List Value) : Prop where
  obj : ∃ o, Z.h₀.get? (Z.fa f) = some o ∧ o.data = .func fd
  hbody : fd.body = .stmts body
  kind : fd.scope.kind = .function
  co : fd.scope.isCoroutine = false
  gen : fd.scope.isGenerator = false
  gl : fd.globals = mainGlobals
  bl : fd.builtins = builtinsNs
  clos : fd.closure = []
  code : Z.h₀.CodeRec fd.code fd.qualname
  hlen : nl.length = i.nslots
  nd : nl.Nodup
  hp : i.nparams ≤ i.nslots
  ck : (RSs (ckI Z) fd.scope.names nl i.body).w body = true
  same : (RSs (ckI Z) fd.scope.names nl i.body).f body = body
  dfl : VRs Z [] i.defaults dvs
  bind : ((∀ x ∈ fd.scope.names, x.2 ≠ .cell) ∧ (∀ x ∈ nl.take i.nparams, fd.scope.names.lookup x = some .local) ∧
      ∀ (s : Shared) (vs : List Value), Z.K.In s.heap → vs.length ≤ i.nparams → i.nparams - vs.length ≤ dvs.length → BindsTo s fd ⟨vs, []⟩ ((nl.take i.nparams).zip (vs ++ dvs.drop (dvs.length - (i.nparams - vs.length))))) ∨
    ((fd.scope.names.map (·.1)).Nodup ∧ (∀ x ∈ nl.take i.nparams, fd.scope.names.lookup x = some .local ∨ fd.scope.names.lookup x = some .cell) ∧ dvs = [] ∧ ∀ vs : List Value, vs.length = i.nparams → bindArgs fd ⟨vs, []⟩ = pure ((nl.take i.nparams).zip vs))
theorem fill_ok {i : FnI} {args ls : List AV} {ρ : List Addr} {vs dvs : List Value} (h : fillArgs i args = some ls) (hp : i.nparams ≤ i.nslots) (r : VRs Z ρ args vs) (rd : VRs Z [] i.defaults dvs) :
    ∃ avs full, ls = avs ++ List.replicate (i.nslots - i.nparams) .unb ∧ avs.length = i.nparams ∧ VRs Z ρ avs full ∧ full = vs ++ dvs.drop (dvs.length - (i.nparams - vs.length)) ∧ vs.length ≤ i.nparams ∧ i.nparams - vs.length ≤ dvs.length ∧ full.length = i.nparams := by
  unfold fillArgs at h
  dsimp only at h
  split at h
  · rename_i hc
    cases h
    have h1 := r.length
    have h2 := rd.length
    refine ⟨_, _, rfl, ?_, r.append ((VRs.mono (List.nil_prefix) rd).drop (i.defaults.length - (i.nparams - args.length))), ?_, h1 ▸ hc.1, by rw [h1, h2]; exact hc.2, ?_⟩
    · rw [List.length_append, List.length_drop, Nat.sub_sub_self hc.2, Nat.add_sub_of_le hc.1]
    · rw [h1, h2]
    · rw [List.length_append, List.length_drop, h1, h2, Nat.sub_sub_self hc.2, Nat.add_sub_of_le hc.1]
  · cases h
variable (Z) in
/-- the program's defs and classes stand in the heap -/
structure FnsOk : Prop where
  fn : ∀ f i, Z.P.fn f = some i → ∃ fd body nl dvs, FnOk Z f i fd body nl dvs
  nolimit : Z.h₀.NoLimit
  cinit : ∀ c g, Z.P.cls c = some g → Z.P.fn c = none ∧ cv Z g = Z.fa g
theorem lr_init {env : Env} {nl : List Str} {avs : List AV} {full : List Value} {k np : Nat} {ρ : List Addr} {h : Heap} {m : Str → Option Value}
    (hlen : nl.length = np + k) (hav : avs.length = np) (hf : VRs Z ρ avs full)
    (hns : h.Ns env.locals m) (hm : ∀ (j : Nat) (x : Str) (v : Value), (nl.take np)[j]? = some x → full[j]? = some v → env.kindOf x = some .local → m x = some v)
    (hc : ∀ (j : Nat) (x : Str), nl[j]? = some x → env.kindOf x = some .cell → ∃ c v0, env.cells.lookup x = some c ∧ h.IsCell c v0 ∧ ∀ v, (nl.take np)[j]? = some x → full[j]? = some v → v0 = some v)
    (offL : env.locals ∉ ρ) (offC : ∀ p ∈ env.cells, p.2 ∉ ρ) (newL : Z.h₀.get? env.locals = none) (newC : ∀ p ∈ env.cells, Z.h₀.get? p.2 = none) (liveC : ∀ p ∈ env.cells, ∃ o, h.get? p.2 = some o)
    (apart : ∀ p ∈ env.cells, p.2 ≠ env.locals) (apartC : env.cells.Pairwise fun x y => x.2 ≠ y.2) : LR Z env nl (avs ++ List.replicate k .unb) ρ h := by
  have hin : ∀ {j : Nat} {v : AV}, (avs ++ List.replicate k .unb)[j]? = some v → v ≠ .unb → avs[j]? = some v ∧ j < np := fun {j v} e hv => by
    by_cases q : j < avs.length
    · rw [List.getElem?_append_left q] at e; exact ⟨e, by lia⟩
    · rw [List.getElem?_append_right (by lia)] at e
      have := List.mem_of_getElem? e
      rw [List.mem_replicate] at this
      exact absurd this.2 hv
  refine ⟨by simp [hlen, hav], ⟨m, hns, fun j x v h1 h2 h3 h4 => ?_⟩, fun j x v h1 h2 h4 => ?_, offL, offC, newL, newC, liveC, apart, apartC⟩
  · obtain ⟨h5, h6⟩ := hin h2 h3
    obtain ⟨v', e, r⟩ := hf.get h5
    exact ⟨v', hm j x v' (by rw [List.getElem?_take_of_lt h6]; exact h1) e h4, r⟩
  · obtain ⟨c, v0, a, b, q⟩ := hc j x h1 h4
    refine ⟨c, v0, a, b, fun hv => ?_⟩
    obtain ⟨h5, h6⟩ := hin h2 hv
    obtain ⟨v', e, r⟩ := hf.get h5
    exact ⟨v', q v' (by rw [List.getElem?_take_of_lt h6]; exact h1) e, r⟩
/-- what the end of a def's body hands on -/
theorem fn_end {Q : QV} {env : Env} {nl : List Str} {ρ : List Addr} {s : Shared} {h0 : Heap} {tk0 : Nat} {f : Flow} {s' : Shared} (hk : ∀ b o, s.heap.get? b = some o → h0.get? b = some o) (hX : ∀ b ∈ XE env, s.heap.get? b = none)
    (q : PX Z env nl ρ { s with heap := h0, toks := tk0 } (kEnd Q) Q f s') : PQ Z ρ s Q (match (generalizing := false) f with | .ret v => v | _ => .none) s' := by
  cases q with
  | next ls H' h' tk ρ' a R1 G L => exact ⟨.none, H', h', tk, ρ', a, R1, ((Grow.ext hk).trans G).drop0 hX, rfl⟩
  | ret v v' H' h' tk ρ' q R1 G r => exact ⟨v, H', h', tk, ρ', q, R1, ((Grow.ext hk).trans G).drop0 hX, r⟩
theorem AOk.deep {d : Nat} {A : Around} {env : Env} (h : AOk (d + 1) A) : AOk d (A.deeper env) where
  hh := h.hh
  dep := Nat.lt_of_le_of_lt (deep_le (by decide : 1 ≤ 4)) h.dep
  un := Nat.lt_of_le_of_lt (deep_le (by decide : 3 ≤ 10)) h.un
/-- a call of a def, given that calls one level down are sound -/
theorem call_fn (Ww : WF Z) (Fo : FnsOk Z) {W d : Nat} {F : Fun} (hF : FnS Z F d) {f : Nat} {i : FnI} (hi : Z.P.fn f = some i) {args : List AV} {H : Hp} {Q : QV} {A : Around} {s : Shared} {ρ : List Addr} {vs : List Value}
    (e : fnRun Z.P F W i args H Q) (hh : A.handled = none) (hdep : A.depth + 1 + 4 * d + 20 < recursionLimit) (hun : A.units + 3 + 10 * d + 100 < cLine) (R : HR Z ρ H s.heap) (rv : VRs Z ρ args vs)
    {RR : Result → Shared → Prop} (hRR : ∀ v' s', PQ Z ρ s Q v' s' → RR (.ok (.ret v')) s') : codeAny (model Z.prog Z.w) A (.call (.ref (Z.fa f)) ⟨vs, []⟩) RR s := by
  obtain ⟨fd, body, nl, dvs, Ok⟩ := Fo.fn f i hi
  obtain ⟨o, ho, hd⟩ := Ok.obj
  have hroom : A.depth < recursionLimit := Nat.lt_of_le_of_lt (Nat.le_trans (Nat.le_add_right _ _) (Nat.le_trans (Nat.le_add_right _ _) (Nat.le_add_right _ _))) hdep
  have hA : ∀ env, AOk d (A.deeper env) := fun env => ⟨hh, hdep, hun⟩
  obtain ⟨ls, hfill, e⟩ := e
  obtain ⟨avs, full, rfl, hav, rf, hfull, hle, hmiss, hfl⟩ := fill_ok hfill Ok.hp rv Ok.dfl
  have hnl : nl.length = i.nparams + (i.nslots - i.nparams) := by rw [Ok.hlen, Nat.add_sub_of_le Ok.hp]
  have hnt : (nl.take i.nparams).length = i.nparams := by rw [List.length_take, Ok.hlen, Nat.min_eq_left Ok.hp]
  have ndt : (nl.take i.nparams).Nodup := Ok.nd.sublist (List.take_sublist ..)
  have hzn : (((nl.take i.nparams).zip full).map (·.1)) = nl.take i.nparams := zip_fst (by rw [hnt, hfl])
  have hxs := cs_all (tb := fd.scope.names) Ww hF Ok.nd W i.body body Ok.ck
  rw [Ok.same] at hxs
  have hin : ∀ x ∈ (nl.take i.nparams).zip full, x.1 ∈ nl.take i.nparams := fun x hx => by rw [← hzn]; exact List.mem_map.mpr ⟨x, hx, rfl⟩
  rcases Ok.bind with ⟨hnc, hloc, hb⟩ | ⟨hnd, hloc, hdv, hb⟩
  · have hbs := hb s vs (R.kin Ww.toWFK) hle hmiss
    rw [← hfull] at hbs
    refine codeAny_call_def hroom (R.base _ _ ho) hd (Fo.nolimit.keeps R.base) (Ok.code.keeps R.base) Ok.hbody hbs hnc (fun x hx => hloc _ (hin x hx)) (fun h1 hns hk => ?_) Ok.co Ok.gen Ok.kind
    have eo : EO (callEnv fd s.heap.objs.size (Z.fa f)) fd.scope.names := ⟨rfl, Ok.kind, Ok.gl, Ok.bl⟩
    have hcells : (callEnv fd s.heap.objs.size (Z.fa f)).cells = [] := Ok.clos
    have hLn : (callEnv fd s.heap.objs.size (Z.fa f)).locals = s.heap.objs.size := rfl
    have no : ∀ {P : Str × Addr → Prop}, ∀ p ∈ (callEnv fd s.heap.objs.size (Z.fa f)).cells, P p := fun p m => by rw [hcells] at m; cases m
    have L : LR Z (callEnv fd s.heap.objs.size (Z.fa f)) nl (avs ++ List.replicate (i.nslots - i.nparams) .unb) ρ h1 := by
      refine lr_init hnl hav rf hns (fun j x v h1 h2 _ => ?_) (fun j x h1 h2 => ?_) (fresh_rho R none_size) no (none_base R none_size) no no no (by rw [hcells]; exact List.Pairwise.nil)
      · refine lookup_nodup ?_ (List.mem_reverse.mpr (zip_mem h1 h2))
        rw [List.map_reverse, hzn]
        exact List.pairwise_reverse.mpr (ndt.imp fun h => Ne.symm h)
      · rw [kind_of eo] at h2
        exact absurd rfl (hnc _ (mem_of_lookup h2))
    have q := hxs (callEnv fd s.heap.objs.size (Z.fa f)) _ H _ _ (A.deeper (callEnv fd s.heap.objs.size (Z.fa f))) { s with heap := h1, toks := s.toks + ((nl.take i.nparams).zip full).length } ρ ⟨eo, hA _, R.ext hk, L⟩ e
    refine wpAny_mono q (fun fl s' px => hRR _ _ (fn_end hk (fun b hb => ?_) px)) fun _ _ z => z.elim
    rw [XE, hcells] at hb
    cases hb with
    | head => exact none_size
    | tail _ m => cases m
  · subst hdv
    have hvl : vs.length = i.nparams := Nat.le_antisymm hle (Nat.sub_eq_zero_iff_le.mp (Nat.le_zero.mp hmiss))
    have hfv : full = vs := by rw [hfull, List.drop_nil, List.append_nil]
    subst hfv
    have hkind : ∀ x ∈ (nl.take i.nparams).zip full, fd.scope.names.lookup x.1 = some .local ∨ (fd.scope.names.lookup x.1 = some .cell ∧ ((cellsFrom (s.heap.objs.size + 1) fd.scope.names []).lookup x.1).isSome = true) := fun x hx => by
      refine (hloc _ (hin x hx)).imp id fun hc => ⟨hc, ?_⟩
      obtain ⟨c, hc⟩ := cellsFrom_has (n := s.heap.objs.size + 1) (acc := []) (mem_of_lookup hc)
      obtain ⟨w, hw⟩ := lookup_some hc
      rw [hw]; rfl
    refine codeAny_call_cells hroom (R.base _ _ ho) hd (Fo.nolimit.keeps R.base) (Ok.code.keeps R.base) Ok.hbody (hb full hvl) Ok.clos hkind (fun s1 hin => ?_) Ok.co Ok.gen Ok.kind
    have eo : EO (callEnvC fd s.heap.objs.size (Z.fa f)) fd.scope.names := ⟨rfl, Ok.kind, Ok.gl, Ok.bl⟩
    obtain ⟨⟨⟨h1, tk1, rfl⟩, hns, hk, hfr⟩, hcell, hap, habove⟩ := hin
    have hLn : (callEnvC fd s.heap.objs.size (Z.fa f)).locals = s.heap.objs.size := rfl
    have hge : ∀ a, s.heap.objs.size ≤ a → s.heap.get? a = none := fun a ha => by
      cases q : s.heap.get? a with
      | none => rfl
      | some o => exact absurd (Heap.lt_size q) (Nat.not_lt.mpr ha)
    have hcn : ∀ p ∈ (callEnvC fd s.heap.objs.size (Z.fa f)).cells, s.heap.get? p.2 = none := fun p hp => hge _ (Nat.le_of_lt (by have := habove p.1 p.2 hp; rwa [hLn] at this))
    have hcnd : (((callEnvC fd s.heap.objs.size (Z.fa f)).cells).map (·.1)).Nodup := cellsFrom_nodup hnd List.nodup_nil nofun
    have L : LR Z (callEnvC fd s.heap.objs.size (Z.fa f)) nl (avs ++ List.replicate (i.nslots - i.nparams) .unb) ρ h1 := by
      refine lr_init hnl hav rf hns (fun j x v h1 h2 h3 => bindL_get (by rw [hzn]; exact ndt) (zip_mem h1 h2) h3) (fun j x h1 h2 => ?_) (fresh_rho R (hge _ (Nat.le_refl _))) (fun p hp => fresh_rho R (hcn p hp)) (none_base R (hge _ (Nat.le_refl _))) (fun p hp => none_base R (hcn p hp)) (fun p hp => ?_) (fun p hp => Nat.ne_of_gt (habove p.1 p.2 hp)) hap
      · rw [kind_of eo] at h2
        obtain ⟨c, hc⟩ := cellsFrom_has (n := s.heap.objs.size + 1) (acc := []) (mem_of_lookup h2)
        obtain ⟨w, hw⟩ := lookup_some hc
        exact ⟨w, _, hw, hcell _ _ hw, fun v h3 h4 => bindC_get (by rw [hzn]; exact ndt) (zip_mem h3 h4) (by rw [kind_of eo]; exact h2)⟩
      · obtain ⟨o, ho, _⟩ := hcell p.1 p.2 (lookup_nodup hcnd hp)
        exact ⟨o, ho⟩
    have q := hxs (callEnvC fd s.heap.objs.size (Z.fa f)) _ H _ _ (A.deeper (callEnvC fd s.heap.objs.size (Z.fa f))) { s with heap := h1, toks := tk1 } ρ ⟨eo, hA _, R.ext hk, L⟩ e
    refine wpAny_mono q (fun fl s' px => hRR _ _ (fn_end hk (fun b hb => ?_) px)) fun _ _ z => z.elim
    rcases List.mem_cons.mp hb with rfl | hb
    · exact hge _ (Nat.le_refl _)
    · obtain ⟨p, hp, rfl⟩ := List.mem_map.mp hb
      exact hcn p hp
end
end Mine
end
-- U22
section
set_option tactic.hygienic false
namespace Mine
open PySem PySem.W PyProof.Rows PySem.Calls PySem.SeqAt
section
variable {Z : Wd}
theorem fn_all (Ww : WF Z) (Fo : FnsOk Z) (W : Nat) : ∀ d : Nat, FnS Z (run Z.P W d) d := by
  intro d
  induction d with
  | zero => exact ⟨fun f args H Q A s ρ vs' e => e.elim, run_gives 0⟩
  | succ d ih =>
    refine ⟨fun f args H Q A s ρ vs' e hA R rv => ?_, run_gives (d + 1)⟩
    have hdep := hA.dep
    have hun := hA.un
    have e : Option.casesOn (motive := fun _ => Prop) (Z.P.fn f) (Option.casesOn (motive := fun _ => Prop) (Z.P.cls f) False fun g => Option.casesOn (motive := fun _ => Prop) (Z.P.fn g) False fun i => fnRun Z.P (run Z.P W d) W i (.ref (H.length + 1) :: args) (H ++ [.attrs [], .inst f H.length]) (kNew (H.length + 1) Q))
      fun i => fnRun Z.P (run Z.P W d) W i args H Q := e
    cases hi : Z.P.fn f with
    | some i =>
      rw [hi] at e
      have hcv : cv Z f = Z.fa f := by unfold cv; rw [hi]
      rw [hcv]
      exact wpAny_call (call_fn Ww Fo ih hi e hA.hh (Nat.lt_of_le_of_lt (deep_le (by decide : 1 ≤ 4)) hdep) (Nat.lt_of_le_of_lt (deep_le (by decide : 3 ≤ 10)) hun) R rv fun v' s' q => q)
    | none =>
      rw [hi] at e
      cases hg : Z.P.cls f with
      | none => rw [hg] at e; exact e.elim
      | some g =>
      rw [hg] at e
      have e : Option.casesOn (motive := fun _ => Prop) (Z.P.fn g) False fun i => fnRun Z.P (run Z.P W d) W i (.ref (H.length + 1) :: args) (H ++ [.attrs [], .inst f H.length]) (kNew (H.length + 1) Q) := e
      cases hgi : Z.P.fn g with
      | none => rw [hgi] at e; exact e.elim
      | some i =>
      rw [hgi] at e
      have hcv : cv Z f = Z.ca f := by unfold cv; rw [hi]
      rw [hcv]
      have hcls := Ww.cls f g hg
      unfold clsOkB at hcls
      simp only [Bool.and_eq_true] at hcls
      obtain ⟨⟨⟨⟨⟨⟨⟨q1, q2⟩, q3⟩, q4⟩, q5⟩, q6⟩, q7⟩, q8⟩ := hcls
      have X := R.kin Ww.toWFK
      obtain ⟨hh, gs, dr, tk, os⟩ := s
      refine wpAny_call (make_core (makes_of X q5) (looks_findIn X (beq_iff_eq.mp q6)) (fun self => bind_fn X self (by unfold isFn at q7; exact beq_iff_eq.mp q7)) (.inl rfl) ?_)
      have hl := R.len
      have R1 : HR Z (ρ ++ [hh.objs.size]) (H ++ [.attrs []]) (hh.push emptyDict) :=
        R.push ⟨_, Heap.Ns1.of_empty (Heap.Ns.new hh (.type "dict")), fun y hy => absurd rfl hy, fun k _ => ⟨fun _ => rfl, fun v e => by cases e⟩⟩
      have hsz : (hh.push emptyDict).objs.size = hh.objs.size + 1 := Heap.size_push ..
      have R2 : HR Z (ρ ++ [hh.objs.size] ++ [(hh.push emptyDict).objs.size]) (H ++ [.attrs []] ++ [.inst f H.length]) ((hh.push emptyDict).push (instObj (Z.ca f) hh.objs.size)) := by
        refine R1.push ⟨hh.objs.size, ?_, Heap.get?_push_size _ rfl, g, hg⟩
        rw [List.getElem?_append_left (by rw [List.length_append, hl]; exact Nat.lt_succ_self _), ← hl, List.getElem?_concat_length]
      have hG : Grow [] ρ (ρ ++ [hh.objs.size] ++ [(hh.push emptyDict).objs.size]) hh ((hh.push emptyDict).push (instObj (Z.ca f) hh.objs.size)) := Grow.push.trans Grow.push
      have hx : VR Z (ρ ++ [hh.objs.size] ++ [(hh.push emptyDict).objs.size]) (.ref (H.length + 1)) (.ref (hh.objs.size + 1)) := by
        refine ⟨hh.objs.size + 1, ?_, rfl⟩
        rw [← hl, hsz, show ρ.length + 1 = (ρ ++ [hh.objs.size]).length from (List.length_append (as := ρ) (bs := [hh.objs.size])).symm, List.getElem?_concat_length]
      have e3 : fnRun Z.P (run Z.P W d) W i (.ref (H.length + 1) :: args) (H ++ [.attrs []] ++ [.inst f H.length]) (kNew (H.length + 1) Q) := by
        rw [List.append_assoc]; exact e
      refine call_fn (A := A.under (.builtin "type.__call__" ⟨.ref (Z.ca f) :: vs', []⟩)) (vs := .ref (hh.objs.size + 1) :: vs') (s := ⟨(hh.push emptyDict).push (instObj (Z.ca f) hh.objs.size), gs, dr, tk, os⟩) Ww Fo ih hgi e3 (show (A.under _).handled = none from hA.hh) ?_ ?_ R2 ⟨hx, rv.mono hG.pre⟩ fun v' s' q => ?_
      · rw [depth_under_make]; lia
      · rw [units_under_make]; lia
      · obtain ⟨v, H', h', tk', ρ', ⟨rfl, q⟩, R', G', r'⟩ := q
        cases r'
        exact ⟨rfl, _, H', h', tk', ρ', q, R', hG.trans G', hx.mono G'.pre⟩
end
end Mine
end
-- Head0
section
set_option tactic.hygienic false
set_option maxRecDepth 100000
namespace Mine
open PySem PySem.W PyProof.Rows
/- what the run of the text leaves on the heap, as far as it is asked for; the defs' own texts are the program's -/
abbrev thePr : Program := PySem.Challenge.rw_nt0029_01.row.prog
noncomputable def dN (i : Nat) : Stmt := (thePr.main.body[i]?).getD (.Pass default)
noncomputable def dM (i j : Nat) : Stmt := match dN i with
  | .ClassDef _ _ _ b _ _ _ _ _ _ _ => (b[j]?).getD (.Pass default)
  | s => s
noncomputable def st (x : String) : Str := Str.ofString x
noncomputable def sv (x : String) (t : Nat) : Value := .str (st x) t
noncomputable def kv (P : Params) (x : String) (t : Nat) (v : Value) : DictEntry := { hash := PyData.keyHash P (st x), key := sv x t, val := v }
noncomputable def oq (c : String) (vs : Array Value) : Obj := { cls := .type c, data := .seq vs }
noncomputable def of (c : String) (vs : Array Value) : Obj := { cls := .type c, data := .fields vs }
noncomputable def fO (s : Stmt) (q : String) (dfl mod code : Value) : Obj := match s with
  | .FunctionDef n as b _ _ _ sc _ _ _ => { cls := .type "function", data := .func { name := n, qualname := st q, params := as, body := .stmts b, scope := sc, globals := 3, closure := [], defaults := dfl, kwdefaults := .none, pyModule := mod, code := code } }
  | _ => default
noncomputable def asK : List Nat := [2, 3, 20, 22, 23, 24, 25, 29, 30, 36, 37, 43, 44, 45, 51, 52, 58, 59, 72, 73, 75, 76, 93, 94, 100, 101, 107, 108, 114, 115, 121, 122, 128, 129, 135, 136, 142, 143, 145, 146, 151, 157, 158, 164, 165, 171, 172, 178, 179, 192, 193, 199, 200, 206, 207, 213, 214, 220, 221, 223, 224, 234, 235, 248, 249, 255, 256, 262, 263, 269, 270, 272, 273, 278, 284, 285, 289, 290, 296, 297, 303, 304, 310, 311, 317, 318, 322, 323, 329, 330, 336, 337, 341, 342]
/-- the module's names, after its own -/
noncomputable def gEs (P : Params) : List DictEntry := [kv P "__doc__" 166 .none, kv P "__package__" 167 .none, kv P "__loader__" 168 (.builtin "__main__.__loader__#opaque"), kv P "__spec__" 169 .none, kv P "__annotations__" 170 (.ref 6), kv P "__builtins__" 171 (.ref 4), kv P "__file__" 173 (sv "/claim/cut.py" 172), kv P "__cached__" 174 .none, kv P "_wall" 193 (.ref 21), kv P "MAX_DEPTH" 197 (.int 125 196), kv P "STRONG" 201 (.ref 22), kv P "EMBEDDINGS" 206 (.ref 23), kv P "INITIATORS" 210 (.ref 24), kv P "REMOVED" 217 (.ref 25), kv P "SEPARATOR" 219 (sv "B" 218), kv P "bidi_kinds" 225 (.ref 30), kv P "isolate_pairs" 237 (.ref 37), kv P "bidi_first_strong" 249 (.ref 44), kv P "base_level" 259 (.ref 52), kv P "bidi_base" 268 (.ref 59), kv P "BidiEntry" 301 (.ref 76), kv P "BidiStack" 392 (.ref 146), kv P "explicit" 410 (.ref 158), kv P "bidi_is_right_isolate" 420 (.ref 165), kv P "MAX_CODE" 424 (.int 1114111 423), kv P "place_by_half" 435 (.ref 172), kv P "range_are_like" 445 (.ref 179), kv P "RangeMap" 514 (.ref 224), kv P "data_defaults" 524 (.ref 235), kv P "Data" 583 (.ref 273), kv P "_law_kinds" 603 (.ref 278), kv P "_law_opens" 609 (.ref 285), kv P "_law_deck" 615 (.ref 290), kv P "_law_draw" 625 (.ref 297), kv P "_law_first" 636 (.ref 304), kv P "_law_now" 645 (.ref 311), kv P "_law_frame" 658 (.ref 318), kv P "_law_explicit" 664 (.ref 323), kv P "_law_pairs" 676 (.ref 330), kv P "_law_deep_right" 687 (.ref 337), kv P "law" 693 (.ref 342)]
noncomputable def g3 (P : Params) (nm : String) (t m e : Nat) : Obj := { cls := .type "dict", data := .dict ⟨kv P "__name__" 165 (sv nm t) :: (gEs P).take m⟩ e }
noncomputable def heapT (P : Params) : Frag := [
  (20, of "code" #[sv "_wall" 187, sv "_wall" 188, sv "/claim/cut.py" 189, .int 1 0, .int 1 0, .int 0 0, .int 0 0, .int 3 0, .ref 15, .bool true, .int 181 0, .ref 16, .none, .ref 17, .ref 18, .ref 19, .int 191 0, .int 1 0, sv "/claim/cut.py" 192]),
  (22, oq "tuple" #[sv "L" 198, sv "R" 199, sv "AL" 200]),
  (23, oq "tuple" #[sv "RLE" 202, sv "LRE" 203, sv "RLO" 204, sv "LRO" 205]),
  (24, oq "tuple" #[sv "LRI" 207, sv "RLI" 208, sv "FSI" 209]),
  (25, oq "tuple" #[sv "RLE" 211, sv "LRE" 212, sv "RLO" 213, sv "LRO" 214, sv "PDF" 215, sv "BN" 216]),
  (29, of "code" #[sv "bidi_kinds" 220, sv "bidi_kinds" 221, sv "/claim/cut.py" 222, .int 11 0, .int 2 0, .int 0 0, .int 0 0, .int 3 0, .ref 26, .bool true, .int 181 0, .ref 27, .none, .none, .none, .ref 28, .int 223 0, .int 11 0, sv "/claim/cut.py" 224]),
  (30, fO (dN 8) "bidi_kinds" .none (sv "unicore.bidiparas" 194) (.ref 29)),
  (36, of "code" #[sv "isolate_pairs" 226, sv "isolate_pairs" 227, sv "/claim/cut.py" 228, .int 13 0, .int 1 0, .int 0 0, .int 0 0, .int 3 0, .ref 31, .bool true, .int 181 0, .ref 32, .none, .ref 33, .ref 34, .ref 35, .int 235 0, .int 13 0, sv "/claim/cut.py" 236]),
  (37, fO (dN 9) "isolate_pairs" .none (sv "unicore.bidiparas" 194) (.ref 36)),
  (43, of "code" #[sv "bidi_first_strong" 238, sv "bidi_first_strong" 239, sv "/claim/cut.py" 240, .int 26 0, .int 4 0, .int 0 0, .int 0 0, .int 3 0, .ref 38, .bool true, .int 181 0, .ref 39, .none, .ref 40, .ref 41, .ref 42, .int 247 0, .int 26 0, sv "/claim/cut.py" 248]),
  (44, fO (dN 10) "bidi_first_strong" .none (sv "unicore.bidiparas" 194) (.ref 43)),
  (45, oq "tuple" #[sv "auto" 250]),
  (51, of "code" #[sv "base_level" 251, sv "base_level" 252, sv "/claim/cut.py" 253, .int 40 0, .int 3 0, .int 0 0, .int 0 0, .int 3 0, .ref 46, .bool true, .int 181 0, .ref 47, .none, .ref 48, .ref 49, .ref 50, .int 257 0, .int 40 0, sv "/claim/cut.py" 258]),
  (52, fO (dN 11) "base_level" (.ref 45) (sv "unicore.bidiparas" 194) (.ref 51)),
  (58, of "code" #[sv "bidi_base" 260, sv "bidi_base" 261, sv "/claim/cut.py" 262, .int 42 0, .int 2 0, .int 0 0, .int 0 0, .int 3 0, .ref 53, .bool true, .int 181 0, .ref 54, .none, .ref 55, .ref 56, .ref 57, .int 266 0, .int 42 0, sv "/claim/cut.py" 267]),
  (59, fO (dN 12) "bidi_base" .none (sv "unicore.bidiparas" 194) (.ref 58)),
  (72, of "code" #[sv "__init__" 281, sv "BidiEntry.__init__" 282, sv "/claim/cut.py" 283, .int 51 0, .int 4 0, .int 0 0, .int 0 0, .int 3 0, .ref 67, .bool true, .int 181 0, .ref 68, .none, .ref 69, .ref 70, .ref 71, .int 288 0, .int 51 0, sv "/claim/cut.py" 289]),
  (73, fO (dM 13 0) "BidiEntry.__init__" .none (sv "unicore.bidiparas" 194) (.ref 72)),
  (75, { cls := .type "dict", data := .dict #[kv P "__module__" 276 (sv "unicore.bidiparas" 194), kv P "__firstlineno__" 280 (.int 49 279), kv P "__init__" 290 (.ref 73), kv P "__static_attributes__" 294 (.ref 74), kv P "__dict__" 296 (.ref 77), kv P "__weakref__" 298 (.ref 78), kv P "__doc__" 299 .none] 4 }),
  (76, { cls := .type "type", data := .cls { name := st "BidiEntry", bases := [.type "object"], mro := [.ref 76, .type "object"], ns := 75, qualname := st "BidiEntry" }, slots := #[none, none, some (sv "BidiEntry" 269), some (sv "BidiEntry" 277), some (.builtin "object.__new__"), some (.bool true)] }),
  (93, of "code" #[sv "__init__" 314, sv "BidiStack.__init__" 315, sv "/claim/cut.py" 316, .int 57 0, .int 3 0, .int 0 0, .int 0 0, .int 3 0, .ref 88, .bool true, .int 181 0, .ref 89, .none, .ref 90, .ref 91, .ref 92, .int 320 0, .int 57 0, sv "/claim/cut.py" 321]),
  (94, fO (dM 14 0) "BidiStack.__init__" .none (sv "unicore.bidiparas" 194) (.ref 93)),
  (100, of "code" #[sv "last" 323, sv "BidiStack.last" 324, sv "/claim/cut.py" 325, .int 64 0, .int 1 0, .int 0 0, .int 0 0, .int 3 0, .ref 95, .bool true, .int 181 0, .ref 96, .none, .ref 97, .ref 98, .ref 99, .int 327 0, .int 64 0, sv "/claim/cut.py" 328]),
  (101, fO (dM 14 1) "BidiStack.last" .none (sv "unicore.bidiparas" 194) (.ref 100)),
  (107, of "code" #[sv "further" 330, sv "BidiStack.further" 331, sv "/claim/cut.py" 332, .int 67 0, .int 2 0, .int 0 0, .int 0 0, .int 3 0, .ref 102, .bool true, .int 181 0, .ref 103, .none, .ref 104, .ref 105, .ref 106, .int 336 0, .int 67 0, sv "/claim/cut.py" 337]),
  (108, fO (dM 14 2) "BidiStack.further" .none (sv "unicore.bidiparas" 194) (.ref 107)),
  (114, of "code" #[sv "is_free" 339, sv "BidiStack.is_free" 340, sv "/claim/cut.py" 341, .int 73 0, .int 2 0, .int 0 0, .int 0 0, .int 3 0, .ref 109, .bool true, .int 181 0, .ref 110, .none, .ref 111, .ref 112, .ref 113, .int 344 0, .int 73 0, sv "/claim/cut.py" 345]),
  (115, fO (dM 14 3) "BidiStack.is_free" .none (sv "unicore.bidiparas" 194) (.ref 114)),
  (121, of "code" #[sv "embed" 347, sv "BidiStack.embed" 348, sv "/claim/cut.py" 349, .int 76 0, .int 3 0, .int 0 0, .int 0 0, .int 3 0, .ref 116, .bool true, .int 181 0, .ref 117, .none, .ref 118, .ref 119, .ref 120, .int 354 0, .int 76 0, sv "/claim/cut.py" 355]),
  (122, fO (dM 14 4) "BidiStack.embed" .none (sv "unicore.bidiparas" 194) (.ref 121)),
  (128, of "code" #[sv "isolate" 357, sv "BidiStack.isolate" 358, sv "/claim/cut.py" 359, .int 83 0, .int 2 0, .int 0 0, .int 0 0, .int 3 0, .ref 123, .bool true, .int 181 0, .ref 124, .none, .ref 125, .ref 126, .ref 127, .int 363 0, .int 83 0, sv "/claim/cut.py" 364]),
  (129, fO (dM 14 5) "BidiStack.isolate" .none (sv "unicore.bidiparas" 194) (.ref 128)),
  (135, of "code" #[sv "end_isolate" 366, sv "BidiStack.end_isolate" 367, sv "/claim/cut.py" 368, .int 91 0, .int 1 0, .int 0 0, .int 0 0, .int 3 0, .ref 130, .bool true, .int 181 0, .ref 131, .none, .ref 132, .ref 133, .ref 134, .int 370 0, .int 91 0, sv "/claim/cut.py" 371]),
  (136, fO (dM 14 6) "BidiStack.end_isolate" .none (sv "unicore.bidiparas" 194) (.ref 135)),
  (142, of "code" #[sv "end_embedding" 373, sv "BidiStack.end_embedding" 374, sv "/claim/cut.py" 375, .int 101 0, .int 1 0, .int 0 0, .int 0 0, .int 3 0, .ref 137, .bool true, .int 181 0, .ref 138, .none, .ref 139, .ref 140, .ref 141, .int 377 0, .int 101 0, sv "/claim/cut.py" 378]),
  (143, fO (dM 14 7) "BidiStack.end_embedding" .none (sv "unicore.bidiparas" 194) (.ref 142)),
  (145, { cls := .type "dict", data := .dict #[kv P "__module__" 309 (sv "unicore.bidiparas" 194), kv P "__firstlineno__" 313 (.int 55 312), kv P "__init__" 322 (.ref 94), kv P "last" 329 (.ref 101), kv P "further" 338 (.ref 108), kv P "is_free" 346 (.ref 115), kv P "embed" 356 (.ref 122), kv P "isolate" 365 (.ref 129), kv P "end_isolate" 372 (.ref 136), kv P "end_embedding" 379 (.ref 143), kv P "__static_attributes__" 385 (.ref 144), kv P "__dict__" 387 (.ref 147), kv P "__weakref__" 389 (.ref 148), kv P "__doc__" 390 .none] 4 }),
  (146, { cls := .type "type", data := .cls { name := st "BidiStack", bases := [.type "object"], mro := [.ref 146, .type "object"], ns := 145, qualname := st "BidiStack" }, slots := #[none, none, some (sv "BidiStack" 302), some (sv "BidiStack" 310), some (.builtin "object.__new__"), some (.bool true)] }),
  (151, oq "tuple" #[.int 125 196]),
  (157, of "code" #[sv "explicit" 393, sv "explicit" 394, sv "/claim/cut.py" 395, .int 108 0, .int 3 0, .int 0 0, .int 0 0, .int 3 0, .ref 152, .bool true, .int 181 0, .ref 153, .none, .ref 154, .ref 155, .ref 156, .int 408 0, .int 108 0, sv "/claim/cut.py" 409]),
  (158, fO (dN 15) "explicit" (.ref 151) (sv "unicore.bidiparas" 194) (.ref 157)),
  (164, of "code" #[sv "bidi_is_right_isolate" 411, sv "bidi_is_right_isolate" 412, sv "/claim/cut.py" 413, .int 135 0, .int 3 0, .int 0 0, .int 0 0, .int 3 0, .ref 159, .bool true, .int 181 0, .ref 160, .none, .ref 161, .ref 162, .ref 163, .int 418 0, .int 135 0, sv "/claim/cut.py" 419]),
  (165, fO (dN 16) "bidi_is_right_isolate" .none (sv "unicore.bidiparas" 194) (.ref 164)),
  (171, of "code" #[sv "place_by_half" 425, sv "place_by_half" 426, sv "/claim/cut.py" 427, .int 142 0, .int 2 0, .int 0 0, .int 0 0, .int 3 0, .ref 166, .bool true, .int 181 0, .ref 167, .none, .ref 168, .ref 169, .ref 170, .int 433 0, .int 142 0, sv "/claim/cut.py" 434]),
  (172, fO (dN 19) "place_by_half" .none (sv "unicore.base" 421) (.ref 171)),
  (178, of "code" #[sv "range_are_like" 438, sv "range_are_like" 439, sv "/claim/cut.py" 440, .int 153 0, .int 2 0, .int 0 0, .int 0 0, .int 3 0, .ref 173, .bool true, .int 181 0, .ref 174, .none, .ref 175, .ref 176, .ref 177, .int 443 0, .int 153 0, sv "/claim/cut.py" 444]),
  (179, fO (dN 21) "range_are_like" .none (sv "unicore.ranges" 436) (.ref 178)),
  (192, of "code" #[sv "__init__" 458, sv "RangeMap.__init__" 459, sv "/claim/cut.py" 460, .int 157 0, .int 2 0, .int 0 0, .int 0 0, .int 3 0, .ref 187, .bool true, .int 181 0, .ref 188, .none, .ref 189, .ref 190, .ref 191, .int 463 0, .int 157 0, sv "/claim/cut.py" 464]),
  (193, fO (dM 22 0) "RangeMap.__init__" .none (sv "unicore.ranges" 436) (.ref 192)),
  (199, of "code" #[sv "get" 466, sv "RangeMap.get" 467, sv "/claim/cut.py" 468, .int 162 0, .int 2 0, .int 0 0, .int 0 0, .int 3 0, .ref 194, .bool true, .int 181 0, .ref 195, .none, .ref 196, .ref 197, .ref 198, .int 471 0, .int 162 0, sv "/claim/cut.py" 472]),
  (200, fO (dM 22 1) "RangeMap.get" .none (sv "unicore.ranges" 436) (.ref 199)),
  (206, of "code" #[sv "put" 474, sv "RangeMap.put" 475, sv "/claim/cut.py" 476, .int 165 0, .int 4 0, .int 0 0, .int 0 0, .int 3 0, .ref 201, .bool true, .int 181 0, .ref 202, .none, .ref 203, .ref 204, .ref 205, .int 486 0, .int 165 0, sv "/claim/cut.py" 487]),
  (207, fO (dM 22 2) "RangeMap.put" .none (sv "unicore.ranges" 436) (.ref 206)),
  (213, of "code" #[sv "ranges" 489, sv "RangeMap.ranges" 490, sv "/claim/cut.py" 491, .int 180 0, .int 1 0, .int 0 0, .int 0 0, .int 3 0, .ref 208, .bool true, .int 181 0, .ref 209, .none, .ref 210, .ref 211, .ref 212, .int 493 0, .int 180 0, sv "/claim/cut.py" 494]),
  (214, fO (dM 22 3) "RangeMap.ranges" .none (sv "unicore.ranges" 436) (.ref 213)),
  (220, of "code" #[sv "set_of" 496, sv "RangeMap.set_of" 497, sv "/claim/cut.py" 498, .int 183 0, .int 2 0, .int 0 0, .int 0 0, .int 3 0, .ref 215, .bool true, .int 181 0, .ref 216, .none, .ref 217, .ref 218, .ref 219, .int 501 0, .int 183 0, sv "/claim/cut.py" 502]),
  (221, fO (dM 22 4) "RangeMap.set_of" .none (sv "unicore.ranges" 436) (.ref 220)),
  (223, { cls := .type "dict", data := .dict #[kv P "__module__" 453 (sv "unicore.ranges" 436), kv P "__firstlineno__" 457 (.int 155 456), kv P "__init__" 465 (.ref 193), kv P "get" 473 (.ref 200), kv P "put" 488 (.ref 207), kv P "ranges" 495 (.ref 214), kv P "set_of" 503 (.ref 221), kv P "__static_attributes__" 507 (.ref 222), kv P "__dict__" 509 (.ref 225), kv P "__weakref__" 511 (.ref 226), kv P "__doc__" 512 .none] 4 }),
  (224, { cls := .type "type", data := .cls { name := st "RangeMap", bases := [.type "object"], mro := [.ref 224, .type "object"], ns := 223, qualname := st "RangeMap" }, slots := #[none, none, some (sv "RangeMap" 446), some (sv "RangeMap" 454), some (.builtin "object.__new__"), some (.bool true)] }),
  (234, of "code" #[sv "data_defaults" 517, sv "data_defaults" 518, sv "/claim/cut.py" 519, .int 186 0, .int 0 0, .int 0 0, .int 0 0, .int 3 0, .ref 229, .bool true, .int 181 0, .ref 230, .none, .ref 231, .ref 232, .ref 233, .int 522 0, .int 186 0, sv "/claim/cut.py" 523]),
  (235, fO (dN 24) "data_defaults" .none (sv "unicore.data" 515) (.ref 234)),
  (248, of "code" #[sv "__init__" 537, sv "Data.__init__" 538, sv "/claim/cut.py" 539, .int 200 0, .int 1 0, .int 0 0, .int 0 0, .int 3 0, .ref 243, .bool true, .int 181 0, .ref 244, .none, .ref 245, .ref 246, .ref 247, .int 541 0, .int 200 0, sv "/claim/cut.py" 542]),
  (249, fO (dM 25 0) "Data.__init__" .none (sv "unicore.data" 515) (.ref 248)),
  (255, of "code" #[sv "put" 544, sv "Data.put" 545, sv "/claim/cut.py" 546, .int 206 0, .int 5 0, .int 0 0, .int 0 0, .int 3 0, .ref 250, .bool true, .int 181 0, .ref 251, .none, .ref 252, .ref 253, .ref 254, .int 552 0, .int 206 0, sv "/claim/cut.py" 553]),
  (256, fO (dM 25 1) "Data.put" .none (sv "unicore.data" 515) (.ref 255)),
  (262, of "code" #[sv "get" 555, sv "Data.get" 556, sv "/claim/cut.py" 557, .int 209 0, .int 3 0, .int 0 0, .int 0 0, .int 3 0, .ref 257, .bool true, .int 181 0, .ref 258, .none, .ref 259, .ref 260, .ref 261, .int 561 0, .int 209 0, sv "/claim/cut.py" 562]),
  (263, fO (dM 25 2) "Data.get" .none (sv "unicore.data" 515) (.ref 262)),
  (269, of "code" #[sv "map_of" 564, sv "Data.map_of" 565, sv "/claim/cut.py" 566, .int 214 0, .int 2 0, .int 0 0, .int 0 0, .int 3 0, .ref 264, .bool true, .int 181 0, .ref 265, .none, .ref 266, .ref 267, .ref 268, .int 569 0, .int 214 0, sv "/claim/cut.py" 570]),
  (270, fO (dM 25 3) "Data.map_of" .none (sv "unicore.data" 515) (.ref 269)),
  (272, { cls := .type "dict", data := .dict #[kv P "__module__" 532 (sv "unicore.data" 515), kv P "__firstlineno__" 536 (.int 198 535), kv P "__init__" 543 (.ref 249), kv P "put" 554 (.ref 256), kv P "get" 563 (.ref 263), kv P "map_of" 571 (.ref 270), kv P "__static_attributes__" 576 (.ref 271), kv P "__dict__" 578 (.ref 274), kv P "__weakref__" 580 (.ref 275), kv P "__doc__" 581 .none] 4 }),
  (273, { cls := .type "type", data := .cls { name := st "Data", bases := [.type "object"], mro := [.ref 273, .type "object"], ns := 272, qualname := st "Data" }, slots := #[none, none, some (sv "Data" 525), some (sv "Data" 533), some (.builtin "object.__new__"), some (.bool true)] }),
  (278, oq "list" #[sv "RLI" 586, sv "PDF" 587, sv "L" 588, sv "LRE" 589, sv "R" 590, sv "PDI" 591, sv "RLO" 592, sv "LRI" 593, sv "FSI" 594, sv "AL" 595, sv "EN" 596, sv "RLE" 597, sv "LRO" 598, sv "NSM" 599, sv "BN" 600, sv "ON" 601, sv "PDI" 602]),
  (284, of "code" #[sv "_law_opens" 604, sv "_law_opens" 605, sv "/claim/cut.py" 606, .int 220 0, .int 0 0, .int 0 0, .int 0 0, .int 3 0, .ref 279, .bool true, .int 181 0, .ref 280, .none, .ref 281, .ref 282, .ref 283, .int 607 0, .int 220 0, sv "/claim/cut.py" 608]),
  (285, fO (dN 28) "_law_opens" .none (sv "law_nt0029_01" 584) (.ref 284)),
  (289, of "code" #[sv "_law_deck" 610, sv "_law_deck" 611, sv "/claim/cut.py" 612, .int 222 0, .int 1 0, .int 0 0, .int 0 0, .int 3 0, .ref 286, .bool true, .int 181 0, .ref 287, .none, .none, .none, .ref 288, .int 613 0, .int 222 0, sv "/claim/cut.py" 614]),
  (290, fO (dN 29) "_law_deck" .none (sv "law_nt0029_01" 584) (.ref 289)),
  (296, of "code" #[sv "_law_draw" 616, sv "_law_draw" 617, sv "/claim/cut.py" 618, .int 224 0, .int 2 0, .int 0 0, .int 0 0, .int 3 0, .ref 291, .bool true, .int 181 0, .ref 292, .none, .ref 293, .ref 294, .ref 295, .int 623 0, .int 224 0, sv "/claim/cut.py" 624]),
  (297, fO (dN 30) "_law_draw" .none (sv "law_nt0029_01" 584) (.ref 296)),
  (303, of "code" #[sv "_law_first" 626, sv "_law_first" 627, sv "/claim/cut.py" 628, .int 232 0, .int 3 0, .int 0 0, .int 0 0, .int 3 0, .ref 298, .bool true, .int 181 0, .ref 299, .none, .ref 300, .ref 301, .ref 302, .int 634 0, .int 232 0, sv "/claim/cut.py" 635]),
  (304, fO (dN 31) "_law_first" .none (sv "law_nt0029_01" 584) (.ref 303)),
  (310, of "code" #[sv "_law_now" 637, sv "_law_now" 638, sv "/claim/cut.py" 639, .int 244 0, .int 2 0, .int 0 0, .int 0 0, .int 3 0, .ref 305, .bool true, .int 181 0, .ref 306, .none, .ref 307, .ref 308, .ref 309, .int 643 0, .int 244 0, sv "/claim/cut.py" 644]),
  (311, fO (dN 32) "_law_now" .none (sv "law_nt0029_01" 584) (.ref 310)),
  (317, of "code" #[sv "_law_frame" 646, sv "_law_frame" 647, sv "/claim/cut.py" 648, .int 249 0, .int 6 0, .int 0 0, .int 0 0, .int 3 0, .ref 312, .bool true, .int 181 0, .ref 313, .none, .ref 314, .ref 315, .ref 316, .int 656 0, .int 249 0, sv "/claim/cut.py" 657]),
  (318, fO (dN 33) "_law_frame" .none (sv "law_nt0029_01" 584) (.ref 317)),
  (322, of "code" #[sv "_law_explicit" 659, sv "_law_explicit" 660, sv "/claim/cut.py" 661, .int 252 0, .int 3 0, .int 0 0, .int 0 0, .int 3 0, .ref 319, .bool true, .int 181 0, .ref 320, .none, .none, .none, .ref 321, .int 662 0, .int 252 0, sv "/claim/cut.py" 663]),
  (323, fO (dN 34) "_law_explicit" .none (sv "law_nt0029_01" 584) (.ref 322)),
  (329, of "code" #[sv "_law_pairs" 665, sv "_law_pairs" 666, sv "/claim/cut.py" 667, .int 276 0, .int 1 0, .int 0 0, .int 0 0, .int 3 0, .ref 324, .bool true, .int 181 0, .ref 325, .none, .ref 326, .ref 327, .ref 328, .int 674 0, .int 276 0, sv "/claim/cut.py" 675]),
  (330, fO (dN 35) "_law_pairs" .none (sv "law_nt0029_01" 584) (.ref 329)),
  (336, of "code" #[sv "_law_deep_right" 677, sv "_law_deep_right" 678, sv "/claim/cut.py" 679, .int 286 0, .int 1 0, .int 0 0, .int 0 0, .int 3 0, .ref 331, .bool true, .int 181 0, .ref 332, .none, .ref 333, .ref 334, .ref 335, .int 685 0, .int 286 0, sv "/claim/cut.py" 686]),
  (337, fO (dN 36) "_law_deep_right" .none (sv "law_nt0029_01" 584) (.ref 336)),
  (341, of "code" #[sv "law" 688, sv "law" 689, sv "/claim/cut.py" 690, .int 291 0, .int 1 0, .int 0 0, .int 0 0, .int 3 0, .ref 338, .bool true, .int 181 0, .ref 339, .none, .none, .none, .ref 340, .int 691 0, .int 291 0, sv "/claim/cut.py" 692]),
  (342, fO (dN 37) "law" .none (sv "law_nt0029_01" 584) (.ref 341))]
noncomputable def theHeap (P : Params) : Frag := (2, { cls := .none, data := .dict #[] }) :: (3, g3 P "law_nt0029_01" 584 41 42) :: heapT P
/-- the heap's other objects; the text's own names for lines grow as it is run -/
noncomputable def oN (vs : Array Value) : Obj := { cls := .none, data := .fields vs }
noncomputable def fC (s : Stmt) (q : String) : Obj := match s with
  | .FunctionDef n as b _ _ _ sc _ _ _ => { cls := .none, data := .func { name := n, qualname := st q, params := as, body := .stmts b, scope := sc, globals := 0, closure := [], defaults := .none, kwdefaults := .none } }
  | _ => default
noncomputable def c12 : List Value := [.int 1 0, .int 0 0, .ref 20, .int 11 0, .int 0 0, .ref 29, .int 13 0, .int 0 0, .ref 36, .int 26 0, .int 0 0, .ref 43, .int 40 0, .int 0 0, .ref 51, .int 42 0, .int 0 0, .ref 58, .int 49 0, .int 0 0, .ref 65, .int 55 0, .int 0 0, .ref 86, .int 108 0, .int 0 0, .ref 157, .int 135 0, .int 0 0, .ref 164, .int 142 0, .int 0 0, .ref 171, .int 153 0, .int 0 0, .ref 178, .int 155 0, .int 0 0, .ref 185, .int 186 0, .int 0 0, .ref 234, .int 198 0, .int 0 0, .ref 241, .int 220 0, .int 0 0, .ref 284, .int 222 0, .int 0 0, .ref 289, .int 224 0, .int 0 0, .ref 296, .int 232 0, .int 0 0, .ref 303, .int 244 0, .int 0 0, .ref 310, .int 249 0, .int 0 0, .ref 317, .int 252 0, .int 0 0, .ref 322, .int 276 0, .int 0 0, .ref 329, .int 286 0, .int 0 0, .ref 336, .int 291 0, .int 0 0, .ref 341]
noncomputable def theRest (P : Params) (j : Nat) : List Obj := [
  boot_o_0 P,
  boot_o_1 P,
  boot_o_4 P,
  boot_o_5 P,
  boot_o_6 P,
  boot_o_7 P,
  boot_o_8 P,
  boot_o_9 P,
  boot_o_10 P,
  oq "tuple" #[],
  oN ⟨c12.take j⟩,
  of "code" #[sv "<module>" 182, sv "<module>" 183, sv "/claim/cut.py" 184, .int 1 0, .int 0 0, .int 0 0, .int 0 0, .int 0 0, .ref 11, .bool false, .int 181 0, .ref 12, .none, .none, .none, .none, .int 185 0, .int 1 0, sv "/claim/cut.py" 186],
  { cls := .type "frame", slots := #[some (.ref 13), some (.ref 3), some (.ref 3), none, some (sv "__main__" 164), none, some (.ref 0)] },
  oq "tuple" #[],
  oN #[],
  oq "tuple" #[sv "k" 190],
  oq "tuple" #[],
  fC (dN 0) "_wall",
  fO (dN 0) "_wall" .none (sv "__main__" 164) (.ref 20),
  oq "tuple" #[],
  oN #[],
  fC (dN 8) "bidi_kinds",
  oq "tuple" #[],
  oN #[],
  oq "tuple" #[sv "kinds" 229, sv "found" 230, sv "waiting" 231, sv "at" 232, sv "kind" 233, sv "begin" 234],
  oq "tuple" #[],
  fC (dN 9) "isolate_pairs",
  oq "tuple" #[],
  oN #[],
  oq "tuple" #[sv "kinds" 241, sv "begin" 242, sv "end" 243, sv "pairs" 244, sv "at" 245, sv "kind" 246],
  oq "tuple" #[],
  fC (dN 10) "bidi_first_strong",
  oq "tuple" #[],
  oN #[],
  oq "tuple" #[sv "text" 254, sv "data" 255, sv "word" 256],
  oq "tuple" #[],
  fC (dN 11) "base_level",
  oq "tuple" #[],
  oN #[],
  oq "tuple" #[sv "kinds" 263, sv "word" 264, sv "strong" 265],
  oq "tuple" #[],
  fC (dN 12) "bidi_base",
  oq "tuple" #[],
  of "builtin_function_or_method" #[.builtin "type.__prepare__", .type "type"],
  { cls := .type "dict", data := .dict #[kv P "__module__" 276 (sv "unicore.bidiparas" 194), kv P "__qualname__" 278 (sv "BidiEntry" 277), kv P "__firstlineno__" 280 (.int 49 279), kv P "__init__" 290 (.ref 73), kv P "__static_attributes__" 294 (.ref 74)] 5 },
  oq "tuple" #[],
  oN #[.int 51 0, .int 4 0, .ref 72],
  of "code" #[sv "BidiEntry" 271, sv "BidiEntry" 272, sv "/claim/cut.py" 273, .int 49 0, .int 0 0, .int 0 0, .int 0 0, .int 0 0, .ref 63, .bool false, .int 181 0, .ref 64, .none, .none, .none, .none, .int 274 0, .int 49 0, sv "/claim/cut.py" 275],
  { cls := .type "frame", slots := #[some (.ref 65), some (.ref 3), some (.ref 62), none, some (sv "unicore.bidiparas" 194), none, some (.ref 0)] },
  oq "tuple" #[],
  oN #[],
  oq "tuple" #[sv "self" 284, sv "level" 285, sv "override" 286, sv "is_isolate" 287],
  oq "tuple" #[],
  fC (dM 13 0) "BidiEntry.__init__",
  oq "tuple" #[sv "is_isolate" 291, sv "level" 292, sv "override" 293],
  of "getset_descriptor" #[sv "__dict__" 295, .ref 76, .builtin "function.__dict__", .builtin "function.__dict__#set"],
  of "getset_descriptor" #[sv "__weakref__" 297, .ref 76, .builtin "ExceptionGroup.__weakref__", .none],
  of "super" #[.ref 76, .ref 76, .ref 76],
  of "builtin_function_or_method" #[.builtin "object.__init_subclass__", .ref 76],
  oq "tuple" #[],
  of "builtin_function_or_method" #[.builtin "type.__prepare__", .type "type"],
  { cls := .type "dict", data := .dict #[kv P "__module__" 309 (sv "unicore.bidiparas" 194), kv P "__qualname__" 311 (sv "BidiStack" 310), kv P "__firstlineno__" 313 (.int 55 312), kv P "__init__" 322 (.ref 94), kv P "last" 329 (.ref 101), kv P "further" 338 (.ref 108), kv P "is_free" 346 (.ref 115), kv P "embed" 356 (.ref 122), kv P "isolate" 365 (.ref 129), kv P "end_isolate" 372 (.ref 136), kv P "end_embedding" 379 (.ref 143), kv P "__static_attributes__" 385 (.ref 144)] 12 },
  oq "tuple" #[],
  oN #[.int 57 0, .int 4 0, .ref 93, .int 64 0, .int 4 0, .ref 100, .int 67 0, .int 4 0, .ref 107, .int 73 0, .int 4 0, .ref 114, .int 76 0, .int 4 0, .ref 121, .int 83 0, .int 4 0, .ref 128, .int 91 0, .int 4 0, .ref 135, .int 101 0, .int 4 0, .ref 142],
  of "code" #[sv "BidiStack" 304, sv "BidiStack" 305, sv "/claim/cut.py" 306, .int 55 0, .int 0 0, .int 0 0, .int 0 0, .int 0 0, .ref 84, .bool false, .int 181 0, .ref 85, .none, .none, .none, .none, .int 307 0, .int 55 0, sv "/claim/cut.py" 308],
  { cls := .type "frame", slots := #[some (.ref 86), some (.ref 3), some (.ref 83), none, some (sv "unicore.bidiparas" 194), none, some (.ref 0)] },
  oq "tuple" #[],
  oN #[],
  oq "tuple" #[sv "self" 317, sv "base" 318, sv "depth" 319],
  oq "tuple" #[],
  fC (dM 14 0) "BidiStack.__init__",
  oq "tuple" #[],
  oN #[],
  oq "tuple" #[sv "self" 326],
  oq "tuple" #[],
  fC (dM 14 1) "BidiStack.last",
  oq "tuple" #[],
  oN #[],
  oq "tuple" #[sv "self" 333, sv "is_right" 334, sv "level" 335],
  oq "tuple" #[],
  fC (dM 14 2) "BidiStack.further",
  oq "tuple" #[],
  oN #[],
  oq "tuple" #[sv "self" 342, sv "level" 343],
  oq "tuple" #[],
  fC (dM 14 3) "BidiStack.is_free",
  oq "tuple" #[],
  oN #[],
  oq "tuple" #[sv "self" 350, sv "is_right" 351, sv "override" 352, sv "level" 353],
  oq "tuple" #[],
  fC (dM 14 4) "BidiStack.embed",
  oq "tuple" #[],
  oN #[],
  oq "tuple" #[sv "self" 360, sv "is_right" 361, sv "level" 362],
  oq "tuple" #[],
  fC (dM 14 5) "BidiStack.isolate",
  oq "tuple" #[],
  oN #[],
  oq "tuple" #[sv "self" 369],
  oq "tuple" #[],
  fC (dM 14 6) "BidiStack.end_isolate",
  oq "tuple" #[],
  oN #[],
  oq "tuple" #[sv "self" 376],
  oq "tuple" #[],
  fC (dM 14 7) "BidiStack.end_embedding",
  oq "tuple" #[sv "depth" 380, sv "entries" 381, sv "over_embeddings" 382, sv "over_isolates" 383, sv "valid_isolates" 384],
  of "getset_descriptor" #[sv "__dict__" 386, .ref 146, .builtin "function.__dict__", .builtin "function.__dict__#set"],
  of "getset_descriptor" #[sv "__weakref__" 388, .ref 146, .builtin "ExceptionGroup.__weakref__", .none],
  of "super" #[.ref 146, .ref 146, .ref 146],
  of "builtin_function_or_method" #[.builtin "object.__init_subclass__", .ref 146],
  oq "tuple" #[],
  oN #[],
  oq "tuple" #[sv "kinds" 396, sv "base" 397, sv "depth" 398, sv "stack" 399, sv "pairs" 400, sv "levels" 401, sv "classes" 402, sv "at" 403, sv "kind" 404, sv "is_right" 405, sv "override" 406, sv "entry" 407],
  oq "tuple" #[],
  fC (dN 15) "explicit",
  oq "tuple" #[],
  oN #[],
  oq "tuple" #[sv "kinds" 414, sv "at" 415, sv "pairs" 416, sv "strong" 417],
  oq "tuple" #[],
  fC (dN 16) "bidi_is_right_isolate",
  oq "tuple" #[],
  oN #[],
  oq "tuple" #[sv "firsts" 428, sv "number" 429, sv "low" 430, sv "high" 431, sv "middle" 432],
  oq "tuple" #[],
  fC (dN 19) "place_by_half",
  oq "tuple" #[],
  oN #[],
  oq "tuple" #[sv "one" 441, sv "other" 442],
  oq "tuple" #[],
  fC (dN 21) "range_are_like",
  oq "tuple" #[],
  of "builtin_function_or_method" #[.builtin "type.__prepare__", .type "type"],
  { cls := .type "dict", data := .dict #[kv P "__module__" 453 (sv "unicore.ranges" 436), kv P "__qualname__" 455 (sv "RangeMap" 454), kv P "__firstlineno__" 457 (.int 155 456), kv P "__init__" 465 (.ref 193), kv P "get" 473 (.ref 200), kv P "put" 488 (.ref 207), kv P "ranges" 495 (.ref 214), kv P "set_of" 503 (.ref 221), kv P "__static_attributes__" 507 (.ref 222)] 9 },
  oq "tuple" #[],
  oN #[.int 157 0, .int 4 0, .ref 192, .int 162 0, .int 4 0, .ref 199, .int 165 0, .int 4 0, .ref 206, .int 180 0, .int 4 0, .ref 213, .int 183 0, .int 4 0, .ref 220],
  of "code" #[sv "RangeMap" 448, sv "RangeMap" 449, sv "/claim/cut.py" 450, .int 155 0, .int 0 0, .int 0 0, .int 0 0, .int 0 0, .ref 183, .bool false, .int 181 0, .ref 184, .none, .none, .none, .none, .int 451 0, .int 155 0, sv "/claim/cut.py" 452],
  { cls := .type "frame", slots := #[some (.ref 185), some (.ref 3), some (.ref 182), none, some (sv "unicore.ranges" 436), none, some (.ref 0)] },
  oq "tuple" #[],
  oN #[],
  oq "tuple" #[sv "self" 461, sv "default" 462],
  oq "tuple" #[],
  fC (dM 22 0) "RangeMap.__init__",
  oq "tuple" #[],
  oN #[],
  oq "tuple" #[sv "self" 469, sv "code" 470],
  oq "tuple" #[],
  fC (dM 22 1) "RangeMap.get",
  oq "tuple" #[],
  oN #[],
  oq "tuple" #[sv "self" 477, sv "first" 478, sv "last" 479, sv "value" 480, sv "low" 481, sv "high" 482, sv "behind" 483, sv "starts" 484, sv "values" 485],
  oq "tuple" #[],
  fC (dM 22 2) "RangeMap.put",
  oq "tuple" #[],
  oN #[],
  oq "tuple" #[sv "self" 492],
  oq "tuple" #[],
  fC (dM 22 3) "RangeMap.ranges",
  oq "tuple" #[],
  oN #[],
  oq "tuple" #[sv "self" 499, sv "value" 500],
  oq "tuple" #[],
  fC (dM 22 4) "RangeMap.set_of",
  oq "tuple" #[sv "default" 504, sv "starts" 505, sv "values" 506],
  of "getset_descriptor" #[sv "__dict__" 508, .ref 224, .builtin "function.__dict__", .builtin "function.__dict__#set"],
  of "getset_descriptor" #[sv "__weakref__" 510, .ref 224, .builtin "ExceptionGroup.__weakref__", .none],
  of "super" #[.ref 224, .ref 224, .ref 224],
  of "builtin_function_or_method" #[.builtin "object.__init_subclass__", .ref 224],
  oq "tuple" #[],
  oN #[],
  oq "tuple" #[sv "found" 520, sv "name" 521],
  oq "tuple" #[],
  fC (dN 24) "data_defaults",
  oq "tuple" #[],
  of "builtin_function_or_method" #[.builtin "type.__prepare__", .type "type"],
  { cls := .type "dict", data := .dict #[kv P "__module__" 532 (sv "unicore.data" 515), kv P "__qualname__" 534 (sv "Data" 533), kv P "__firstlineno__" 536 (.int 198 535), kv P "__init__" 543 (.ref 249), kv P "put" 554 (.ref 256), kv P "get" 563 (.ref 263), kv P "map_of" 571 (.ref 270), kv P "__static_attributes__" 576 (.ref 271)] 8 },
  oq "tuple" #[],
  oN #[.int 200 0, .int 4 0, .ref 248, .int 206 0, .int 4 0, .ref 255, .int 209 0, .int 4 0, .ref 262, .int 214 0, .int 4 0, .ref 269],
  of "code" #[sv "Data" 527, sv "Data" 528, sv "/claim/cut.py" 529, .int 198 0, .int 0 0, .int 0 0, .int 0 0, .int 0 0, .ref 239, .bool false, .int 181 0, .ref 240, .none, .none, .none, .none, .int 530 0, .int 198 0, sv "/claim/cut.py" 531],
  { cls := .type "frame", slots := #[some (.ref 241), some (.ref 3), some (.ref 238), none, some (sv "unicore.data" 515), none, some (.ref 0)] },
  oq "tuple" #[],
  oN #[],
  oq "tuple" #[sv "self" 540],
  oq "tuple" #[],
  fC (dM 25 0) "Data.__init__",
  oq "tuple" #[],
  oN #[],
  oq "tuple" #[sv "self" 547, sv "name" 548, sv "first" 549, sv "last" 550, sv "value" 551],
  oq "tuple" #[],
  fC (dM 25 1) "Data.put",
  oq "tuple" #[],
  oN #[],
  oq "tuple" #[sv "self" 558, sv "name" 559, sv "code" 560],
  oq "tuple" #[],
  fC (dM 25 2) "Data.get",
  oq "tuple" #[],
  oN #[],
  oq "tuple" #[sv "self" 567, sv "name" 568],
  oq "tuple" #[],
  fC (dM 25 3) "Data.map_of",
  oq "tuple" #[sv "defaults" 572, sv "maps" 573, sv "properties" 574, sv "words" 575],
  of "getset_descriptor" #[sv "__dict__" 577, .ref 273, .builtin "function.__dict__", .builtin "function.__dict__#set"],
  of "getset_descriptor" #[sv "__weakref__" 579, .ref 273, .builtin "ExceptionGroup.__weakref__", .none],
  of "super" #[.ref 273, .ref 273, .ref 273],
  of "builtin_function_or_method" #[.builtin "object.__init_subclass__", .ref 273],
  oq "tuple" #[],
  oN #[],
  oq "tuple" #[],
  oq "tuple" #[],
  fC (dN 28) "_law_opens",
  oq "tuple" #[],
  oN #[],
  fC (dN 29) "_law_deck",
  oq "tuple" #[],
  oN #[],
  oq "tuple" #[sv "deck" 619, sv "below" 620, sv "at" 621, sv "cells" 622],
  oq "tuple" #[],
  fC (dN 30) "_law_draw",
  oq "tuple" #[],
  oN #[],
  oq "tuple" #[sv "kinds" 629, sv "at" 630, sv "is_inside" 631, sv "deep" 632, sv "kind" 633],
  oq "tuple" #[],
  fC (dN 31) "_law_first",
  oq "tuple" #[],
  oN #[],
  oq "tuple" #[sv "frames" 640, sv "base" 641, sv "frame" 642],
  oq "tuple" #[],
  fC (dN 32) "_law_now",
  oq "tuple" #[],
  oN #[],
  oq "tuple" #[sv "frames" 649, sv "level" 650, sv "is_right" 651, sv "depth" 652, sv "over" 653, sv "is_isolate" 654, sv "fresh" 655],
  oq "tuple" #[],
  fC (dN 33) "_law_frame",
  oq "tuple" #[],
  oN #[],
  fC (dN 34) "_law_explicit",
  oq "tuple" #[],
  oN #[],
  oq "tuple" #[sv "kinds" 668, sv "found" 669, sv "at" 670, sv "kind" 671, sv "deep" 672, sv "far" 673],
  oq "tuple" #[],
  fC (dN 35) "_law_pairs",
  oq "tuple" #[],
  oN #[],
  oq "tuple" #[sv "deck" 680, sv "base" 681, sv "kinds" 682, sv "levels" 683, sv "classes" 684],
  oq "tuple" #[],
  fC (dN 36) "_law_deep_right",
  oq "tuple" #[],
  oN #[],
  fC (dN 37) "law"]
/-- n objects, the known ones in their places -/
noncomputable def weave (n : Nat) : Nat → Frag → List Obj → List Obj :=
  Nat.rec (motive := fun _ => Nat → Frag → List Obj → List Obj) (fun _ _ _ => []) (fun _ ih i f rs => bif Nat.beq (f.headD (0, default)).1 i then (f.headD (0, default)).2 :: ih (i + 1) f.tail rs else rs.headD default :: ih (i + 1) f rs.tail) n
/-- the heap with n objects, at a cut of the text's run -/
noncomputable def cutH (n : Nat) (nm : String) (t m e j : Nat) (P : Params) : Heap := { objs := ⟨weave n 0 ((2, { cls := .none, data := .dict #[] }) :: (3, g3 P nm t m e) :: heapT P) (theRest P j)⟩ }
noncomputable def theView : Program := view thePr [0, 2, 3, 4, 5, 6, 7, 8, 9, 10, 12, 13, 14, 16, 18, 19, 21, 22, 24, 25, 27, 28, 29, 30, 31, 32, 33, 34, 35, 36, 37]
theorem asK_eq (P : Params) : asK = (theHeap P).map (·.1) := by kernel_rfl
end Mine
end
-- Head1
section
set_option tactic.hygienic false
set_option maxRecDepth 100000
namespace Mine
open PySem PySem.W PyProof.Rows PySem.Calls
abbrev theRow := PySem.Challenge.rw_nt0029_01.row
noncomputable def dParts (s : Stmt) : Arguments × List Stmt × Scope × Pos := match s with
  | .FunctionDef _ as b _ _ _ sc _ _ p => (as, b, sc, p)
  | _ => default
noncomputable def lawRec : DefRec := { name := Str.ofString "law", params := (dParts (dN 37)).1, body := (dParts (dN 37)).2.1, scope := (dParts (dN 37)).2.2.1, pos := (dParts (dN 37)).2.2.2 }
noncomputable abbrev theHook : Hook := kHook theHeap asK asK_eq
noncomputable abbrev theXt : Shared → Bool := fun s => xlAt theView [] s && recOk (RowW.records theRow.toRowW) s
abbrev theLoose : List Str := [Str.ofString "base_level", Str.ofString "explicit", Str.ofString "_law_kinds"]
/-! the text's run, in five parts: the states between them are told outright -/
noncomputable def eTop : Env := { scope := thePr.main.scope, locals := 3, globals := 3, cells := [], code := .ref 13, frame := some 14 }
noncomputable def cTop : Code := .body thePr.main.body eTop
noncomputable def part (i n : Nat) : List Stmt := (thePr.main.body.drop i).take n
noncomputable def cutS (w : World) (os : OsState) (n : Nat) (nm : String) (t m e j k : Nat) : Shared := ⟨cutH n nm t m e j w.params, ⟨[]⟩, boot_drawn, k, os⟩
noncomputable abbrev bootS (w : World) (os : OsState) : Shared := ⟨boot_heap w.params, ⟨[]⟩, boot_drawn, boot_toks, os⟩
abbrev topB : List Frame := [topFrame ⟨0, 0, 0, 0⟩]
theorem body_parts : thePr.main.body = part 0 14 ++ (part 14 1 ++ (part 15 8 ++ (part 23 3 ++ (part 26 12 ++ [])))) := by kernel_rfl
theorem t_pre (w : World) (os : OsState) : PySem.W.Fast.tw15667345088766844465 PySem.W.Fast.tw14364793385576792824 thePr w 11 (some (.ref 6)) 12 (bootS w os) (topStub thePr) = some ((cutS w os 15 "__main__" 164 8 9 0 187), ⟨PySem.W.Fast.tw11892475500146522536 PySem.W.Fast.tw14364793385576792824 cTop, cTop, ⟨0, 0, 0, 0⟩, topB⟩) := by kernel_rfl
theorem t_block (w : World) (os : OsState) : segRun treeTable thePr w 11 (some (.ref 6)) 1 1 (cutS w os 15 "__main__" 164 8 9 0 187) (blockOf thePr.main.body eTop cTop ⟨0, 0, 0, 0⟩ topB) = some (.next, (cutS w os 15 "__main__" 164 8 9 0 187), cTop, ⟨0, 0, 0, 0⟩) := by kernel_rfl
theorem t_1 (w : World) (os : OsState) : PySem.W.Fast.tw14374325043358763698 PySem.W.Fast.tw14364793385576792824 thePr w 11 (some (.ref 6)) 1 600 (cutS w os 15 "__main__" 164 8 9 0 187) ⟨Sem.wrap doneF deadEnd id id (PySem.W.Fast.tw12563942051412417395 (part 0 14) eTop), cTop, ⟨0, 0, 0, 0⟩, topB⟩ = some (.next, (cutS w os 81 "unicore.bidiparas" 194 21 22 21 302), cTop, ⟨49, 0, 54, 36⟩) := by kernel_rfl
theorem t_2 (w : World) (os : OsState) : PySem.W.Fast.tw14374325043358763698 PySem.W.Fast.tw14364793385576792824 thePr w 11 (some (.ref 6)) 1 600 (cutS w os 81 "unicore.bidiparas" 194 21 22 21 302) ⟨Sem.wrap doneF deadEnd id id (PySem.W.Fast.tw12563942051412417395 (part 14 1) eTop), cTop, ⟨49, 0, 54, 36⟩, topB⟩ = some (.next, (cutS w os 151 "unicore.bidiparas" 194 22 23 24 393), cTop, ⟨55, 0, 107, 30⟩) := by kernel_rfl
theorem t_3 (w : World) (os : OsState) : PySem.W.Fast.tw14374325043358763698 PySem.W.Fast.tw14364793385576792824 thePr w 11 (some (.ref 6)) 1 600 (cutS w os 151 "unicore.bidiparas" 194 22 23 24 393) ⟨Sem.wrap doneF deadEnd id id (PySem.W.Fast.tw12563942051412417395 (part 15 8) eTop), cTop, ⟨55, 0, 107, 30⟩, topB⟩ = some (.next, (cutS w os 229 "unicore.ranges" 436 28 29 39 515), cTop, ⟨155, 0, 184, 16⟩) := by kernel_rfl
theorem t_4 (w : World) (os : OsState) : PySem.W.Fast.tw14374325043358763698 PySem.W.Fast.tw14364793385576792824 thePr w 11 (some (.ref 6)) 1 600 (cutS w os 229 "unicore.ranges" 436 28 29 39 515) ⟨Sem.wrap doneF deadEnd id id (PySem.W.Fast.tw12563942051412417395 (part 23 3) eTop), cTop, ⟨155, 0, 184, 16⟩, topB⟩ = some (.next, (cutS w os 278 "unicore.data" 515 30 31 45 584), cTop, ⟨198, 0, 217, 30⟩) := by kernel_rfl
theorem t_5 (w : World) (os : OsState) : PySem.W.Fast.tw14374325043358763698 PySem.W.Fast.tw14364793385576792824 thePr w 11 (some (.ref 6)) 1 600 (cutS w os 278 "unicore.data" 515 30 31 45 584) ⟨Sem.wrap doneF deadEnd id id (PySem.W.Fast.tw12563942051412417395 (part 26 12) eTop), cTop, ⟨198, 0, 217, 30⟩, topB⟩ = some (.next, (cutS w os 343 "law_nt0029_01" 584 41 42 75 694), cTop, ⟨291, 0, 315, 94⟩) := by kernel_rfl
theorem t_fin (w : World) (os : OsState) : topRun treeTable thePr w 11 (some (.ref 6)) 2 (cutS w os 343 "law_nt0029_01" 584 41 42 75 694) ⟨doneF .next, cTop, ⟨291, 0, 315, 94⟩, topB⟩ = some (cutS w os 343 "law_nt0029_01" 584 41 42 75 694) := by kernel_rfl
theorem go_pre (w : World) (os : OsState) : topGo treeTable thePr w 11 (some (.ref 6)) 12 (bootS w os) (topStub thePr) = some ((cutS w os 15 "__main__" 164 8 9 0 187), ⟨denote treeTable cTop, cTop, ⟨0, 0, 0, 0⟩, topB⟩) := by
  rw [PySem.W.Fast.te15667345088766844465, PySem.W.Fast.te11892475500146522536, PySem.W.Fast.te14364793385576792824]
  exact t_pre w os
theorem go_1 (w : World) (os : OsState) : segRun treeTable thePr w 11 (some (.ref 6)) 1 600 (cutS w os 15 "__main__" 164 8 9 0 187) (piecesOf (part 0 14) eTop cTop ⟨0, 0, 0, 0⟩ topB) = some (.next, (cutS w os 81 "unicore.bidiparas" 194 21 22 21 302), cTop, ⟨49, 0, 54, 36⟩) := by
  unfold piecesOf
  rw [PySem.W.Fast.te14374325043358763698, PySem.W.Fast.te14364793385576792824, PySem.W.Fast.te12563942051412417395]
  exact t_1 w os
theorem go_2 (w : World) (os : OsState) : segRun treeTable thePr w 11 (some (.ref 6)) 1 600 (cutS w os 81 "unicore.bidiparas" 194 21 22 21 302) (piecesOf (part 14 1) eTop cTop ⟨49, 0, 54, 36⟩ topB) = some (.next, (cutS w os 151 "unicore.bidiparas" 194 22 23 24 393), cTop, ⟨55, 0, 107, 30⟩) := by
  unfold piecesOf
  rw [PySem.W.Fast.te14374325043358763698, PySem.W.Fast.te14364793385576792824, PySem.W.Fast.te12563942051412417395]
  exact t_2 w os
theorem go_3 (w : World) (os : OsState) : segRun treeTable thePr w 11 (some (.ref 6)) 1 600 (cutS w os 151 "unicore.bidiparas" 194 22 23 24 393) (piecesOf (part 15 8) eTop cTop ⟨55, 0, 107, 30⟩ topB) = some (.next, (cutS w os 229 "unicore.ranges" 436 28 29 39 515), cTop, ⟨155, 0, 184, 16⟩) := by
  unfold piecesOf
  rw [PySem.W.Fast.te14374325043358763698, PySem.W.Fast.te14364793385576792824, PySem.W.Fast.te12563942051412417395]
  exact t_3 w os
theorem go_4 (w : World) (os : OsState) : segRun treeTable thePr w 11 (some (.ref 6)) 1 600 (cutS w os 229 "unicore.ranges" 436 28 29 39 515) (piecesOf (part 23 3) eTop cTop ⟨155, 0, 184, 16⟩ topB) = some (.next, (cutS w os 278 "unicore.data" 515 30 31 45 584), cTop, ⟨198, 0, 217, 30⟩) := by
  unfold piecesOf
  rw [PySem.W.Fast.te14374325043358763698, PySem.W.Fast.te14364793385576792824, PySem.W.Fast.te12563942051412417395]
  exact t_4 w os
theorem go_5 (w : World) (os : OsState) : segRun treeTable thePr w 11 (some (.ref 6)) 1 600 (cutS w os 278 "unicore.data" 515 30 31 45 584) (piecesOf (part 26 12) eTop cTop ⟨198, 0, 217, 30⟩ topB) = some (.next, (cutS w os 343 "law_nt0029_01" 584 41 42 75 694), cTop, ⟨291, 0, 315, 94⟩) := by
  unfold piecesOf
  rw [PySem.W.Fast.te14374325043358763698, PySem.W.Fast.te14364793385576792824, PySem.W.Fast.te12563942051412417395]
  exact t_5 w os
theorem run_all (w : World) (os : OsState) : topRun treeTable thePr w 11 (some (.ref 6)) (12 + (1 + (600 + (600 + (600 + (600 + (600 + (2)))))))) (bootS w os) (topStub thePr) = some (cutS w os 343 "law_nt0029_01" 584 41 42 75 694) :=
  go_top (go_pre w os) (piece_block (t_block w os) ((congrArg (fun l => topRun treeTable thePr w 11 (some (.ref 6)) (600 + (600 + (600 + (600 + (600 + (2)))))) (cutS w os 15 "__main__" 164 8 9 0 187) (restOf l eTop cTop ⟨0, 0, 0, 0⟩ topB)) body_parts).trans
    (piece_app (go_1 w os) (piece_app (go_2 w os) (piece_app (go_3 w os) (piece_app (go_4 w os) (piece_app (go_5 w os) (piece_nil (t_fin w os)))))))))
theorem boot_size (w : World) : ((boot_heap w.params).isNs mainGlobals && (Array.mk [] : Array GenState).size == 0, (boot_heap w.params).objs.size, (boot_heap w.params).nsMap mainGlobals "__annotations__") = (true, 11, some (.ref 6)) := by kernel_rfl
theorem h_open : opening theRow.prog = plainProg theRow.prog.main.scope.names := by kernel_rfl
theorem h_fence (s : Shared) : fenceModules? theRow.prog s = some s := by kernel_rfl
theorem look_1 (w : World) (os : OsState) : (staticsOk (PySem.W.Fast.tw5923862056798008813 thePr.main.body) (boot_heap w.params) (cutH 343 "law_nt0029_01" 584 41 42 75 w.params) && namesBound thePr (cutH 343 "law_nt0029_01" 584 41 42 75 w.params) && gensDone (cutS w os 343 "law_nt0029_01" 584 41 42 75 694) && laidKept (boot_heap w.params) (cutH 343 "law_nt0029_01" 584 41 42 75 w.params)) = true := by kernel_rfl
theorem look_2 (w : World) (os : OsState) : PySem.W.Fast.tw4187177175401517315 theView theLoose (PySem.W.Fast.tw5923862056798008813 thePr.main.body) theXt true (cutS w os 343 "law_nt0029_01" 584 41 42 75 694) = openGood theView theLoose := by kernel_rfl
theorem look_3 (w : World) (os : OsState) : Hook.obs theHook (cutS w os 343 "law_nt0029_01" 584 41 42 75 694) = Hook.val theHook w := by kernel_rfl
theorem left : LeftO theRow.prog theView theLoose theXt (Hook.obs theHook) (Hook.val theHook) 4474 := by
  refine LeftO.of_pieces (boot_open h_open (by decide) h_fence) boot_size (H₁ := cutH 343 "law_nt0029_01" 584 41 42 75) (gs₁ := ⟨[]⟩) (d₁ := boot_drawn) (k₁ := 694) run_all (by decide) fun w => funext fun os => ?_
  rw [PySem.W.Fast.te5923862056798008813, PySem.W.Fast.te4187177175401517315]
  exact Prod.ext (look_1 w os) (Prod.ext (look_2 w os) (look_3 w os))
theorem h_said_tw : PySem.W.Fast.tw9446332074065402090 PySem.Challenge.rw_nt0029_01 = true := by
  unfold PySem.W.Fast.tw9446332074065402090
  repeat' with_reducible apply look_both
  all_goals first | (unfold PySem.W.Fast.tw17960256430627541270 PySem.W.Fast.tw2436336058641802641 PySem.W.Fast.tw12908688711261696721; repeat' with_reducible apply look_both) | skip
  all_goals decide +kernel
theorem h_said : PySem.Challenge.rw_nt0029_01.wellSaid = true := (congrFun PySem.W.Fast.te9446332074065402090 _).trans h_said_tw
theorem h_def : defOf theView theRow.name = some (lawRec, []) := by kernel_rfl
theorem h_the : theRow.prog.theDef theRow.name = some (lawRec.params, lawRec.body, lawRec.scope) := by kernel_rfl
theorem h_kw : kwWritten? lawRec.params.kwonlyargs lawRec.params.kw_defaults = some [] := by kernel_rfl
theorem h_wr : (!theRow.writes || theRow.records.isEmpty) = true := by kernel_rfl
theorem h_ok : (chainsOk theView && opensWell theRow.prog && (frees theRow.toRowW && theRow.within.isEmpty)) = true := by kernel_rfl
theorem h_bare : theRow.prog.bare := ⟨rfl, rfl, rfl, rfl, rfl, by decide +kernel⟩
theorem h_prom : theRow.toRowW.promised := ⟨[.list []], by decide +kernel, by decide +kernel⟩
theorem heads (walk : WalkO theView theLoose (XL theView []) (Hook.says theHook) theRow.toRowW lawRec [] fun f vs => PySem.call f vs) : PySem.Challenge.rw_nt0029_01.Holds :=
  holds_law h_said fun said => holds_open (r := theRow) (q := theView) (loose := theLoose) (Xt := theXt) (XP := XL theView []) left (Hook.of theHook) (Hook.keeps theHook) (fun s e => xl_of s (Bool.and_eq_true_iff.mp e).1) XL.keeps
    h_def h_the h_kw (fun s e => recFacts_of (Bool.and_eq_true_iff.mp e).2) h_wr said h_ok h_bare h_prom walk
end Mine
end
-- U23
section
set_option tactic.hygienic false
set_option maxRecDepth 100000
namespace Mine
open PySem PySem.W PyProof.Rows PySem.Calls PySem.SeqAt
noncomputable def strTab : List Str := strNames.map Str.ofString
noncomputable def nmT (k : Nat) : Str := (strTab[k]?).getD Str.empty
noncomputable def asT : List Nat := [33, 34, 35, 37, 38, 40, 41, 42, 66, 67, 68, 123, 124, 125, 126]
noncomputable def callsT : List Nat := [21, 24, 26, 29, 27, 62, 60, 63, 65, 122, 134, 137, 138, 139, 140, 141, 142, 143, 144, 39, 54, 132, 146]
noncomputable def cT : CkI := ⟨nmT, 150, asT, callsT⟩
noncomputable def faL : List (Nat × Addr) := [(21, 30), (24, 37), (26, 44), (29, 52), (27, 59), (36, 73), (43, 94), (44, 101), (46, 108), (47, 115), (50, 122), (51, 129), (52, 136), (53, 143), (62, 158), (60, 165), (63, 172), (65, 179), (69, 193), (70, 200), (72, 207), (122, 235), (127, 249), (130, 256), (131, 263), (133, 270), (134, 285), (137, 290), (138, 297), (139, 304), (140, 311), (141, 318), (142, 323), (143, 330), (144, 337), (147, 342)]
noncomputable def nlL : List (Nat × List String) := [(21, ["text", "data"]),
  (24, ["kinds", "found", "waiting", "at", "kind", "begin"]),
  (26, ["kinds", "begin", "end", "pairs", "at", "kind"]),
  (29, ["text", "data", "word"]),
  (27, ["kinds", "word", "strong"]),
  (36, ["self", "level", "override", "is_isolate"]),
  (43, ["self", "base", "depth"]),
  (44, ["self"]),
  (46, ["self", "is_right", "level"]),
  (47, ["self", "level"]),
  (50, ["self", "is_right", "override", "level"]),
  (51, ["self", "is_right", "level"]),
  (52, ["self"]),
  (53, ["self"]),
  (62, ["kinds", "base", "depth", "stack", "pairs", "levels", "classes", "at", "kind", "is_right", "override", "entry"]),
  (60, ["kinds", "at", "pairs", "strong"]),
  (63, ["firsts", "number", "low", "high", "middle"]),
  (65, ["one", "other"]),
  (69, ["self", "default"]),
  (70, ["self", "code"]),
  (72, ["self", "first", "last", "value", "low", "high", "behind", "starts", "values"]),
  (122, ["found", "name"]),
  (127, ["self"]),
  (130, ["self", "name", "first", "last", "value"]),
  (131, ["self", "name", "code"]),
  (133, ["self", "name"]),
  (137, ["script"]),
  (138, ["deck", "below", "at", "cells"]),
  (139, ["kinds", "at", "is_inside", "deep", "kind"]),
  (140, ["frames", "base", "frame"]),
  (141, ["frames", "level", "is_right", "depth", "over", "is_isolate", "fresh"]),
  (142, ["kinds", "base", "depth", "frames", "levels", "classes", "at", "kind", "level", "over", "turned", "strong", "spots"]),
  (143, ["kinds", "found", "at", "kind", "deep", "far"]),
  (144, ["deck", "base", "kinds", "levels", "classes"]),
  (147, ["script", "deck", "kinds", "base", "depth", "levels", "classes", "pairs", "more", "due", "data", "known", "number", "kind", "text", "strong", "word"])]
noncomputable def faT (f : Nat) : Addr := (look faL f).getD 0
noncomputable def nlT (f : Nat) : List Str := ((look nlL f).getD []).map Str.ofString
noncomputable def caT (c : Nat) : Addr := (look [(39, 76), (54, 146), (132, 224), (146, 273)] c).getD 0
noncomputable def gaT (l : Addr) (g : Nat) : Addr := ([22, 23, 24, 25, 278][g]?).getD l
noncomputable def dvT (f : Nat) : List Value := (look [(29, [.str (Str.ofString "auto") 250]), (62, [.int 125 196])] f).getD []
noncomputable abbrev theK (w : World) : Frag := theHeap w.params
noncomputable def fdIn (K : Frag) (a : Nat) : Option FuncData := match K.lookup a with
  | some ⟨_, _, .func fd, _⟩ => some fd
  | _ => none
noncomputable def fdT (K : Frag) (f : Nat) : FuncData := (fdIn K (faT f)).getD default
noncomputable def stmtsOf (fd : FuncData) : Option (List Stmt) := match fd.body with
  | .stmts b => some b
  | _ => none
noncomputable def bodyOf (fd : FuncData) : List Stmt := (stmtsOf fd).getD []
noncomputable def isStrV (s : Str) : Value → Bool
  | .str t _ => t == s
  | _ => false
noncomputable def isIntV (i : Int) : Value → Bool
  | .int j _ => decide (j = i)
  | _ => false
noncomputable def isRefV (a : Addr) : Value → Bool
  | .ref b => a == b
  | _ => false
/-- a value of the heap is the one of the mini text -/
noncomputable def vB1 (x : AV) (v : Value) : Bool := AV.casesOn x false (fun _ => false) (fun i => isIntV i v) (fun k => decide (k < 150) && isStrV (nmT k) v) (fun _ => false) (fun g => decide (g < 5) && isRefV (gaT 0 g) v) false
noncomputable def vB : List AV → List Value → Bool
  | [], vs => vs.isEmpty
  | x :: xs, vs => !vs.isEmpty && (vB1 x (vs.headD .none) && vB xs vs.tail)
noncomputable def seqIn (K : Frag) (a : Addr) : Option (String × Array Value) := match K.lookup a with
  | some ⟨.type c, none, .seq vs _, sl⟩ => bif sl.size == 0 then some (c, vs) else none
  | _ => none
noncomputable def seqB (K : Frag) (p : Addr × String × List AV) : Bool := Option.casesOn (seqIn K p.1) false fun q => q.1 == p.2.1 && vB p.2.2 q.2.toList
noncomputable def firstB (p : Nat × Nat) : Bool := decide (p.2 < 150) && Option.casesOn ((nmT p.1).cps[0]?) false fun n => nmT p.2 == ⟨#[n]⟩
noncomputable def globB (K : Frag) (p : Nat × AV) : Bool := Option.casesOn (nsIn K mainGlobals (nmT p.1)) false fun o => Option.casesOn o false fun v => vB1 p.2 v
noncomputable def noneB (K : Frag) (p : Str × Value) : Bool := nsIn K mainGlobals p.1 == some none && (bootBuiltins p.1 == some p.2 && !(p.1 == ("__name__" : Str)))
noncomputable def cvT (f : Nat) : Addr := Option.casesOn (fnT f) (caT f) fun _ => faT f
noncomputable def callB (K : Frag) (f : Nat) : Bool := nsIn K mainGlobals (nmT f) == some (some (.ref (cvT f))) && keepIn K (.ref (cvT f))
noncomputable def clsB (K : Frag) (p : Nat × Nat) : Bool := clsOkB K (caT p.1) (asT.map nmT) (faT p.2) && ((fnT p.1).isNone && (fnT p.2).isSome)
noncomputable def methB (K : Frag) (c : Nat) (q : Nat × Nat) : Bool := methOkB K (caT c) (nmT q.1) (faT q.2) && (decide (q.1 < 150) && (keepIn K (.ref (faT q.2)) && (fnT q.2).isSome))
noncomputable def celled (f : Nat) : Bool := f == 21 || f == 147
noncomputable def namesB (tb : Tb) (ps : List Str) (c : Bool) : Bool := bif c then decide ((tb.map (·.1)).Nodup) && ps.all fun x => tb.lookup x == some .local || tb.lookup x == some .cell
  else (tb.all fun x => x.2 != .cell) && ps.all fun x => tb.lookup x == some .local
/-- a def of the heap is the one that the mini text stands for -/
noncomputable def fdB (K : Frag) (fd : FuncData) (nl : List Str) (i : FnI) (c : Bool) (dv : List Value) : Bool := (stmtsOf fd).isSome && (fd.scope.kind == .function && (!fd.scope.isCoroutine && (!fd.scope.isGenerator && (fd.globals == mainGlobals && (fd.builtins == builtinsNs && (fd.closure.isEmpty && (codeIn K fd.code fd.qualname &&
  (nl.length == i.nslots && (decide nl.Nodup && (decide (i.nparams ≤ i.nslots) && ((RSs cT fd.scope.names nl i.body).w (bodyOf fd) && (namesB fd.scope.names (nl.take i.nparams) c && (vB i.defaults dv && (decide (i.nparams ≤ 6) && decide (i.defaults.length ≤ bif c then 0 else 1)))))))))))))))
noncomputable def fnB (K : Frag) (p : Nat × FnI) : Bool := (fdIn K (faT p.1)).isSome && fdB K (fdT K p.1) (nlT p.1) p.2 (celled p.1) (dvT p.1)
noncomputable def again (K : Frag) (p : Nat × FnI) : List Stmt := (RSs cT (fdT K p.1).scope.names (nlT p.1) p.2.body).f (bodyOf (fdT K p.1))
noncomputable def given (K : Frag) (p : Nat × FnI) : List Stmt := bodyOf (fdT K p.1)
theorem strTab_nodup : strTab.Nodup := by decide +kernel
theorem strTab_len : strTab.length = 150 := by decide +kernel
theorem first_all : (firstL.all firstB) = true := by decide +kernel
noncomputable def seqL : List (Addr × String × List AV) := [(22, "tuple", [(.str 2), (.str 4), (.str 9)]), (23, "tuple", [(.str 11), (.str 3), (.str 6), (.str 12)]), (24, "tuple", [(.str 7), (.str 0), (.str 8)]), (25, "tuple", [(.str 11), (.str 3), (.str 6), (.str 12), (.str 1), (.str 14)]),
  (278, "list", [(.str 0), (.str 1), (.str 2), (.str 3), (.str 4), (.str 5), (.str 6), (.str 7), (.str 8), (.str 9), (.str 10), (.str 11), (.str 12), (.str 13), (.str 14), (.str 15), (.str 5)])]
section
variable (w : World)
theorem seq_all : (seqL.all (seqB (theK w))) = true := by kernel_rfl
theorem cls_all : (clsL.all (clsB (theK w))) = true := by kernel_rfl
theorem meth_all : (methL.all fun p => p.2.all (methB (theK w) p.1)) = true := by kernel_rfl
theorem call_all : (callsT.all (callB (theK w))) = true := by kernel_rfl
theorem glob_all : (gvalL.all (globB (theK w))) = true := by kernel_rfl
theorem blt_all : (bltT.all (noneB (theK w))) = true := by kernel_rfl
theorem fn_alls : (fnL.all (fnB (theK w))) = true := by kernel_rfl
theorem again_all : fnL.map (again (theK w)) = fnL.map (given (theK w)) := by kernel_rfl
theorem bind_all : (fnL.map fun p => fun (v0 v1 v2 v3 v4 v5 : Value) (S : Setting) => peek (theK w) S (bindArgs (fdT (theK w) p.1) ⟨[v0, v1, v2, v3, v4, v5].take p.2.nparams, []⟩)) = fnL.map fun p => fun (v0 v1 v2 v3 v4 v5 : Value) (_ : Setting) => some (((nlT p.1).take p.2.nparams).zip ([v0, v1, v2, v3, v4, v5].take p.2.nparams)) := by kernel_rfl
theorem bind_dfl : (([29, 62] : List Nat).map fun f => fun (v0 v1 : Value) (S : Setting) => peek (theK w) S (bindArgs (fdT (theK w) f) ⟨[v0, v1], []⟩)) = ([29, 62] : List Nat).map fun f => fun (v0 v1 : Value) (_ : Setting) => some (((nlT f).take 3).zip ([v0, v1] ++ dvT f)) := by kernel_rfl
theorem bind_cells : (([(21, 2), (147, 1)] : List (Nat × Nat)).map fun p => fun (v0 v1 : Value) => bindArgs (fdT (theK w) p.1) ⟨[v0, v1].take p.2, []⟩) = ([(21, 2), (147, 1)] : List (Nat × Nat)).map fun p => fun (v0 v1 : Value) => (pure (((nlT p.1).take p.2).zip ([v0, v1].take p.2)) : Sem _) := by kernel_rfl
end
end Mine
end
-- U24
section
set_option tactic.hygienic false
set_option maxRecDepth 100000
namespace Mine
open PySem PySem.W PyProof.Rows PySem.Calls PySem.SeqAt
noncomputable def theZ (w : World) (h : Heap) (mg mb : Str → Option Value) (l : Addr) (script : List Int) : Wd :=
  { prog := PySem.Challenge.rw_nt0029_01.row.prog, w := w, P := thePI script, h₀ := h, mg := mg, mb := mb, K := theK w, nm := nmT, nN := 150, ga := gaT l, fa := faT, ca := caT, as := asT, calls := callsT }
theorem look_mem {α : Type} {L : List (Nat × α)} {k : Nat} {v : α} (h : look L k = some v) : (k, v) ∈ L := by
  induction L with
  | nil => cases h
  | cons p r ih =>
    obtain ⟨n, x⟩ := p
    have h : cond (Nat.beq n k) (some x) (look r k) = some v := h
    cases e : Nat.beq n k with
    | true =>
      rw [e] at h
      cases h
      cases Nat.eq_of_beq_eq_true e
      exact .head _
    | false => rw [e] at h; exact .tail _ (ih h)
theorem all_get {α : Type} {p : α → Bool} {l : List α} (h : l.all p = true) {x : α} (m : x ∈ l) : p x = true := List.all_eq_true.mp h x m
theorem nmT_inj : ∀ i j, i < 150 → j < 150 → nmT i = nmT j → i = j := by
  intro i j hi hj h
  rw [← strTab_len] at hi hj
  unfold nmT at h
  rw [List.getElem?_eq_getElem hi, List.getElem?_eq_getElem hj, Option.getD_some, Option.getD_some] at h
  exact (List.getElem_inj strTab_nodup).mp h
theorem isStrV_get {s : Str} {v : Value} (e : isStrV s v = true) : ∃ t, v = .str s t := by
  cases v with
  | str x t => exact ⟨t, congrArg (Value.str · t) (beq_iff_eq.mp e)⟩
  | _ => cases e
theorem isIntV_get {i : Int} {v : Value} (e : isIntV i v = true) : ∃ t, v = .int i t := by
  cases v with
  | int x t => exact ⟨t, congrArg (Value.int · t) (of_decide_eq_true e)⟩
  | _ => cases e
theorem isRefV_get {a : Addr} {v : Value} (e : isRefV a v = true) : v = .ref a := by
  cases v with
  | ref x => exact (congrArg Value.ref (beq_iff_eq.mp e)).symm
  | _ => cases e
theorem ga_low {l : Addr} {g : Nat} (h : g < 5) : gaT l g = gaT 0 g := by
  unfold gaT
  rw [List.getElem?_eq_getElem (l := [22, 23, 24, 25, 278]) h]
  rfl
section
variable {w : World} {h : Heap} {mg mb : Str → Option Value} {l : Addr} {script : List Int}
theorem vB1_sound {x : AV} {v : Value} (e : vB1 x v = true) : VR (theZ w h mg mb l script) [] x v := by
  cases x with
  | int i => exact isIntV_get e
  | str k => exact ⟨of_decide_eq_true (andT e).1, isStrV_get (andT e).2⟩
  | st g => exact (isRefV_get (andT e).2).trans (congrArg Value.ref (ga_low (of_decide_eq_true (andT e).1)).symm)
  | _ => cases e
theorem vB_sound {xs : List AV} : ∀ {vs : List Value}, vB xs vs = true → VRs (theZ w h mg mb l script) [] xs vs := by
  induction xs with
  | nil =>
    intro vs e
    cases vs with
    | nil => trivial
    | cons _ _ => cases e
  | cons x r ih =>
    intro vs e
    cases vs with
    | nil => cases e
    | cons v vs =>
      obtain ⟨_, e⟩ := andT e
      exact ⟨vB1_sound (andT e).1, ih (andT e).2⟩
set_option tactic.hygienic true in
theorem seqIn_get {K : Frag} {a : Addr} {c : String} {vs : Array Value} (X : K.In h) (e : seqIn K a = some (c, vs)) : ∃ n, h.get? a = some { cls := .type c, data := .seq vs n } := by
  unfold seqIn at e
  split at e
  · rename_i c' vs' n sl q
    cases hz : sl.size == 0 with
    | false => rw [hz] at e; cases e
    | true =>
      rw [hz] at e
      cases e
      obtain rfl := Array.eq_empty_of_size_eq_zero (beq_iff_eq.mp hz)
      exact ⟨n, X _ _ q⟩
  · cases e
theorem seqB_get {K : Frag} {a : Addr} {c : String} {xs : List AV} (X : K.In h) (e : seqB K (a, c, xs) = true) : ∃ vs n, h.get? a = some { cls := .type c, data := .seq vs n } ∧ vB xs vs.toList = true := by
  have e : (Option.casesOn (seqIn K a) false fun q => q.1 == c && vB xs q.2.toList : Bool) = true := e
  cases hq : seqIn K a with
  | none => rw [hq] at e; cases e
  | some q =>
    rw [hq] at e
    obtain ⟨c', vs⟩ := q
    obtain ⟨e1, e2⟩ := andT e
    cases beq_iff_eq.mp e1
    obtain ⟨n, g⟩ := seqIn_get X hq
    exact ⟨vs, n, g, e2⟩
theorem seq_tup {a : Addr} {xs : List AV} (X : (theK w).In h) (m : (a, "tuple", xs) ∈ seqL) : OR (theZ w h mg mb l script) [] h a (.tup xs) := by
  obtain ⟨vs, n, g, r⟩ := seqB_get X (all_get (seq_all w) m)
  exact ⟨vs.toList, ⟨n, g⟩, vB_sound r⟩
theorem seq_list {a : Addr} {xs : List AV} (X : (theK w).In h) (m : (a, "list", xs) ∈ seqL) : OR (theZ w h mg mb l script) [] h a (.list xs) := by
  obtain ⟨vs, n, g, r⟩ := seqB_get X (all_get (seq_all w) m)
  exact ⟨vs.toList, ⟨n, g⟩, vB_sound r⟩
theorem wf0_of {vs : List Value} (X : (theK w).In h) (hl : listAt h l vs) (hv : VRs (theZ w h mg mb l script) [] (script.map .int) vs) (hs : ∃ o, h.get? sysModules = some o) : WF0 (theZ w h mg mb l script) where
  stat := fun g => by
    match g with
    | 0 => exact seq_tup X (.head _)
    | 1 => exact seq_tup X (.tail _ (.head _))
    | 2 => exact seq_tup X (.tail _ (.tail _ (.head _)))
    | 3 => exact seq_tup X (.tail _ (.tail _ (.tail _ (.head _))))
    | 4 => exact seq_list X (.tail _ (.tail _ (.tail _ (.tail _ (.head _)))))
    | _ + 5 => exact ⟨vs, hl, hv⟩
  inj := nmT_inj
  nodict := fun g es e => by
    match g with
    | 0 | 1 | 2 | 3 | 4 | _ + 5 => cases e
  nodictS := fun g es e => by
    match g with
    | 0 | 1 | 2 | 3 | 4 | _ + 5 => cases e
  sys := fun a e => by
    obtain ⟨o, ho⟩ := hs
    rw [beq_eq_false_iff_ne]
    rintro rfl
    rw [show (theZ w h mg mb l script).h₀ = h from rfl, ho] at e
    cases e
  first := fun k c e _ => by
    obtain ⟨h1, h2⟩ := andT (all_get first_all (look_mem (L := firstL) e))
    refine ⟨of_decide_eq_true h1, ?_⟩
    show ∃ n, (nmT k).cps[0]? = some n ∧ nmT c = ⟨#[n]⟩
    have h2 : (Option.casesOn ((nmT k).cps[0]?) false fun n => nmT c == ⟨#[n]⟩ : Bool) = true := h2
    cases hq : (nmT k).cps[0]? with
    | none => rw [hq] at h2; cases h2
    | some n => rw [hq] at h2; exact ⟨n, rfl, beq_iff_eq.mp h2⟩
theorem meth_get {c m f : Nat} (e : methT c m = some f) : methB (theK w) c (m, f) = true := by
  obtain ⟨ls, h1, h2⟩ := Option.bind_eq_some_iff.mp e
  exact all_get (all_get (meth_all w) (look_mem h1)) (look_mem h2)
theorem cv_def {f : Nat} (e : (fnT f).isSome = true) : cv (theZ w h mg mb l script) f = faT f := by
  obtain ⟨i, hi⟩ := Option.isSome_iff_exists.mp e
  show (Option.casesOn (fnT f) (caT f) fun _ => faT f : Nat) = faT f
  rw [hi]
theorem wfk_of (X : (theK w).In h) : WFK (theZ w h mg mb l script) where
  kin := X
  cls := fun c g e => (andT (all_get (cls_all w) (look_mem (L := clsL) e))).1
  meth := fun c m f e => let q := andT (meth_get (w := w) e); ⟨q.1, of_decide_eq_true (andT q.2).1⟩
  lt := fun a m => by
    have : ∀ a ∈ asT, a < 150 := by decide
    exact this a m
  few := by show asT.length ≤ 1000; decide
theorem wfg_of (X : (theK w).In h) (G : h.Ns mainGlobals mg) (B : h.Ns builtinsNs mb) (hb : ∀ x : Str, x ≠ "__name__" → mb x = bootBuiltins x) : WFG (theZ w h mg mb l script) where
  nsg := G
  nsb := B
  glob := fun x hx => by
    have hx' : (look gvalL x).getD .unb ≠ .unb := hx
    show ∃ v', mg (nmT x) = some v' ∧ VR _ [] ((look gvalL x).getD .unb) v'
    cases e : look gvalL x with
    | none => rw [e] at hx'; exact absurd rfl hx'
    | some y =>
      have q := all_get (glob_all w) (look_mem e)
      have q : (Option.casesOn (nsIn (theK w) mainGlobals (nmT x)) false fun o => Option.casesOn o false fun v => vB1 y v : Bool) = true := q
      cases e1 : nsIn (theK w) mainGlobals (nmT x) with
      | none => rw [e1] at q; cases q
      | some o =>
        rw [e1] at q
        cases o with
        | none => cases q
        | some v => exact ⟨v, mg_of X G e1, vB1_sound q⟩
  blt := fun p hp => by
    obtain ⟨q1, q⟩ := andT (all_get (blt_all w) hp)
    obtain ⟨q2, q3⟩ := andT q
    exact ⟨mg_none_of X G (beq_iff_eq.mp q1), (hb _ (fun e => by rw [e] at q3; cases q3)).trans (beq_iff_eq.mp q2)⟩
  call := fun f hf => by
    obtain ⟨q1, q2⟩ := andT (all_get (call_all w) hf)
    exact ⟨mg_of X G (beq_iff_eq.mp q1), q2⟩
  methG := fun c m f e => by
    have q := (andT (andT (meth_get (w := w) e)).2).2
    exact ⟨(andT q).1, cv_def (andT q).2⟩
theorem wf_of {vs : List Value} (X : (theK w).In h) (G : h.Ns mainGlobals mg) (B : h.Ns builtinsNs mb) (hb : ∀ x : Str, x ≠ "__name__" → mb x = bootBuiltins x) (hl : listAt h l vs) (hv : VRs (theZ w h mg mb l script) [] (script.map .int) vs) (hs : ∃ o, h.get? sysModules = some o) : WF (theZ w h mg mb l script) :=
  { toWF0 := wf0_of X hl hv hs, toWFK := wfk_of X, toWFG := wfg_of X G B hb }
theorem fdIn_get {K : Frag} {a : Addr} {fd : FuncData} (X : K.In h) (e : fdIn K a = some fd) : ∃ o, h.get? a = some o ∧ o.data = .func fd := by
  unfold fdIn at e
  split at e
  · rename_i q; cases e; exact ⟨_, X _ _ q, rfl⟩
  · cases e
set_option tactic.hygienic true in
theorem stmtsOf_get {fd : FuncData} (e : (stmtsOf fd).isSome = true) : fd.body = .stmts (bodyOf fd) := by
  obtain ⟨b, hb⟩ := Option.isSome_iff_exists.mp e
  unfold bodyOf
  rw [hb]
  unfold stmtsOf at hb
  split at hb
  · rename_i b' q; cases hb; exact q
  · cases hb
theorem take6 {vs : List Value} (h : vs.length ≤ 6) : ∃ v0 v1 v2 v3 v4 v5 : Value, [v0, v1, v2, v3, v4, v5].take vs.length = vs := by
  match vs, h with
  | [], _ => exact ⟨.none, .none, .none, .none, .none, .none, rfl⟩
  | [a], _ => exact ⟨a, .none, .none, .none, .none, .none, rfl⟩
  | [a, b], _ => exact ⟨a, b, .none, .none, .none, .none, rfl⟩
  | [a, b, c], _ => exact ⟨a, b, c, .none, .none, .none, rfl⟩
  | [a, b, c, d], _ => exact ⟨a, b, c, d, .none, .none, rfl⟩
  | [a, b, c, d, e], _ => exact ⟨a, b, c, d, e, .none, rfl⟩
  | [a, b, c, d, e, f], _ => exact ⟨a, b, c, d, e, f, rfl⟩
  | _ :: _ :: _ :: _ :: _ :: _ :: _ :: r, h => exact absurd h (by simp)
theorem take2 {vs : List Value} (h : vs.length ≤ 2) : ∃ v0 v1 : Value, [v0, v1].take vs.length = vs := by
  match vs, h with
  | [], _ => exact ⟨.none, .none, rfl⟩
  | [a], _ => exact ⟨a, .none, rfl⟩
  | [a, b], _ => exact ⟨a, b, rfl⟩
  | _ :: _ :: _ :: r, h => exact absurd h (by simp)
theorem map_get {α β : Type} {f g : α → β} {l : List α} (h : l.map f = l.map g) {x : α} (m : x ∈ l) : f x = g x := List.map_inj_left.mp h x m
theorem bind_full {f : Nat} {i : FnI} (m : (f, i) ∈ fnL) (h6 : i.nparams ≤ 6) {s : Shared} {vs : List Value} (X : (theK w).In s.heap) (hl : vs.length = i.nparams) : BindsTo s (fdT (theK w) f) ⟨vs, []⟩ (((nlT f).take i.nparams).zip vs) := by
  obtain ⟨v0, v1, v2, v3, v4, v5, e⟩ := take6 (hl ▸ h6)
  rw [hl] at e
  have q := map_get (bind_all w) m
  have q := congrFun (congrFun (congrFun (congrFun (congrFun (congrFun q v0) v1) v2) v3) v4) v5
  dsimp only at q
  rw [e] at q
  exact kp_binds X fun S => congrFun q S
theorem bind_one {f : Nat} {i : FnI} (m : (f, i) ∈ fnL) (hd : i.defaults.length = 1) {s : Shared} {vs : List Value} (X : (theK w).In s.heap) (hl : vs.length + 1 = i.nparams) : BindsTo s (fdT (theK w) f) ⟨vs, []⟩ (((nlT f).take i.nparams).zip (vs ++ dvT f)) := by
  have key : ∀ p ∈ fnL, p.2.defaults.length = 1 → p.1 ∈ ([29, 62] : List Nat) ∧ p.2.nparams = 3 := by decide
  obtain ⟨k1, k2⟩ := key _ m hd
  dsimp only at k1 k2
  rw [k2] at hl ⊢
  obtain ⟨a, b, rfl⟩ := two_of (Nat.succ.inj hl)
  have q := congrFun (congrFun (map_get (bind_dfl w) k1) a) b
  exact kp_binds X fun S => congrFun q S
theorem bind_cell {f : Nat} {i : FnI} (m : (f, i) ∈ fnL) (hc : celled f = true) {vs : List Value} (hl : vs.length = i.nparams) : bindArgs (fdT (theK w) f) ⟨vs, []⟩ = pure (((nlT f).take i.nparams).zip vs) := by
  have key : ∀ p ∈ fnL, celled p.1 = true → (p.1, p.2.nparams) ∈ ([(21, 2), (147, 1)] : List (Nat × Nat)) ∧ p.2.nparams ≤ 2 := by decide
  obtain ⟨k1, k2⟩ := key _ m hc
  dsimp only at k1 k2
  obtain ⟨v0, v1, e⟩ := take2 (hl ▸ k2)
  rw [hl] at e
  have q := congrFun (congrFun (map_get (bind_cells w) k1) v0) v1
  dsimp only at q
  rw [e] at q
  exact q
theorem fns_of (X : (theK w).In h) (hn : h.NoLimit) : FnsOk (theZ w h mg mb l script) where
  nolimit := hn
  cinit := fun c g e => by
    obtain ⟨q1, q2⟩ := andT (andT (all_get (cls_all w) (look_mem (L := clsL) e))).2
    exact ⟨Option.isNone_iff_eq_none.mp q1, cv_def q2⟩
  fn := fun f i e => by
    have m : (f, i) ∈ fnL := look_mem e
    obtain ⟨h1, e⟩ := andT (all_get (fn_alls w) m)
    obtain ⟨fd, h1⟩ := Option.isSome_iff_exists.mp h1
    obtain ⟨k1, e⟩ := andT e
    obtain ⟨k2, e⟩ := andT e
    obtain ⟨k3, e⟩ := andT e
    obtain ⟨k4, e⟩ := andT e
    obtain ⟨k5, e⟩ := andT e
    obtain ⟨k6, e⟩ := andT e
    obtain ⟨k7, e⟩ := andT e
    obtain ⟨k8, e⟩ := andT e
    obtain ⟨k9, e⟩ := andT e
    obtain ⟨k10, e⟩ := andT e
    obtain ⟨k11, e⟩ := andT e
    obtain ⟨k12, e⟩ := andT e
    obtain ⟨k13, e⟩ := andT e
    obtain ⟨k14, e⟩ := andT e
    obtain ⟨k15, k16⟩ := andT e
    have hfd : fdIn (theK w) (faT f) = some (fdT (theK w) f) := by unfold fdT; rw [h1]; rfl
    have hv : VRs (theZ w h mg mb l script) [] i.defaults (dvT f) := vB_sound k14
    have hvl := hv.length
    have k15 := of_decide_eq_true k15
    have k16 := of_decide_eq_true k16
    refine ⟨fdT (theK w) f, bodyOf (fdT (theK w) f), nlT f, dvT f, fdIn_get X hfd, stmtsOf_get k1, beq_iff_eq.mp k2, by simpa using k3, by simpa using k4, beq_iff_eq.mp k5, beq_iff_eq.mp k6, List.isEmpty_iff.mp k7, codeRec_of X k8, beq_iff_eq.mp k9, of_decide_eq_true k10, of_decide_eq_true k11, k12, map_get (again_all w) m, hv, ?_⟩
    cases hc : celled f with
    | false =>
      rw [hc] at k13 k16
      obtain ⟨c1, c2⟩ := andT k13
      refine .inl ⟨fun x hx => bne_iff_ne.mp (all_get c1 hx), fun x hx => beq_iff_eq.mp (all_get c2 hx), fun s vs X h1 h2 => ?_⟩
      rcases Nat.lt_or_ge vs.length i.nparams with hlt | hge
      · have : i.defaults.length = 1 := by
          have : i.defaults.length ≤ 1 := k16
          lia
        have q := bind_one m this X (vs := vs) (by lia)
        rw [show (dvT f).length - (i.nparams - vs.length) = 0 by lia, List.drop_zero]
        exact q
      · have hl : vs.length = i.nparams := Nat.le_antisymm h1 hge
        rw [hl, Nat.sub_self, Nat.sub_zero, List.drop_length, List.append_nil]
        exact bind_full m k15 X hl
    | true =>
      rw [hc] at k13 k16
      obtain ⟨c1, c2⟩ := andT k13
      have hz : i.defaults.length ≤ 0 := k16
      exact .inr ⟨of_decide_eq_true c1, fun x hx => (Bool.or_eq_true_iff.mp (all_get c2 hx)).imp beq_iff_eq.mp beq_iff_eq.mp, List.eq_nil_of_length_eq_zero (hvl.trans (Nat.le_zero.mp hz)), fun vs hl => bind_cell m hc hl⟩
theorem run_law {vs : List Value} (X : (theK w).In h) (G : h.Ns mainGlobals mg) (B : h.Ns builtinsNs mb) (hb : ∀ x : Str, x ≠ "__name__" → mb x = bootBuiltins x) (hl : listAt h l vs) (hv : VRs (theZ w h mg mb l script) [] (script.map .int) vs) (hs : ∃ o, h.get? sysModules = some o) (hn : h.NoLimit)
    (e : runLaw script) {A : Around} (ha : AOk 12 A) {s : Shared} (hsh : s.heap = h) :
    wpAny (model PySem.Challenge.rw_nt0029_01.row.prog w) A (call (.ref 342) [.ref l]) (fun v s' => v = .bool true ∧ ∃ h' tk, s' = { s with heap := h', toks := tk } ∧ ∀ b o, s.heap.get? b = some o → h'.get? b = some o) (fun _ _ => False) s := by
  have W := wf_of (mb := mb) X G B hb hl hv hs
  have q := (fn_all W (fns_of X hn) 200 12).call 147 [.st 5] [] _ A s [] [.ref l] e ha
    ⟨rfl, List.nodup_nil, fun i o e => (by simp at e), fun b o e => (by rw [hsh]; exact e), fun a m => (by simp at m)⟩ ⟨rfl, trivial⟩
  refine wpAny_mono q (fun v s' p => ?_) fun _ _ z => z.elim
  obtain ⟨v, H', h', tk, ρ', rfl, R, Gr, r⟩ := p
  cases r
  exact ⟨rfl, h', tk, rfl, fun b o e => Gr.keep b o List.not_mem_nil List.not_mem_nil e⟩
end
end Mine
end
-- U25
section
set_option tactic.hygienic false
set_option maxRecDepth 100000
namespace Mine
open PySem PySem.W PyProof.Rows PySem.Calls PySem.SeqAt
theorem importsNone_law : importsNone theView = true := by decide +kernel
theorem well_ints {w : World} {h : Heap} {mg mb : Str → Option Value} {l : Addr} {script : List Int} {is : List Int} : ∀ {vs : List Value}, WellAll w.params h vs (ofPys (is.map PyData.int)) → VRs (theZ w h mg mb l script) [] (is.map .int) vs := by
  induction is with
  | nil =>
    intro vs q
    cases q
    trivial
  | cons i is ih =>
    intro vs q
    cases q with
    | cons h1 h2 =>
      cases h1 with
      | int _ t => exact ⟨⟨t, rfl⟩, ih h2⟩
theorem aok12 : AOk 12 callerA where
  hh := rfl
  dep := by decide
  un := by decide
set_option tactic.hygienic true in
set_option pp.maxSteps 2000 in
set_option maxHeartbeats 4000000 in
theorem join (plain : ∀ script : List Int, script.length ≤ 63 → runLaw script) : PySem.Challenge.rw_nt0029_01.Holds := by
  apply heads
  intro w s₀ s₁ mg mb G Y fa o pm cd doc dV kV ho hd hcd hD hmg hg args vals as hpre hlay hrd hwl hlo
  have X : (theK w).In s₁.heap := kIn_of Y
  clear Y hd hD hcd ho
  refine Ground.open G ?_
  intro T B D TE TW
  clear B D TE TW
  have hmg' : mg (Str.ofString "law") = some (.ref fa) := hmg
  clear hmg
  have hsh := (pre_splitW hpre).1
  have hcond := (pre_splitW hpre).2
  wrow_hasAll hsh hlay
  rename_i script hs1 hs2 hs3 hs4 hs5
  have hlen : script.length ≤ 63 := by
    w_cond hcond
    omega
  have hrun := plain script hlen
  have hsys : ∃ o, s₁.heap.get? sysModules = some o := by
    obtain ⟨mm, ⟨o, _, _, ho, _⟩, _⟩ := (T.seer importsNone_law).mods
    exact ⟨o, ho⟩
  have hfa : fa = 342 := by
    have q := mg_of X T.g (show nsIn (theK w) mainGlobals (Str.ofString "law") = some (some (.ref 342)) by kernel_rfl)
    rw [hmg'] at q
    cases q; rfl
  subst hfa
  cases hwl with
  | cons h1 h2 =>
    cases h2
    generalize hd0 : ofPy (PyData.list (List.map PyData.int script)) = d0 at h1
    rw [show d0 = .list (ofPys (List.map PyData.int script)) from hd0.symm] at h1
    cases h1 with
    | list hget hall =>
      rename_i l vs
      have q := run_law (A := callerA) (s := s₁) X T.g T.b T.builtins ⟨_, hget⟩ (well_ints hall) hsys T.nolimit hrun aok12 rfl
      refine wpAny_mono q (fun v s' p => ?_) fun _ _ z => z.elim
      obtain ⟨rfl, h', tk, rfl, hk⟩ := p
      refine GoodW.toG ?_
      subst hd0
      refine ⟨.inl ⟨.bool true, .bool true, [], rfl, ?_, .bool true, ?_, unshared_nil⟩, hk, rfl, hg⟩
      · refine raisesW_false ?_
        wrow_none_raised
      · wrow_post
end Mine
end
-- V2
section
set_option tactic.hygienic false
namespace Mine
section
variable {sc : List Int} {F : Fun} {W : Nat} {ls : List AV} {H : Hp} {Q : AV → Hp → Prop} {A : List AV → Hp → Prop} {R : AV → Hp → Prop}
/-- initiators -/
noncomputable def opens (k : Nat) : Bool := decide (k = 7) || decide (k = 0) || decide (k = 8)
noncomputable def strong (k : Nat) : Bool := decide (k = 2) || decide (k = 4) || decide (k = 9)
noncomputable def embs (k : Nat) : Bool := decide (k = 11) || decide (k = 3) || decide (k = 6) || decide (k = 12)
noncomputable def removed (k : Nat) : Bool := decide (k = 11) || decide (k = 3) || decide (k = 6) || decide (k = 12) || decide (k = 1) || decide (k = 14)
theorem ob_ref {a : Nat} {o : AO} (h : H[a]? = some o) : obj (thePI sc) H (.ref a) = some o := h
-- sums and kin
theorem b_add {x y : Int} (q : Q (.int (x + y)) H) : TO (evBin (thePI sc) .add (.int x) (.int y) H) Q := ⟨_, _, rfl, q⟩
theorem b_addi {x y : Int} (q : Q (.int (x + y)) H) : TO (evBin (thePI sc) .addi (.int x) (.int y) H) Q := ⟨_, _, rfl, q⟩
theorem b_sub {x y : Int} (q : Q (.int (x - y)) H) : TO (evBin (thePI sc) .sub (.int x) (.int y) H) Q := ⟨_, _, rfl, q⟩
theorem b_mul {x y : Int} (h : small x = true) (q : Q (.int (x * y)) H) : TO (evBin (thePI sc) .mul (.int x) (.int y) H) Q :=
  ⟨_, _, if_pos h, q⟩
theorem b_fdiv {x y : Int} (h : y ≠ 0) (h2 : y.natAbs < 1073741824) (q : Q (.int (Int.fdiv x y)) H) : TO (evBin (thePI sc) .fdiv (.int x) (.int y) H) Q :=
  ⟨_, _, (if_neg h).trans (if_pos h2), q⟩
theorem b_mod {x y : Int} (h : y ≠ 0) (q : Q (.int (Int.fmod x y)) H) : TO (evBin (thePI sc) .mod (.int x) (.int y) H) Q :=
  ⟨_, _, if_neg h, q⟩
theorem b_addL {u v : AV} {xs ys : List AV} (h1 : obj (thePI sc) H u = some (.list xs)) (h2 : obj (thePI sc) H v = some (.list ys)) (h3 : xs.length + ys.length ≤ 1000000)
    (q : Q (.ref H.length) (H ++ [.list (xs ++ ys)])) : TO (evBin (thePI sc) .add u v H) Q :=
  ⟨_, _, (by show evAdd (thePI sc) u v H = _; unfold evAdd; rw [h1, h2]; exact if_pos h3), q⟩
theorem b_mulL {u : AV} {x : AV} {n : Int} (h1 : obj (thePI sc) H u = some (.list [x])) (h3 : n ≤ 1000000 ∧ -1000000 ≤ n)
    (q : Q (.ref H.length) (H ++ [.list (List.replicate n.toNat x)])) : TO (evBin (thePI sc) .mul u (.int n) H) Q :=
  ⟨_, _, (by show evMul (thePI sc) u (.int n) H = _; unfold evMul; rw [h1]; exact if_pos h3), q⟩
-- comparisons
variable {K : Bool → Prop}
theorem c_eqS {a b : Nat} (q : K (decide (a = b))) : C (evCmp (thePI sc) .eq (.str a) (.str b) H) K := ⟨_, rfl, q⟩
theorem c_neS {a b : Nat} (q : K (!decide (a = b))) : C (evCmp (thePI sc) .ne (.str a) (.str b) H) K := ⟨_, rfl, q⟩
theorem c_eqI {a b : Int} (q : K (decide (a = b))) : C (evCmp (thePI sc) .eq (.int a) (.int b) H) K := ⟨_, rfl, q⟩
theorem c_neI {a b : Int} (q : K (!decide (a = b))) : C (evCmp (thePI sc) .ne (.int a) (.int b) H) K := ⟨_, rfl, q⟩
theorem c_eqB {a b : Bool} (q : K (decide (a = b))) : C (evCmp (thePI sc) .eq (.bool a) (.bool b) H) K := ⟨_, rfl, q⟩
theorem c_lt {a b : Int} (q : K (decide (a < b))) : C (evCmp (thePI sc) .lt (.int a) (.int b) H) K := ⟨_, rfl, q⟩
theorem c_le {a b : Int} (q : K (decide (a ≤ b))) : C (evCmp (thePI sc) .le (.int a) (.int b) H) K := ⟨_, rfl, q⟩
theorem c_gt {a b : Int} (q : K (decide (a > b))) : C (evCmp (thePI sc) .gt (.int a) (.int b) H) K := ⟨_, rfl, q⟩
theorem c_isN {a : AV} (q : K (decide (a = .none))) : C (evCmp (thePI sc) .isN a .none H) K := ⟨_, rfl, q⟩
theorem c_notN {a : AV} (q : K (!decide (a = .none))) : C (evCmp (thePI sc) .notN a .none H) K := ⟨_, rfl, q⟩
theorem c_neL {u v : AV} {xs ys : List AV} (h1 : obj (thePI sc) H u = some (.list xs)) (h2 : obj (thePI sc) H v = some (.list ys)) (h3 : ys = []) (q : K (!decide (xs = []))) : C (evCmp (thePI sc) .ne u v H) K := by
  subst h3
  refine ⟨_, ?_, q⟩
  show (eq2 (thePI sc) H u v).map (!·) = _
  rw [eq2_list h1 h2]
  cases xs <;> rfl
theorem c_eqL {u v : AV} {xs ys : List AV} (h1 : obj (thePI sc) H u = some (.list xs)) (h2 : obj (thePI sc) H v = some (.list ys)) (h3 : ys = []) (q : K (decide (xs = []))) : C (evCmp (thePI sc) .eq u v H) K := by
  subst h3
  refine ⟨_, ?_, q⟩
  show eq2 (thePI sc) H u v = _
  rw [eq2_list h1 h2]
  cases xs <;> rfl
theorem c_in22 {k : Nat} (q : K (opens k)) : C (evCmp (thePI sc) .inn (.str k) (.st 2) H) K := by
  refine ⟨_, rfl, ?_⟩
  have : opens k = ([AV.str 7, .str 0, .str 8].any fun x => x = .str k) := by
    simp only [opens, List.any_cons, List.any_nil, AV.str.injEq, Bool.or_false, Bool.or_assoc, eq_comm (b := k)]
  rw [this] at q
  exact q
theorem c_in25 {k : Nat} (q : K (strong k)) : C (evCmp (thePI sc) .inn (.str k) (.st 0) H) K := by
  refine ⟨_, rfl, ?_⟩
  have : strong k = ([AV.str 2, .str 4, .str 9].any fun x => x = .str k) := by
    simp only [strong, List.any_cons, List.any_nil, AV.str.injEq, Bool.or_false, Bool.or_assoc, eq_comm (b := k)]
  rw [this] at q
  exact q
theorem c_in56 {k : Nat} (q : K (embs k)) : C (evCmp (thePI sc) .inn (.str k) (.st 1) H) K := by
  refine ⟨_, rfl, ?_⟩
  have : embs k = ([AV.str 11, .str 3, .str 6, .str 12].any fun x => x = .str k) := by
    simp only [embs, List.any_cons, List.any_nil, AV.str.injEq, Bool.or_false, Bool.or_assoc, eq_comm (b := k)]
  rw [this] at q
  exact q
theorem c_in55 {k : Nat} (q : K (removed k)) : C (evCmp (thePI sc) .inn (.str k) (.st 3) H) K := by
  refine ⟨_, rfl, ?_⟩
  have : removed k = ([AV.str 11, .str 3, .str 6, .str 12, .str 1, .str 14].any fun x => x = .str k) := by
    simp only [removed, List.any_cons, List.any_nil, AV.str.injEq, Bool.or_false, Bool.or_assoc, eq_comm (b := k)]
  rw [this] at q
  exact q
noncomputable def rights (k : Nat) : Bool := decide (k = 4) || decide (k = 9)
theorem c_inO {u : AV} {k : Nat} (h : obj (thePI sc) H u = some (.list [.str 7, .str 0, .str 8])) (q : K (opens k)) : C (evCmp (thePI sc) .inn (.str k) u H) K := by
  have : opens k = ([AV.str 7, .str 0, .str 8].any fun x => x = .str k) := by
    simp only [opens, List.any_cons, List.any_nil, AV.str.injEq, Bool.or_false, Bool.or_assoc, eq_comm (b := k)]
  refine ⟨opens k, ?_, q⟩
  show evIn (thePI sc) H (.str k) u = _
  unfold evIn
  rw [h]
  exact congrArg some this.symm
theorem c_inSt {u : AV} {k : Nat} (h : obj (thePI sc) H u = some (.tup [.str 2, .str 4, .str 9])) (q : K (strong k)) : C (evCmp (thePI sc) .inn (.str k) u H) K := by
  have : strong k = ([AV.str 2, .str 4, .str 9].any fun x => x = .str k) := by
    simp only [strong, List.any_cons, List.any_nil, AV.str.injEq, Bool.or_false, Bool.or_assoc, eq_comm (b := k)]
  refine ⟨strong k, ?_, q⟩
  show evIn (thePI sc) H (.str k) u = _
  unfold evIn
  rw [h]
  exact congrArg some this.symm
theorem c_inEm {u : AV} {k : Nat} (h : obj (thePI sc) H u = some (.tup [.str 11, .str 3, .str 6, .str 12])) (q : K (embs k)) : C (evCmp (thePI sc) .inn (.str k) u H) K := by
  have : embs k = ([AV.str 11, .str 3, .str 6, .str 12].any fun x => x = .str k) := by
    simp only [embs, List.any_cons, List.any_nil, AV.str.injEq, Bool.or_false, Bool.or_assoc, eq_comm (b := k)]
  refine ⟨embs k, ?_, q⟩
  show evIn (thePI sc) H (.str k) u = _
  unfold evIn
  rw [h]
  exact congrArg some this.symm
theorem c_inRA {u : AV} {k : Nat} (h : obj (thePI sc) H u = some (.tup [.str 4, .str 9])) (q : K (rights k)) : C (evCmp (thePI sc) .inn (.str k) u H) K := by
  have : rights k = ([AV.str 4, .str 9].any fun x => x = .str k) := by
    simp only [rights, List.any_cons, List.any_nil, AV.str.injEq, Bool.or_false, Bool.or_assoc, eq_comm (b := k)]
  refine ⟨rights k, ?_, q⟩
  show evIn (thePI sc) H (.str k) u = _
  unfold evIn
  rw [h]
  exact congrArg some this.symm
theorem c_inL {u : AV} {k : Nat} {xs : List AV} (h : obj (thePI sc) H u = some (.list xs)) (ha : allStr xs = true) (q : K (xs.any fun x => x = .str k)) : C (evCmp (thePI sc) .inn (.str k) u H) K :=
  ⟨_, (by show evIn (thePI sc) H (.str k) u = _; unfold evIn; rw [h]; exact if_pos ha), q⟩
theorem c_inT {u : AV} {k : Nat} {xs : List AV} (h : obj (thePI sc) H u = some (.tup xs)) (ha : allStr xs = true) (q : K (xs.any fun x => x = .str k)) : C (evCmp (thePI sc) .inn (.str k) u H) K :=
  ⟨_, (by show evIn (thePI sc) H (.str k) u = _; unfold evIn; rw [h]; exact if_pos ha), q⟩
theorem c_inTN {u : AV} {xs : List AV} (h : obj (thePI sc) H u = some (.tup xs)) (ha : allStr xs = true) (q : K false) : C (evCmp (thePI sc) .inn .none u H) K :=
  ⟨_, (by show evIn (thePI sc) H .none u = _; unfold evIn; rw [h]; exact if_pos ha), q⟩
theorem c_inD {u : AV} {k : Int} {es : List (Int × AV)} (h : obj (thePI sc) H u = some (.dictI es)) (q : K (valI es k).isSome) : C (evCmp (thePI sc) .inn (.int k) u H) K :=
  ⟨_, (by show evIn (thePI sc) H (.int k) u = _; unfold evIn; rw [h]), q⟩
theorem c_ninD {u : AV} {k : Int} {es : List (Int × AV)} (h : obj (thePI sc) H u = some (.dictI es)) (q : K (!(valI es k).isSome)) : C (evCmp (thePI sc) .nin (.int k) u H) K :=
  ⟨_, (by show (evIn (thePI sc) H (.int k) u).map (!·) = _; unfold evIn; rw [h]; rfl), q⟩
theorem c_inDS {u : AV} {k : Nat} {es : List (Nat × AV)} (h : obj (thePI sc) H u = some (.dictS es)) (q : K (valS es k).isSome) : C (evCmp (thePI sc) .inn (.str k) u H) K :=
  ⟨_, (by show evIn (thePI sc) H (.str k) u = _; unfold evIn; rw [h]), q⟩
theorem c_ninDS {u : AV} {k : Nat} {es : List (Nat × AV)} (h : obj (thePI sc) H u = some (.dictS es)) (q : K (!(valS es k).isSome)) : C (evCmp (thePI sc) .nin (.str k) u H) K :=
  ⟨_, (by show (evIn (thePI sc) H (.str k) u).map (!·) = _; unfold evIn; rw [h]; rfl), q⟩
-- items
variable {L : AV → Prop}
theorem i_listN {u : AV} {xs : List AV} {j : Nat} {v : AV} (h : obj (thePI sc) H u = some (.list xs)) (hs : xs.length ≤ 1000000) (hv : xs[j]? = some v) (q : L v) : ∃ r, evIdx (thePI sc) u (.int (j : Int)) H = some r ∧ L r := by
  refine ⟨v, ?_, q⟩
  have hj := (List.getElem?_eq_some_iff.mp hv).1
  have h1 : small (j : Int) = true := by simp [small]; lia
  have h2 : place xs.length (j : Int) = some j := by unfold place; rw [if_pos (by lia), if_pos (by lia)]; simp
  unfold evIdx
  rw [h]
  exact (if_pos h1).trans (by rw [h2]; exact hv)
theorem i_listI {u : AV} {xs : List AV} {i : Int} {j : Nat} {v : AV} (h : obj (thePI sc) H u = some (.list xs)) (hs : xs.length ≤ 1000000) (hi : i = (j : Int)) (hv : xs[j]? = some v) (q : L v) : ∃ r, evIdx (thePI sc) u (.int i) H = some r ∧ L r := by
  subst hi; exact i_listN h hs hv q
theorem i_last {u : AV} {xs : List AV} {v : AV} (h : obj (thePI sc) H u = some (.list xs)) (hs : xs.length ≤ 1000000) (hv : xs.getLast? = some v) (q : L v) : ∃ r, evIdx (thePI sc) u (.int (-1)) H = some r ∧ L r := by
  refine ⟨v, ?_, q⟩
  have hne : xs ≠ [] := by rintro rfl; simp at hv
  have hl : 0 < xs.length := List.length_pos_iff.mpr hne
  have h2 : place xs.length (-1) = some (xs.length - 1) := by
    unfold place
    rw [if_neg (by lia), if_pos (by lia)]
    congr 1
    rw [Int.add_comm]
    exact Int.toNat_sub xs.length 1
  unfold evIdx
  rw [h]
  exact (if_pos (by decide)).trans (by rw [h2, ← hv, List.getLast?_eq_getElem?]; rfl)
theorem i_tup {u : AV} {xs : List AV} {n : Int} {v : AV} (h : obj (thePI sc) H u = some (.tup xs)) (hs : small n = true) (hv : ((place xs.length n).bind fun j => xs[j]?) = some v) (q : L v) : ∃ r, evIdx (thePI sc) u (.int n) H = some r ∧ L r :=
  ⟨v, (by unfold evIdx; rw [h]; exact (if_pos hs).trans hv), q⟩
theorem i_dictI {u : AV} {es : List (Int × AV)} {n : Int} {v : AV} (h : obj (thePI sc) H u = some (.dictI es)) (hv : valI es n = some v) (q : L v) : ∃ r, evIdx (thePI sc) u (.int n) H = some r ∧ L r :=
  ⟨v, (by unfold evIdx; rw [h]; exact hv), q⟩
theorem i_dictS {u : AV} {es : List (Nat × AV)} {n : Nat} {v : AV} (h : obj (thePI sc) H u = some (.dictS es)) (hv : valS es n = some v) (q : L v) : ∃ r, evIdx (thePI sc) u (.str n) H = some r ∧ L r :=
  ⟨v, (by unfold evIdx; rw [h]; exact hv), q⟩
theorem i_sign {k c : Nat} (h : firstT k = some c) (q : L (.str c)) : ∃ r, evIdx (thePI sc) (.str k) (.int 0) H = some r ∧ L r :=
  ⟨.str c, (by show (if (0 : Int) = 0 then (firstT k).map AV.str else none) = _; rw [if_pos rfl, h]; rfl), q⟩
theorem s_from {u : AV} {xs : List AV} {n : Int} (h : obj (thePI sc) H u = some (.list xs)) (h2 : 0 ≤ n ∧ xs.length ≤ 1000000) (q : Q (.ref H.length) (H ++ [.list (xs.drop n.toNat)])) : TO (evFrom (thePI sc) u (.int n) H) Q :=
  ⟨_, _, (by unfold evFrom; rw [h]; exact if_pos h2), q⟩
theorem s_upto {u : AV} {xs : List AV} {n : Int} (h : obj (thePI sc) H u = some (.list xs)) (h2 : 0 ≤ n ∧ xs.length ≤ 1000000) (q : Q (.ref H.length) (H ++ [.list (xs.take n.toNat)])) : TO (evUpto (thePI sc) u (.int n) H) Q :=
  ⟨_, _, (by unfold evUpto; rw [h]; exact if_pos h2), q⟩
theorem s_rev {u : AV} {xs : List AV} (h : obj (thePI sc) H u = some (.list xs)) (h2 : xs.length ≤ 1000000) (q : Q (.ref H.length) (H ++ [.list xs.reverse])) : TO (evRev (thePI sc) u H) Q :=
  ⟨_, _, (by unfold evRev; rw [h]; exact if_pos h2), q⟩
-- built-ins
theorem p_len {u : AV} {xs : List AV} (h : obj (thePI sc) H u = some (.list xs)) (h2 : xs.length ≤ 1000000) (q : Q (.int xs.length) H) : TO (evPr (thePI sc) .len [u] H) Q := ⟨_, _, (by show evLen (thePI sc) u H = _; unfold evLen; rw [h]; exact if_pos h2), q⟩
theorem p_intI {i : Int} (q : Q (.int i) H) : TO (evPr (thePI sc) .int [.int i] H) Q := ⟨_, _, rfl, q⟩
theorem p_intB {b : Bool} (q : Q (.int (if b then 1 else 0)) H) : TO (evPr (thePI sc) .int [.bool b] H) Q := ⟨_, _, rfl, q⟩
theorem p_list {u : AV} {xs : List AV} (h : obj (thePI sc) H u = some (.list xs)) (h2 : xs.length ≤ 1000000) (q : Q (.ref H.length) (H ++ [.list xs])) : TO (evPr (thePI sc) .list [u] H) Q := ⟨_, _, (by show evCopy (thePI sc) u H = _; unfold evCopy; rw [h]; exact if_pos h2), q⟩
theorem p_max {i j : Int} (q : Q (.int (max i j)) H) : TO (evPr (thePI sc) .max [.int i, .int j] H) Q := ⟨_, _, rfl, q⟩
theorem p_isboolB {b : Bool} (q : Q (.bool true) H) : TO (evPr (thePI sc) .isbool [.bool b] H) Q := ⟨_, _, rfl, q⟩
theorem p_isboolS {k : Nat} (q : Q (.bool false) H) : TO (evPr (thePI sc) .isbool [.str k] H) Q := ⟨_, _, rfl, q⟩
theorem p_dictI {u : AV} {es : List (Int × AV)} (h : obj (thePI sc) H u = some (.dictI es)) (h2 : es.length ≤ 1000000) (q : Q (.ref H.length) (H ++ [.dictI es])) : TO (evPr (thePI sc) .dict [u] H) Q := ⟨_, _, (by simp only [evPr, evDict, h, h2, if_true]), q⟩
-- methods of lists and dicts
theorem bo_list {m : Bm} {u : AV} {xs : List AV} (hm : m ≠ .get) (h : obj (thePI sc) H u = some (.list xs)) : bmOk (thePI sc) m u H = true := by
  cases m <;> first | exact absurd rfl hm | (unfold bmOk; rw [h])
theorem bo_dictI {u : AV} {xs : List (Int × AV)} (h : obj (thePI sc) H u = some (.dictI xs)) : bmOk (thePI sc) .get u H = true := by unfold bmOk; rw [h]
theorem bo_dictS {u : AV} {xs : List (Nat × AV)} (h : obj (thePI sc) H u = some (.dictS xs)) : bmOk (thePI sc) .get u H = true := by unfold bmOk; rw [h]
theorem m_append {a : Nat} {xs : List AV} {v : AV} (h : H[a]? = some (.list xs)) (h2 : xs.length ≤ 1000000) (q : Q .none (H.set a (.list (xs ++ [v])))) : TO (evBm (thePI sc) .append (.ref a) [v] H) Q :=
  ⟨_, _, (by show evAppend (.ref a) v H = _; unfold evAppend; dsimp only; rw [h]; exact if_pos h2), q⟩
theorem m_pop {a : Nat} {xs : List AV} {v : AV} (h : H[a]? = some (.list xs)) (h2 : xs.length ≤ 1000000) (hl : xs.getLast? = some v) (q : Q v (H.set a (.list xs.dropLast))) : TO (evBm (thePI sc) .pop (.ref a) [] H) Q :=
  ⟨_, _, (by simp only [evBm, evPop, h, h2, if_true, hl]), q⟩
theorem m_index {u : AV} {xs : List AV} {k j : Nat} (h : obj (thePI sc) H u = some (.list xs)) (h2 : (allStr xs && decide (xs.length ≤ 1000000)) = true) (hl : (xs.findIdx? fun x => x = .str k) = some j) (q : Q (.int j) H) : TO (evBm (thePI sc) .index u [.str k] H) Q :=
  ⟨_, _, (by simp only [evBm, evIndex, h, h2, if_true, hl, Option.map_some]), q⟩
theorem m_getI1 {u : AV} {es : List (Int × AV)} {k : Int} (h : obj (thePI sc) H u = some (.dictI es)) (q : Q ((valI es k).getD .none) H) : TO (evBm (thePI sc) .get u [.int k] H) Q := ⟨_, _, (by show evGet (thePI sc) u (.int k) .none H = _; unfold evGet; rw [h]), q⟩
theorem m_getI2 {u : AV} {es : List (Int × AV)} {k : Int} {d : AV} (h : obj (thePI sc) H u = some (.dictI es)) (q : Q ((valI es k).getD d) H) : TO (evBm (thePI sc) .get u [.int k, d] H) Q := ⟨_, _, (by show evGet (thePI sc) u (.int k) d H = _; unfold evGet; rw [h]), q⟩
theorem m_getS1 {u : AV} {es : List (Nat × AV)} {k : Nat} (h : obj (thePI sc) H u = some (.dictS es)) (q : Q ((valS es k).getD .none) H) : TO (evBm (thePI sc) .get u [.str k] H) Q := ⟨_, _, (by show evGet (thePI sc) u (.str k) .none H = _; unfold evGet; rw [h]), q⟩
theorem m_getS2 {u : AV} {es : List (Nat × AV)} {k : Nat} {d : AV} (h : obj (thePI sc) H u = some (.dictS es)) (q : Q ((valS es k).getD d) H) : TO (evBm (thePI sc) .get u [.str k, d] H) Q := ⟨_, _, (by show evGet (thePI sc) u (.str k) d H = _; unfold evGet; rw [h]), q⟩
-- fields and methods of objects
noncomputable def lk : List (Nat × AV) → Nat → Option AV
  | [], _ => none
  | (k, v) :: r, a => if k = a then some v else lk r a
theorem valS_lk : ∀ (es : List (Nat × AV)) (a : Nat), valS es a = lk es a
  | [], _ => rfl
  | (k, v) :: r, a => by
    have ih := valS_lk r a
    unfold valS at ih ⊢
    rw [List.find?_cons, lk]
    by_cases h : k = a
    · simp [h]
    · simp only [h, decide_false, if_false]; exact ih
theorem a_get {x c d a : Nat} {es : List (Nat × AV)} {v : AV} (h1 : H[x]? = some (.inst c d)) (h2 : H[d]? = some (.attrs es)) (h3 : lk es a = some v) (q : L v) : ∃ r, evAttr H (.ref x) a = some r ∧ L r :=
  ⟨v, (by simp only [evAttr, h1, h2, valS_lk, h3]), q⟩
theorem a_meth {x c d m f : Nat} {es : List (Nat × AV)} {B : Nat → Prop} (h1 : H[x]? = some (.inst c d)) (h2 : H[d]? = some (.attrs es)) (h3 : valS es m = none) (h4 : methT c m = some f) (q : B f) : ∃ r, evMeth (thePI sc) m (.ref x) H = some r ∧ B r :=
  ⟨f, (by simp only [evMeth, h1, h2, h3]; exact h4), q⟩
theorem a_set {x c d a : Nat} {es : List (Nat × AV)} {v : AV} {B : Hp → Prop} (h1 : H[x]? = some (.inst c d)) (h2 : H[d]? = some (.attrs es)) (q : B (H.set d (.attrs (putS es a v)))) : ∃ r, evSetA (.ref x) a v H = some r ∧ B r :=
  ⟨_, (by unfold evSetA; dsimp only; rw [h1]; dsimp only; rw [h2]), q⟩
theorem d_setI {a : Nat} {k : Int} {v : AV} {es : List (Int × AV)} {B : Hp → Prop} (h : H[a]? = some (.dictI es)) (h2 : es.length ≤ 1000000) (q : B (H.set a (.dictI (putI es k v)))) : ∃ r, evSetI (.ref a) (.int k) v H = some r ∧ B r :=
  ⟨_, (by unfold evSetI; dsimp only; rw [h]; exact if_pos h2), q⟩
theorem d_setS {a : Nat} {k : Nat} {v : AV} {es : List (Nat × AV)} {B : Hp → Prop} (h : H[a]? = some (.dictS es)) (h2 : es.length ≤ 1000000) (q : B (H.set a (.dictS (putS es k v)))) : ∃ r, evSetI (.ref a) (.str k) v H = some r ∧ B r :=
  ⟨_, (by unfold evSetI; dsimp only; rw [h]; exact if_pos h2), q⟩
theorem e_tup {u : AV} {vs : List AV} {n : Nat} {B : List AV → Prop} (h : obj (thePI sc) H u = some (.tup vs)) (hl : vs.length = n) (q : B vs) : ∃ vs, obj (thePI sc) H u = some (.tup vs) ∧ vs.length = n ∧ B vs := ⟨vs, h, hl, q⟩
theorem e_tup2 {u v1 v2 : AV} {B : AV → AV → Prop} (h : obj (thePI sc) H u = some (.tup [v1, v2])) (q : B v1 v2) : ∃ v1 v2, obj (thePI sc) H u = some (.tup [v1, v2]) ∧ B v1 v2 := ⟨v1, v2, h, q⟩
-- walks
theorem w_enum {a : Nat} {xs : List AV} {B : List (List AV) → Option (Nat × AO) → Prop} (h : H[a]? = some (.list xs)) (q : B (xs.zipIdx.map fun p => [.int p.2, p.1]) (some (a, .list xs))) : ∃ its g, evIter (thePI sc) .enum [.ref a] H = some (its, g) ∧ B its g :=
  ⟨_, _, (by show (H[a]?).bind _ = _; rw [h]; rfl), q⟩
theorem w_seqL {a : Nat} {xs : List AV} {B : List (List AV) → Option (Nat × AO) → Prop} (h : H[a]? = some (.list xs)) (q : B (xs.map fun x => [x]) (some (a, .list xs))) : ∃ its g, evIter (thePI sc) .seq [.ref a] H = some (its, g) ∧ B its g :=
  ⟨_, _, (by show (H[a]?).bind _ = _; rw [h]; rfl), q⟩
theorem w_seqT {a : Nat} {xs : List AV} {B : List (List AV) → Option (Nat × AO) → Prop} (h : H[a]? = some (.tup xs)) (q : B (xs.map fun x => [x]) (some (a, .tup xs))) : ∃ its g, evIter (thePI sc) .seq [.ref a] H = some (its, g) ∧ B its g :=
  ⟨_, _, (by show (H[a]?).bind _ = _; rw [h]; rfl), q⟩
theorem w_keys {a : Nat} {xs : List (Int × AV)} {B : List (List AV) → Option (Nat × AO) → Prop} (h : H[a]? = some (.dictI xs)) (q : B (xs.map fun kv => [.int kv.1]) (some (a, .dictI xs))) : ∃ its g, evIter (thePI sc) .keys [.ref a] H = some (its, g) ∧ B its g :=
  ⟨_, _, (by show (H[a]?).bind _ = _; rw [h]; rfl), q⟩
theorem w_rng1 {b : Int} {B : List (List AV) → Option (Nat × AO) → Prop} (h : small b = true) (q : B ((List.range b.toNat).map fun (j : Nat) => [.int j]) none) : ∃ its g, evIter (thePI sc) .rng [.int b] H = some (its, g) ∧ B its g :=
  ⟨_, _, (by show cond (small b) _ _ = _; rw [h]; rfl), q⟩
theorem w_rng2 {a b : Int} {B : List (List AV) → Option (Nat × AO) → Prop} (h : (small a && small b) = true) (q : B ((List.range (b - a).toNat).map fun (j : Nat) => [.int (a + j)]) none) : ∃ its g, evIter (thePI sc) .rng [.int a, .int b] H = some (its, g) ∧ B its g :=
  ⟨_, _, (by show cond (small a && small b) _ _ = _; rw [h]; rfl), q⟩
theorem kept_at {a : Nat} {o : AO} (h : H[a]? = some o) : kept (some (a, o)) H := h
end
end Mine
end
-- V3
section
set_option tactic.hygienic false
namespace Mine
noncomputable def svs (ks : List Nat) : List AV := ks.map .str
noncomputable def nvs (ks : List Nat) : List AV := ks.map fun (n : Nat) => AV.int (n : Int)
theorem X_go {P : PI} {F : Fun} {W : Nat} {b : List S} {ls : List AV} {H : Hp} {A : QL} {R : QV} (h : exs P F W b ls H A R) : X (exs P F W b ls H) A R := ⟨h⟩
theorem svs_len (ks : List Nat) : (svs ks).length = ks.length := List.length_map ..
theorem nvs_len (ks : List Nat) : (nvs ks).length = ks.length := List.length_map ..
theorem svs_append (ks ls : List Nat) : svs (ks ++ ls) = svs ks ++ svs ls := List.map_append ..
theorem nvs_append (ks ls : List Nat) : nvs (ks ++ ls) = nvs ks ++ nvs ls := List.map_append ..
theorem bo_list' {sc : List Int} {H : Hp} {m : Bm} {u : AV} {xs : List AV} {B : Prop} (hm : m ≠ .get) (h : obj (thePI sc) H u = some (.list xs)) (q : B) : bmOk (thePI sc) m u H = true ∧ B := ⟨bo_list hm h, q⟩
theorem bo_dictI' {sc : List Int} {H : Hp} {u : AV} {xs : List (Int × AV)} {B : Prop} (h : obj (thePI sc) H u = some (.dictI xs)) (q : B) : bmOk (thePI sc) .get u H = true ∧ B := ⟨bo_dictI h, q⟩
theorem bo_dictS' {sc : List Int} {H : Hp} {u : AV} {xs : List (Nat × AV)} {B : Prop} (h : obj (thePI sc) H u = some (.dictS xs)) (q : B) : bmOk (thePI sc) .get u H = true ∧ B := ⟨bo_dictS h, q⟩
theorem at_setE' {H : Hp} {a : Nat} {o o' : AO} (h : H[a]? = some o') : (H.set a o)[a]? = some o := at_setE ⟨_, h⟩
/- the rules of a run's steps, by name; behind a name: how each of its premises is met -/
section
set_option hygiene false
def wkSide (c : Char) : Lean.MacroM (Lean.TSyntax `tactic) := if c == 'r' then `(tactic| rfl) else if c == 'd' then `(tactic| decide) else if c == 'o' then `(tactic| nofun) else `(tactic| walk_at $(Lean.quote (String.singleton c)))
def wkRule (f : Lean.Ident) (hs : Array (Lean.TSyntax `term)) (ts : Array (Lean.TSyntax `tactic)) : List Char → Lean.MacroM (Lean.TSyntax ``Lean.Parser.Tactic.tacticSeq)
  | [] => `(tacticSeq| (with_reducible refine' $f $hs* ?_); ($[$ts]*))
  | ['!'] => `(tacticSeq| with_reducible exact $f)
  | ['.'] => `(tacticSeq| (with_reducible refine' $f $hs*); ($[$ts]*))
  | c :: r => do
    let x := Lean.mkIdent (← Lean.MonadQuotation.addMacroScope (.mkSimple (String.singleton c ++ toString ts.size)))
    wkRule f (hs.push (← `(?$x:ident))) (ts.push (← `(tactic| case $x:ident => $(← wkSide c):tactic))) r
def wkKind (f : Lean.Ident) : Lean.MacroM (Lean.TSyntax ``Lean.Parser.Tactic.tacticSeq) := `(tacticSeq| ((fail_if_success with_reducible refine (?_ : $f ..)); refine (?_ : $f ..)))
def wkRules (a : Array (Lean.TSyntax ``Lean.Parser.Tactic.tacticSeq)) : List String → Lean.MacroM (Lean.TSyntax `tactic)
  | [] => `(tactic| first $[| $a]*)
  | s :: r => do
    let f := Lean.mkIdent (s.takeWhile (· != ':')).toString.toName
    let p := (s.dropWhile (· != ':')).toString
    wkRules (a.push (← if p == ":k" then wkKind f else wkRule f #[] #[] (p.drop 1).toString.toList)) r
def wkTab : List (String × String) := [("h0", "at_new:! at_new2:! ob_ref:h. at_app:h. at_setE':h. at_ne:eh."),
  ("m0", "Iv.mk Rv.mk Sm.mk:r Br.of_t:r Br.of_f:r b_add b_addi b_sub b_mod:d b_fdiv:dd c_eqS c_neS c_eqI c_neI c_eqB c_lt c_le c_gt c_isN c_notN c_in22 c_in25 c_in56 c_in55 c_neL:hhr c_eqL:hhr c_inO:h c_inSt:h c_inEm:h c_inRA:h c_inT:hr c_inTN:hr c_inL:hr c_inD:h c_ninD:h c_inDS:h c_ninDS:h a_get:hhr a_meth:hhrr a_set:hh d_setI:hl i_sign:r i_tup:hdr e_tup2:h e_tup:hr p_intI p_intB p_max p_isboolB p_isboolS p_len:hl p_list:hl s_rev:hl m_append:hl bo_list':oh bo_dictI':h bo_dictS':h m_getI1:h m_getI2:h m_getS1:h m_getS2:h"),
  ("n0", "X_go Br:k C:k TO:k T:k X:k AndW:k OrW:k Iv:k Rv:k Sm:k Exists:k And:k"),
  ("q", "T_and' T_or'"),
  ("p", "T_and T_or"),
  ("t", "Br.of_t:d Br.of_f:d")]
end
end Mine
end
open Mine
local macro_rules | `(tactic| walk_at "n") => `(tactic| first | walk_at "n0" | ((refine' bool_i (isUnb_f ?u0) ?_); (case u0 => walk_at "ub")))
set_option hygiene false
/- one step of a run; what the heap holds -/
local macro_rules | `(tactic| walk_at "e") => `(tactic| first | assumption | (apply Ne.symm; assumption) | omega)
local macro_rules | `(tactic| walk_at "l") => `(tactic| first | omega | (simp only [svs_len, nvs_len, List.length_append, List.length_map, List.length_cons, List.length_nil, List.length_reverse, List.length_dropLast, List.length_take, List.length_drop, List.length_replicate]; omega))
local macro_rules | `(tactic| walk_at "len") => `(tactic| walk_at "l")
local macro_rules | `(tactic| walk_at "ub") => `(tactic| first | (exact fun h => AV.noConfusion h) | assumption)
local macro_rules | `(tactic| walk_at $x:str) => do match wkTab.lookup x.getString with
  | some r => wkRules #[] (r.splitOn " ")
  | none => Lean.Macro.throwUnsupported
local macro_rules | `(tactic| walk_at "h") => `(tactic| first | assumption | walk_at "h0" | rfl)
local macro_rules | `(tactic| walk_at "m") => `(tactic| first | walk_at "m0" | walk_at "n")
local macro_rules | `(tactic| walk_at "ms") => `(tactic| repeat walk_at "m")
local macro_rules | `(tactic| walk_at "mp") => `(tactic| repeat (first | walk_at "m" | walk_at "q"))
local macro_rules | `(tactic| walk_at "ma") => `(tactic| repeat (first | walk_at "m" | walk_at "p"))
set_option hygiene true
-- V4
section
set_option tactic.hygienic false
namespace Mine
/-- the pairs, in the order of their closing: p the place of the first, V what waits, the last first -/
noncomputable def mach : List Nat → Nat → List Nat → List (Nat × Nat)
  | [], _, _ => []
  | k :: r, p, V => if opens k = true then mach r (p + 1) (p :: V) else if k = 5 then ((V.take 1).map fun b => (b, p)) ++ mach r (p + 1) V.tail else if k = 16 then mach r (p + 1) [] else mach r (p + 1) V
theorem mach_cons (k : Nat) (r : List Nat) (p : Nat) (V : List Nat) : mach (k :: r) p V = if opens k = true then mach r (p + 1) (p :: V) else if k = 5 then ((V.take 1).map fun b => (b, p)) ++ mach r (p + 1) V.tail else if k = 16 then mach r (p + 1) [] else mach r (p + 1) V := rfl
noncomputable def dictGo (es : List (Int × AV)) : List (Nat × Nat) → List (Int × AV)
  | [] => es
  | (b, a) :: r => dictGo (putI (putI es b (.int a)) a (.int b)) r
theorem putI_len (es : List (Int × AV)) (k : Int) (v : AV) : (putI es k v).length ≤ es.length + 1 := by
  unfold putI; split <;> simp
theorem enum_get {ks : List Nat} {j : Nat} {it : List AV} (h : ((svs ks).zipIdx.map fun p => [AV.int p.2, p.1])[j]? = some it) : ∃ k, ks[j]? = some k ∧ it = [.int j, .str k] := by
  simp only [svs, List.getElem?_map, List.getElem?_zipIdx, Option.map_eq_some_iff] at h
  obtain ⟨⟨x, n⟩, ⟨y, ⟨k, h1, rfl⟩, h2⟩, rfl⟩ := h
  cases h2
  exact ⟨k, h1, by simp⟩
section
variable {sc : List Int} {d : Nat}
inductive IsoI (H : Hp) (a : Nat) (ks : List Nat) (j : Nat) (ls : List AV) (H' : Hp) : Prop
  | mk (x3 x4 x5 : AV) (f wt : Nat) (V : List Nat) (D : List (Int × AV)) (c0 : ls = [.ref a, .ref f, .ref wt, x3, x4, x5]) (c1 : H.length ≤ f) (c2 : H.length ≤ wt) (c3 : Keep [] H H') (c4 : H'[f]? = some (.dictI D)) (c5 : H'[wt]? = some (.list (nvs V.reverse))) (c6 : D.length ≤ 2 * j) (c7 : V.length ≤ j) (c8 : dictGo D (mach (ks.drop j) j V) = dictGo [] (mach ks 0 [])) : IsoI H a ks j ls H'
theorem r_isolate_pairs {H : Hp} {a : Nat} {ks : List Nat} {Q : AV → Hp → Prop} (ha : H[a]? = some (.list (svs ks))) (hl : ks.length ≤ 1000)
    (q : ∀ r H', H.length ≤ r → Keep [] H H' → H'[r]? = some (.dictI (dictGo [] (mach ks 0 []))) → Q (.ref r) H') : T (run (thePI sc) 200 (d + 1) 24 [.ref a] H) Q := by
  refine T_fn (ls := [.ref a, .unb, .unb, .unb, .unb, .unb]) rfl rfl ?_
  dsimp only [b_isolate_pairs]
  walk_at "ms"
  refine X_fr (IsoI H a ks) ?_
  walk_at "ms"
  refine w_enum (by walk_at "h") ?_
  refine ⟨?_, ?_, ?_, ?_⟩
  · refine ⟨_, _, _, _, _, [], [], rfl, ?_, ?_, Keep.app.tr Keep.app, at_app at_new, at_new, ?_, ?_, rfl⟩ <;> simp
  · rintro j ls H' hj ⟨x3, x4, x5, f, wt, V, D, rfl, hf, hw, hk, h1, h2, h3, h4, h5⟩
    exact kept_at (hk.get _ _ (by simp) ha)
  · rintro j it ls H' hj ⟨x3, x4, x5, f, wt, V, D, rfl, hf, hw, hk, h1, h2, h3, h4, h5⟩
    obtain ⟨k, hkj, rfl⟩ := enum_get hj
    refine ⟨rfl, ?_⟩
    have hjl := (List.getElem?_eq_some_iff.mp hkj).1
    rw [List.drop_eq_getElem_cons hjl, show ks[j] = k from (List.getElem?_eq_some_iff.mp hkj).2, mach_cons] at h5
    have hne : f ≠ wt := by rintro rfl; rw [h1] at h2; cases h2
    simp only [setAll, List.set_cons_succ, List.set_cons_zero]
    walk_at "ms"
    refine ⟨fun ho => ?_, fun ho => ?_⟩
    · rw [if_pos ho] at h5
      walk_at "ms"
      refine ⟨_, _, _, f, wt, j :: V, D, rfl, hf, hw, hk.put (.inr hw), at_ne (Ne.symm hne) h1, ?_, by lia, by simp; lia, h5⟩
      refine (at_set h2).trans ?_
      simp [nvs]
    · rw [if_neg (by simp [ho])] at h5
      walk_at "ms"
      refine T_and ?_
      walk_at "ms"
      refine ⟨fun h => ?_, fun h => ?_⟩
      · have h : k = 5 := of_decide_eq_true h
        rw [if_pos h] at h5
        walk_at "ms"
        refine ⟨fun hv => ?_, fun hv => ?_⟩
        · cases V with
          | nil => simp [nvs] at hv
          | cons b V =>
            have e1 : nvs (b :: V).reverse = nvs V.reverse ++ [.int b] := by simp [nvs]
            rw [e1] at h2
            rw [List.length_cons] at h4
            walk_at "ms"
            refine m_pop (at_app h2) ?_ (List.getLast?_concat) ?_
            · walk_at "len"
            have e2 := putI_len D b (.int j)
            walk_at "ms"
            refine ⟨_, _, _, f, wt, V, _, rfl, hf, hw, ?_, by walk_at "h", ?_, ?_, by lia, by simpa [dictGo] using h5⟩
            · exact ((hk.more.put (.inr hw)).put (.inr hf)).put (.inr hf)
            · rw [List.dropLast_concat]; walk_at "h"
            · have := putI_len (putI D b (.int j)) j (.int b)
              lia
        · cases V with
          | cons b V => simp [nvs] at hv
          | nil =>
            walk_at "ms"
            refine Br.of_f (by rw [h]; rfl) ?_
            walk_at "ms"
            exact ⟨_, _, _, f, wt, [], D, rfl, hf, hw, hk.more, at_app h1, at_app h2, by lia, by simp, h5⟩
      · have h : ¬ k = 5 := of_decide_eq_false h
        rw [if_neg h] at h5
        walk_at "ms"
        refine ⟨fun h => ?_, fun h => ?_⟩
        · have h : k = 16 := of_decide_eq_true h
          rw [if_pos h] at h5
          walk_at "ms"
          exact ⟨_, _, _, f, _, [], D, rfl, hf, hk.len, hk.more, at_app h1, at_new, by lia, by simp, h5⟩
        · have h : ¬ k = 16 := of_decide_eq_false h
          rw [if_neg h] at h5
          walk_at "ms"
          exact ⟨_, _, _, f, wt, V, D, rfl, hf, hw, hk, h1, h2, by lia, by lia, h5⟩
  · rintro ls H' ⟨x3, x4, x5, f, wt, V, D, rfl, hf, hw, hk, h1, h2, h3, h4, h5⟩
    simp [svs_len] at h5
    walk_at "ms"
    exact q _ _ hf hk (by rw [h1, ← h5]; rfl)
end
end Mine
end
-- V5
section
set_option tactic.hygienic false
namespace Mine
/-- how far off the end of what has been opened lies, d deep -/
noncomputable def scan : List Nat → Nat → Option Nat
  | [], _ => none
  | k :: r, d => if opens k = true then (scan r (d + 1)).map (· + 1) else if k = 5 then (if d = 1 then some 0 else (scan r (d - 1)).map (· + 1)) else if k = 16 then none else (scan r d).map (· + 1)
/-- the first strong class, as the law has it -/
noncomputable def fs (b : Bool) : List Nat → Nat → Option Nat
  | [], _ => none
  | k :: r, d => if k = 16 ∨ (k = 5 ∧ d = 0 ∧ b = true) then none else if opens k = true then fs b r (d + 1) else if k = 5 then fs b r (d - 1) else if d = 0 ∧ strong k = true then some k else fs b r d
noncomputable def oS : Option Nat → AV
  | none => .none
  | some k => .str k
theorem scan_cons (k : Nat) (r : List Nat) (d : Nat) : scan (k :: r) d = if opens k = true then (scan r (d + 1)).map (· + 1) else if k = 5 then (if d = 1 then some 0 else (scan r (d - 1)).map (· + 1)) else if k = 16 then none else (scan r d).map (· + 1) := rfl
theorem fs_cons (b : Bool) (k : Nat) (r : List Nat) (d : Nat) : fs b (k :: r) d = if k = 16 ∨ (k = 5 ∧ d = 0 ∧ b = true) then none else if opens k = true then fs b r (d + 1) else if k = 5 then fs b r (d - 1) else if d = 0 ∧ strong k = true then some k else fs b r d := rfl
theorem opens5 : opens 5 = false := rfl
theorem opens16 : opens 16 = false := rfl
theorem strong_ne {k : Nat} (h : strong k = true) : k ≠ 5 ∧ k ≠ 16 ∧ opens k = false := by
  simp only [strong, Bool.or_eq_true, decide_eq_true_eq] at h
  rcases h with (rfl | rfl) | rfl <;> decide
theorem opens_ne {k : Nat} (h : opens k = true) : k ≠ 5 ∧ k ≠ 16 ∧ strong k = false := by
  simp only [opens, Bool.or_eq_true, decide_eq_true_eq] at h
  rcases h with (rfl | rfl) | rfl <;> decide
theorem scan_lt : ∀ {r : List Nat} {d o : Nat}, scan r d = some o → o < r.length
  | [], _, _, h => by cases h
  | k :: r, d, o, h => by
    rw [scan_cons] at h
    have key : ∀ {d' : Nat}, (scan r d').map (· + 1) = some o → o < (k :: r).length := fun h => by
      obtain ⟨o', h1, rfl⟩ := Option.map_eq_some_iff.mp h
      have := scan_lt h1
      simp; lia
    split at h
    · exact key h
    · split at h
      · split at h
        · cases h; simp
        · exact key h
      · split at h
        · cases h
        · exact key h
section
variable {k p d : Nat} {r : List Nat}
theorem scan_open (h : opens k = true) : scan (k :: r) d = (scan r (d + 1)).map (· + 1) := (scan_cons k r d).trans (if_pos h)
theorem scan_shut1 : scan (5 :: r) 1 = some 0 := (scan_cons 5 r 1).trans ((if_neg (by decide)).trans ((if_pos rfl).trans (if_pos rfl)))
theorem scan_shut : scan (5 :: r) (d + 1 + 1) = (scan r (d + 1)).map (· + 1) := (scan_cons 5 r (d + 1 + 1)).trans ((if_neg (by decide)).trans ((if_pos rfl).trans (if_neg (Nat.succ_ne_zero d ∘ Nat.succ.inj))))
theorem scan_stop : scan (16 :: r) d = none := (scan_cons 16 r d).trans ((if_neg (by decide)).trans ((if_neg (by decide)).trans (if_pos rfl)))
theorem scan_on (h : ¬ opens k = true) (h5 : k ≠ 5) (h16 : k ≠ 16) : scan (k :: r) d = (scan r d).map (· + 1) := (scan_cons k r d).trans ((if_neg h).trans ((if_neg h5).trans (if_neg h16)))
theorem kd (k : Nat) : opens k = true ∨ k = 5 ∨ k = 16 ∨ (¬ opens k = true ∧ k ≠ 5 ∧ k ≠ 16) := by
  by_cases h : opens k = true
  · exact .inl h
  · by_cases h5 : k = 5
    · exact .inr (.inl h5)
    · by_cases h16 : k = 16
      · exact .inr (.inr (.inl h16))
      · exact .inr (.inr (.inr ⟨h, h5, h16⟩))
theorem fs_in {b : Bool} (h5 : k ≠ 16) (h : k = 5 → d ≠ 0) : ¬ (k = 16 ∨ (k = 5 ∧ d = 0 ∧ b = true)) := fun q => q.elim h5 fun q => h q.1 q.2.1
theorem fs_open {b : Bool} (h : opens k = true) : fs b (k :: r) d = fs b r (d + 1) := (fs_cons b k r d).trans ((if_neg (fs_in (opens_ne h).2.1 fun e => absurd e (opens_ne h).1)).trans (if_pos h))
theorem fs_shut {b : Bool} : fs b (5 :: r) (d + 1) = fs b r d := (fs_cons b 5 r (d + 1)).trans ((if_neg (fs_in (by decide) fun _ => Nat.succ_ne_zero d)).trans ((if_neg (by decide)).trans (if_pos rfl)))
theorem fs_stop {b : Bool} : fs b (16 :: r) d = none := (fs_cons b 16 r d).trans (if_pos (.inl rfl))
theorem fs_on {b : Bool} (h : ¬ opens k = true) (h5 : k ≠ 5) (h16 : k ≠ 16) : fs b (k :: r) (d + 1) = fs b r (d + 1) := (fs_cons b k r (d + 1)).trans ((if_neg (fs_in h16 fun e => absurd e h5)).trans ((if_neg h).trans ((if_neg h5).trans (if_neg fun q => Nat.succ_ne_zero d q.1))))
end
/-- where the end is met, the law is at depth nought behind it; where not, it finds nothing -/
theorem fs_scan (b : Bool) (r : List Nat) : ∀ (d : Nat), fs b r (d + 1) = match scan r (d + 1) with
    | some o => fs b (r.drop (o + 1)) 0
    | none => none := by
  induction r with
  | nil => exact fun d => rfl
  | cons k r ih =>
    intro d
    rcases kd k with h | rfl | rfl | ⟨h, h5, h16⟩
    · rw [fs_open h, scan_open h, ih (d + 1)]
      cases scan r (d + 1 + 1) <;> rfl
    · rw [fs_shut]
      cases d with
      | zero => rw [scan_shut1]; rfl
      | succ e =>
        rw [scan_shut, ih e]
        cases scan r (e + 1) <;> rfl
    · rw [fs_stop, scan_stop]
    · rw [fs_on h h5 h16, scan_on h h5 h16, ih d]
      cases scan r (d + 1) <;> rfl
theorem scan_more (r : List Nat) : ∀ (d e o : Nat), scan r (d + 1) = some o → scan r (d + 1 + (e + 1)) = (scan (r.drop (o + 1)) (e + 1)).map (· + (o + 1)) := by
  induction r with
  | nil => exact fun d e o h => by cases h
  | cons k r ih =>
    intro d e o h
    have up : ∀ o', (scan (r.drop (o' + 1)) (e + 1)).map (· + (o' + 1 + 1)) = ((scan (r.drop (o' + 1)) (e + 1)).map (· + (o' + 1))).map (· + 1) := fun o' => by rw [Option.map_map]; rfl
    rcases kd k with h1 | rfl | rfl | ⟨h1, h5, h16⟩
    · rw [scan_open h1] at h ⊢
      obtain ⟨o', h2, rfl⟩ := Option.map_eq_some_iff.mp h
      rw [Nat.add_right_comm (d + 1) (e + 1) 1, ih (d + 1) e o' h2]
      exact (up o').symm
    · cases d with
      | zero =>
        cases scan_shut1.symm.trans h
        rw [Nat.add_comm (0 + 1) (e + 1)]
        exact scan_shut
      | succ f =>
        rw [scan_shut] at h
        obtain ⟨o', h4, rfl⟩ := Option.map_eq_some_iff.mp h
        rw [Nat.add_right_comm (f + 1) 1 (e + 1)]
        exact ((scan_shut (d := f + 1 + e)).trans (congrArg (Option.map (· + 1)) (ih f e o' h4))).trans (up o').symm
    · cases scan_stop.symm.trans h
    · rw [scan_on h1 h5 h16] at h ⊢
      obtain ⟨o', h4, rfl⟩ := Option.map_eq_some_iff.mp h
      rw [ih d e o' h4]
      exact (up o').symm
/-- what the dict of pairs must say -/
def PairsOk (ks : List Nat) (D : List (Int × AV)) : Prop := ∀ i k : Nat, ks[i]? = some k → opens k = true → valI D i = (scan (ks.drop (i + 1)) 1).map fun o => .int ((i + 1 + o : Nat) : Int)
/-- where the search ends -/
def EndOk (b : Bool) (ks : List Nat) (p e : Nat) : Prop := if b = true then (match scan (ks.drop p) 1 with | some o => e = p + o | none => e = ks.length) else e = ks.length
theorem endOk_jump {b : Bool} {ks : List Nat} {p e o : Nat} (hp : p < ks.length) (h3 : opens ks[p] = true) (h : scan (ks.drop (p + 1)) 1 = some o) (hE : EndOk b ks p e) : p + o + 2 ≤ e ∧ EndOk b ks (p + o + 2) e := by
  have h7 := scan_lt h
  rw [List.length_drop] at h7
  unfold EndOk at hE ⊢
  cases b with
  | false => simp only [Bool.false_eq_true, if_false] at hE ⊢; exact ⟨by lia, hE⟩
  | true =>
    simp only [if_true] at hE ⊢
    rw [List.drop_eq_getElem_cons hp, scan_cons, if_pos h3, show 1 + 1 = 0 + 1 + (0 + 1) by rfl, scan_more _ 0 0 o h, List.drop_drop, show p + 1 + (o + 1) = p + o + 2 by lia] at hE
    cases h8 : scan (ks.drop (p + o + 2)) (0 + 1) with
    | none =>
      rw [h8] at hE
      exact ⟨by simp at hE; lia, hE⟩
    | some o2 =>
      rw [h8] at hE
      simp only [Option.map_some] at hE ⊢
      exact ⟨by lia, by lia⟩
theorem endOk_next {b : Bool} {ks : List Nat} {p e : Nat} (hp : p < ks.length) (h3 : opens ks[p] = false) (h4 : ks[p] ≠ 16) (hpe : p < e) (hE : EndOk b ks p e) : (ks[p] = 5 → b = false) ∧ EndOk b ks (p + 1) e := by
  unfold EndOk at hE ⊢
  cases b with
  | false => simp only [Bool.false_eq_true, if_false] at hE ⊢; exact ⟨fun _ => trivial, hE⟩
  | true =>
    simp only [if_true] at hE ⊢
    rw [List.drop_eq_getElem_cons hp, scan_cons, if_neg (by simp [h3])] at hE
    by_cases h5 : ks[p] = 5
    · rw [if_pos h5] at hE; simp at hE; lia
    · rw [if_neg h5, if_neg h4] at hE
      refine ⟨fun q => absurd q h5, ?_⟩
      cases h8 : scan (ks.drop (p + 1)) 1 with
      | none => rw [h8] at hE; exact hE
      | some o => rw [h8] at hE; simp only [Option.map_some] at hE ⊢; lia
theorem endOk_end {b : Bool} {ks : List Nat} {e : Nat} (hE : EndOk b ks e e) : fs b (ks.drop e) 0 = none := by
  unfold EndOk at hE
  cases b with
  | false => simp only [Bool.false_eq_true, if_false] at hE; rw [hE]; simp [fs]
  | true =>
    simp only [if_true] at hE
    cases h8 : scan (ks.drop e) 1 with
    | none => rw [h8] at hE; simp only at hE; rw [hE]; simp [fs]
    | some o =>
      rw [h8] at hE
      obtain rfl : o = 0 := by simp only at hE; lia
      have hp := scan_lt h8
      rw [List.length_drop] at hp
      have hp : e < ks.length := by lia
      rw [List.drop_eq_getElem_cons hp, scan_cons] at h8
      rw [List.drop_eq_getElem_cons hp, fs_cons]
      by_cases h1 : opens ks[e] = true
      · rw [if_pos h1] at h8
        obtain ⟨_, _, h⟩ := Option.map_eq_some_iff.mp h8
        lia
      · rw [if_neg h1] at h8
        by_cases h2 : ks[e] = 5
        · rw [if_pos (.inr ⟨h2, rfl, rfl⟩)]
        · rw [if_neg h2] at h8
          split at h8
          · cases h8
          · obtain ⟨_, _, h⟩ := Option.map_eq_some_iff.mp h8
            lia
section
variable {sc : List Int} {d : Nat}
inductive FsI (b : Bool) (ks : List Nat) (a bg e pr : Nat) (H : Hp) (n : Nat) (ls : List AV) (H' : Hp) : Prop
  | mk (p : Nat) (x : AV) (c0 : ls = [.ref a, .int bg, .int e, .ref pr, .int (p : Nat), x]) (c1 : H' = H) (c2 : p ≤ e) (c3 : n = e - p) (c4 : EndOk b ks p e) (c5 : fs b (ks.drop p) 0 = fs b (ks.drop bg) 0) : FsI b ks a bg e pr H n ls H'
theorem r_first_strong {H : Hp} {a bg e pr : Nat} {b : Bool} {ks : List Nat} {D : List (Int × AV)} {Q : AV → Hp → Prop} (ha : H[a]? = some (.list (svs ks))) (hp : H[pr]? = some (.dictI D)) (hl : ks.length ≤ 150) (hD : PairsOk ks D)
    (hbe : bg ≤ e) (he : EndOk b ks bg e) (q : Q (oS (fs b (ks.drop bg) 0)) H) : T (run (thePI sc) 200 (d + 1) 26 [.ref a, .int bg, .int e, .ref pr] H) Q := by
  refine T_fn (ls := [.ref a, .int bg, .int e, .ref pr, .unb, .unb]) rfl rfl ?_
  dsimp only [b_bidi_first_strong]
  walk_at "ms"
  have hel : e ≤ ks.length := by
    unfold EndOk at he
    split at he
    · split at he
      · rename_i o ho
        have := scan_lt ho
        rw [List.length_drop] at this
        lia
      · lia
    · lia
  refine X_wh (FsI b ks a bg e pr H) (e - bg) (by lia) ⟨bg, _, rfl, rfl, hbe, rfl, he, rfl⟩ ?_
  rintro n ls H' ⟨p, x, rfl, rfl, hpe, rfl, hE, hfs⟩
  walk_at "ms"
  refine ⟨fun ht => ?_, fun ht => ?_⟩
  · have ht : p < e := by simpa using ht
    have hpl : p < ks.length := by lia
    have hk : (svs ks)[p]? = some (.str ks[p]) := by simp [svs, hpl]
    rw [List.drop_eq_getElem_cons hpl, fs_cons] at hfs
    have hj := fun o => endOk_jump (b := b) (e := e) (o := o) hpl
    have hn := endOk_next (b := b) (e := e) hpl
    have hD' := hD p ks[p] (List.getElem?_eq_getElem hpl)
    generalize ks[p] = k at hk hfs hj hn hD'
    walk_at "ms"
    refine i_listN ha (by walk_at "len") hk ?_
    walk_at "ms"
    refine ⟨fun h1 => ?_, fun h1 => ?_⟩
    · obtain ⟨h2, h3, h4⟩ := strong_ne h1
      rw [if_neg (by simp [h2, h3]), if_neg (by simp [h4]), if_neg h2, if_pos ⟨rfl, h1⟩] at hfs
      walk_at "ms"
      rw [← hfs] at q
      exact q
    · walk_at "ms"
      refine ⟨fun h2 => ?_, fun h2 => ?_⟩
      · have h2 : k = 16 := of_decide_eq_true h2
        rw [if_pos (.inl h2)] at hfs
        walk_at "ms"
        rw [← hfs] at q
        exact q
      · have h2 : ¬ k = 16 := of_decide_eq_false h2
        walk_at "ms"
        refine ⟨fun h3 => ?_, fun h3 => ?_⟩
        · obtain ⟨h4, _, _⟩ := opens_ne h3
          rw [if_neg (by simp [h2, h4]), if_pos h3, fs_scan] at hfs
          have hd := hD' h3
          walk_at "ms"
          refine ⟨fun h5 => ?_, fun h5 => ?_⟩
          · have h6 : scan (ks.drop (p + 1)) 1 = none := by
              rw [hd] at h5
              simpa using h5
            rw [h6] at hfs
            walk_at "ms"
            rw [← hfs] at q
            exact q
          · rw [hd] at h5
            cases h6 : scan (ks.drop (p + 1)) 1 with
            | none => rw [h6] at h5; simp at h5
            | some o =>
              rw [h6] at hfs hd
              have h7 := scan_lt h6
              rw [List.length_drop] at h7
              walk_at "ms"
              refine i_dictI hp hd ?_
              walk_at "ms"
              obtain ⟨h8, h9⟩ := hj o h3 h6 hE
              refine ⟨e - (p + o + 2), by lia, p + o + 2, .str k, ?_, rfl, h8, rfl, h9, ?_⟩
              · simp only [List.set_cons_succ, List.set_cons_zero]
                congr 6
                lia
              · rw [← hfs]
                show _ = fs b (List.drop (o + 1) (List.drop (p + 1) ks)) 0
                rw [List.drop_drop, show p + 1 + (o + 1) = p + o + 2 by lia]
        · obtain ⟨h8, h9⟩ := hn h3 h2 ht hE
          walk_at "ms"
          refine ⟨e - (p + 1), by lia, p + 1, .str k, rfl, rfl, by lia, rfl, h9, ?_⟩
          rw [← hfs, if_neg (by intro q; rcases q with q | ⟨q1, _, q2⟩; exact h2 q; rw [h8 q1] at q2; cases q2), if_neg (by simp [h3])]
          split
          · rfl
          · rw [if_neg (by simp [h1])]
  · have ht : e ≤ p := by simpa using ht
    obtain rfl : p = e := by lia
    walk_at "ms"
    rw [← hfs, endOk_end hE] at q
    exact q
end
end Mine
end
-- V6
section
set_option tactic.hygienic false
namespace Mine
theorem seq_get {ks : List Nat} {j : Nat} {it : List AV} (h : ((svs ks).map fun x => [x])[j]? = some it) : ∃ k, ks[j]? = some k ∧ it = [.str k] := by
  simp only [svs, List.getElem?_map, Option.map_map, Option.map_eq_some_iff] at h
  obtain ⟨k, h1, rfl⟩ := h
  exact ⟨k, h1, rfl⟩
section
variable {sc : List Int} {d : Nat}
theorem r_opens {H : Hp} {Q : AV → Hp → Prop} (q : Q (.ref H.length) (H ++ [.list [.str 7, .str 0, .str 8]])) : T (run (thePI sc) 200 (d + 1) 134 [] H) Q := by
  refine T_fn (ls := []) rfl rfl ?_
  dsimp only [b__law_opens]
  walk_at "ms"
  exact q
inductive LfI (b : Bool) (ks : List Nat) (a bg : Nat) (H : Hp) (j : Nat) (ls : List AV) (H' : Hp) : Prop
  | mk (dp : Nat) (x : AV) (c0 : ls = [.ref a, .int bg, .bool b, .int dp, x]) (c1 : Keep [] H H') (c2 : H'[H.length]? = some (.list (svs (ks.drop bg)))) (c3 : fs b ((ks.drop bg).drop j) dp = fs b (ks.drop bg) 0) : LfI b ks a bg H j ls H'
theorem r_law_first {H : Hp} {a bg : Nat} {b : Bool} {ks : List Nat} {Q : AV → Hp → Prop} (ha : H[a]? = some (.list (svs ks))) (hl : ks.length ≤ 1000)
    (q : ∀ H', Keep [] H H' → Q (oS (fs b (ks.drop bg) 0)) H') : T (run (thePI sc) 200 (d + 2) 139 [.ref a, .int bg, .bool b] H) Q := by
  refine T_fn (ls := [.ref a, .int bg, .bool b, .unb, .unb]) rfl rfl ?_
  dsimp only [b__law_first]
  walk_at "ms"
  refine X_fr (LfI b ks a bg H) ?_
  walk_at "ms"
  refine s_from ha ⟨by lia, by walk_at "len"⟩ ?_
  have e0 : List.drop (bg : Int).toNat (svs ks) = svs (ks.drop bg) := by simp [svs, List.map_drop]
  rw [e0]
  walk_at "ms"
  refine w_seqL at_new ?_
  refine ⟨?_, ?_, ?_, ?_⟩
  · exact ⟨0, _, rfl, Keep.app, at_new, rfl⟩
  · rintro j ls H' hj ⟨dp, x, rfl, hk, h1, h2⟩
    exact kept_at h1
  · rintro j it ls H' hj ⟨dp, x, rfl, hk, h1, h2⟩
    obtain ⟨k, hkj, rfl⟩ := seq_get hj
    refine ⟨rfl, ?_⟩
    have hjl := (List.getElem?_eq_some_iff.mp hkj).1
    rw [List.drop_eq_getElem_cons hjl, (List.getElem?_eq_some_iff.mp hkj).2, fs_cons] at h2
    simp only [setAll, List.set_cons_succ, List.set_cons_zero]
    walk_at "mp"
    refine ⟨fun h => ?_, fun h => ?_⟩
    · simp only [Bool.or_eq_true, Bool.and_eq_true, decide_eq_true_eq] at h
      rw [if_pos (h.imp id fun q => ⟨q.1, by have := q.2.1; lia, q.2.2⟩)] at h2
      walk_at "ms"
      have := q H' hk
      rw [← h2] at this
      exact this
    · simp only [Bool.or_eq_false_iff, Bool.and_eq_false_iff, decide_eq_false_iff_not] at h
      rw [if_neg (by
        rintro (q1 | ⟨q1, q2, q3⟩)
        · exact h.1 q1
        · rcases h.2 with z | z | z
          · exact z q1
          · exact z (by lia)
          · rw [q3] at z; cases z)] at h2
      walk_at "ms"
      refine r_opens ?_
      have h1' := at_app (Z := [AO.list [.str 7, .str 0, .str 8]]) h1
      walk_at "ms"
      refine ⟨fun h3 => ?_, fun h3 => ?_⟩
      · rw [if_pos h3] at h2
        walk_at "ms"
        exact ⟨dp + 1, _, rfl, hk.more, h1', by simpa using h2⟩
      · rw [if_neg (by simp [h3])] at h2
        walk_at "ms"
        refine ⟨fun h4 => ?_, fun h4 => ?_⟩
        · rw [if_pos (of_decide_eq_true h4)] at h2
          walk_at "ms"
          refine ⟨dp - 1, .str k, ?_, hk.more, h1', by simpa using h2⟩
          simp only [List.set_cons_succ, List.set_cons_zero]
          congr 5
          lia
        · rw [if_neg (of_decide_eq_false h4)] at h2
          walk_at "ms"
          refine T_and ?_
          walk_at "ms"
          refine ⟨fun h5 => ?_, fun h5 => ?_⟩
          · have h5 : dp = 0 := by simpa using h5
            walk_at "ms"
            refine ⟨fun h6 => ?_, fun h6 => ?_⟩
            · rw [if_pos ⟨h5, h6⟩] at h2
              walk_at "ms"
              rw [← h2] at q
              exact q _ hk.more.more
            · rw [if_neg (by simp [h6])] at h2
              walk_at "ms"
              exact ⟨dp, _, rfl, hk.more.more, at_app h1', by simpa using h2⟩
          · have h5 : ¬ dp = 0 := by simpa using h5
            rw [if_neg (by simp [h5])] at h2
            walk_at "ms"
            exact ⟨dp, _, rfl, hk.more, h1', by simpa using h2⟩
  · rintro ls H' ⟨dp, x, rfl, hk, h1, h2⟩
    rw [List.drop_of_length_le (by simp [svs])] at h2
    walk_at "ms"
    have := q H' hk
    rw [← h2] at this
    exact this
end
end Mine
end
-- V7
section
set_option tactic.hygienic false
namespace Mine
/-- as scan, with no regard to separators -/
noncomputable def scanN : List Nat → Nat → Option Nat
  | [], _ => none
  | k :: r, d => if opens k = true then (scanN r (d + 1)).map (· + 1) else if k = 5 then (if d = 1 then some 0 else (scanN r (d - 1)).map (· + 1)) else (scanN r d).map (· + 1)
theorem scanN_cons (k : Nat) (r : List Nat) (d : Nat) : scanN (k :: r) d = if opens k = true then (scanN r (d + 1)).map (· + 1) else if k = 5 then (if d = 1 then some 0 else (scanN r (d - 1)).map (· + 1)) else (scanN r d).map (· + 1) := rfl
noncomputable def lps1 (k : Nat) (r : List Nat) (p : Nat) : List (Nat × Nat) := if opens k = true then (match scanN r 1 with
  | some o => [(p, p + 1 + o)]
  | none => []) else []
/-- the pairs as the law has them -/
noncomputable def lps : List Nat → Nat → List (Nat × Nat)
  | [], _ => []
  | k :: r, p => lps1 k r p ++ lps r (p + 1)
theorem dictGo_append : ∀ (es : List (Int × AV)) (l m : List (Nat × Nat)), dictGo es (l ++ m) = dictGo (dictGo es l) m
  | _, [], _ => rfl
  | es, (b, a) :: l, m => by simp only [List.cons_append, dictGo]; exact dictGo_append _ l m
theorem dictGo_len : ∀ (es : List (Int × AV)) (l : List (Nat × Nat)), (dictGo es l).length ≤ es.length + 2 * l.length
  | _, [] => by simp [dictGo]
  | es, (b, a) :: l => by
    have h1 := dictGo_len (putI (putI es b (.int a)) a (.int b)) l
    have h2 := putI_len (putI es b (.int a)) a (.int b)
    have h3 := putI_len es b (.int a)
    simp only [dictGo, List.length_cons]
    lia
theorem lps1_len (k : Nat) (r : List Nat) (p : Nat) : (lps1 k r p).length ≤ 1 := by
  unfold lps1; split
  · split <;> simp
  · simp
theorem rng_get {n m : Nat} {j : Nat} {it : List AV} (h : ((List.range ((m : Int) - (n : Int)).toNat).map fun (j : Nat) => [AV.int ((n : Int) + j)])[j]? = some it) : n + j < m ∧ it = [.int ((n + j : Nat) : Int)] := by
  simp only [List.getElem?_map, Option.map_eq_some_iff] at h
  obtain ⟨i, h1, rfl⟩ := h
  have hl := (List.getElem?_eq_some_iff.mp h1).1
  rw [List.length_range] at hl
  rw [List.getElem?_range hl] at h1
  cases h1
  exact ⟨by lia, by simp⟩
theorem dec_gt {n : Nat} : decide ((n : Int) > 0) = decide (0 < n) := by simp
section
variable {sc : List Int} {d : Nat}
inductive LpI (ks : List Nat) (a : Nat) (H : Hp) (j : Nat) (ls : List AV) (H' : Hp) : Prop
  | mk (f : Nat) (x2 x3 x4 x5 : AV) (D : List (Int × AV)) (c0 : ls = [.ref a, .ref f, x2, x3, x4, x5]) (c1 : H.length ≤ f) (c2 : Keep [] H H') (c3 : H'[f]? = some (.dictI D)) (c4 : D.length ≤ 2 * j) (c5 : dictGo D (lps (ks.drop j) j) = dictGo [] (lps ks 0)) : LpI ks a H j ls H'
inductive LpJ (ks : List Nat) (a f at_ k : Nat) (D : List (Int × AV)) (d0 : Nat) (H : Hp) (j : Nat) (ls : List AV) (H' : Hp) : Prop
  | mk (x5 : AV) (dp : Nat) (D' : List (Int × AV)) (c0 : ls = [.ref a, .ref f, .int at_, .str k, .int dp, x5]) (c1 : H.length ≤ f) (c2 : Keep [] H H') (c3 : H'[f]? = some (.dictI D')) (c4 : D'.length ≤ 2 * at_ + 2) (c5 : ((0 < dp ∧ d0 ≠ 0 ∧ D' = D ∧ scanN (ks.drop (at_ + 1)) d0 = (scanN ((ks.drop (at_ + 1)).drop j) dp).map (· + j)) ∨ (dp = 0 ∧ D' = (if d0 = 0 then D else match scanN (ks.drop (at_ + 1)) d0 with | some o => putI (putI D at_ (.int (at_ + 1 + o : Nat))) (at_ + 1 + o : Nat) (.int at_) | none => D)))) : LpJ ks a f at_ k D d0 H j ls H'
theorem r_law_pairs {H : Hp} {a : Nat} {ks : List Nat} {Q : AV → Hp → Prop} (ha : H[a]? = some (.list (svs ks))) (hl : ks.length ≤ 1000)
    (q : ∀ f H', Keep [] H H' → H.length ≤ f → H'[f]? = some (.dictI (dictGo [] (lps ks 0))) → Q (.ref f) H') : T (run (thePI sc) 200 (d + 2) 143 [.ref a] H) Q := by
  refine T_fn (ls := [.ref a, .unb, .unb, .unb, .unb, .unb]) rfl rfl ?_
  dsimp only [b__law_pairs]
  walk_at "ms"
  refine X_fr (LpI ks a H) ?_
  walk_at "ms"
  refine w_enum (at_app ha) ?_
  refine ⟨?_, ?_, ?_, ?_⟩
  · exact ⟨_, _, _, _, _, [], rfl, Nat.le_refl _, Keep.app, at_new, by simp, rfl⟩
  · rintro j ls H' hj ⟨f, x2, x3, x4, x5, D, rfl, hf, hk, h1, h2, h3⟩
    exact kept_at (hk.get _ _ (by simp) ha)
  · rintro j it ls H' hj ⟨f, x2, x3, x4, x5, D, rfl, hf, hk, h1, h2, h3⟩
    obtain ⟨k, hkj, rfl⟩ := enum_get hj
    refine ⟨rfl, ?_⟩
    have hjl := (List.getElem?_eq_some_iff.mp hkj).1
    rw [List.drop_eq_getElem_cons hjl, (List.getElem?_eq_some_iff.mp hkj).2, lps, dictGo_append] at h3
    have ha' := hk.get _ _ (by simp) ha
    simp only [setAll, List.set_cons_succ, List.set_cons_zero]
    walk_at "ms"
    refine r_opens ?_
    walk_at "ms"
    have key : ∀ d0 : Nat, d0 = (if opens k = true then 1 else 0) → ex (thePI sc) (run (thePI sc) 200 (d + 1)) 200 (.fr [5] .rng [(.bin .add (.loc 2) (.lit (.int 1))), (.prim .len [(.loc 0)])] [(.iff (.cmp .gt (.loc 4) (.lit (.int 0))) [(.asg 4 (.bin .sub (.bin .add (.loc 4) (.prim .int [(.cmp .inn (.idx (.loc 0) (.loc 5)) (.call 134 []))])) (.prim .int [(.cmp .eq (.idx (.loc 0) (.loc 5)) (.lit (.str 5)))]))),
  (.iff (.cmp .eq (.loc 4) (.lit (.int 0))) [(.setI2 (.loc 1) (.loc 2) (.loc 1) (.loc 5) (.tup [(.loc 5), (.loc 2)]))] [])] [])])
      [.ref a, .ref f, .int j, .str k, .int d0, x5] (H' ++ [AO.list [.str 7, .str 0, .str 8]]) (LpI ks a H (j + 1)) (Rv Q) := by
      intro d0 hd0
      refine X_fr (LpJ ks a f j k D d0 H) ?_
      walk_at "ms"
      refine w_rng2 (by simp [small]; rw [svs_len]; lia) ?_
      refine ⟨?_, ?_, ?_, ?_⟩
      · refine ⟨_, d0, D, rfl, hf, hk.more, at_app h1, by lia, ?_⟩
        by_cases h0 : d0 = 0
        · exact .inr ⟨h0, by rw [if_pos h0]⟩
        · exact .inl ⟨by lia, h0, rfl, by simp⟩
      · intro j ls H _ _; trivial
      · rintro i it ls H1 hi ⟨x5, dp, D', rfl, hf, hk1, g1, g2, h4⟩
        rw [svs_len, show (j : Int) + 1 = ((j + 1 : Nat) : Int) by simp] at hi
        obtain ⟨hi1, rfl⟩ := rng_get hi
        refine ⟨rfl, ?_⟩
        have ha' := hk1.get _ _ (by simp) ha
        have hlt : j + 1 + i < ks.length := hi1
        have hkk : (svs ks)[j + 1 + i]? = some (.str ks[j + 1 + i]) := by simp [svs, hlt]
        have hdd : (ks.drop (j + 1)).drop i = ks[j + 1 + i] :: (ks.drop (j + 1)).drop (i + 1) := by
          rw [List.drop_drop, List.drop_eq_getElem_cons hlt, List.drop_drop]; rfl
        rw [hdd, scanN_cons] at h4
        generalize ks[j + 1 + i] = kk at *
        simp only [setAll, List.set_cons_succ, List.set_cons_zero]
        walk_at "ms"
        rw [dec_gt]
        refine ⟨fun h5 => ?_, fun h5 => ?_⟩
        · have h5 : 0 < dp := by simpa using h5
          walk_at "ms"
          refine i_listN ha' (by walk_at "len") hkk ?_
          walk_at "ms"
          refine r_opens ?_
          walk_at "ms"
          refine i_listN (at_app ha') (by walk_at "len") hkk ?_
          walk_at "ms"
          obtain ⟨-, hd0', rfl, h6⟩ := h4.resolve_right (by lia)
          have hdp : (((dp : Int) + if opens kk = true then 1 else 0) - if decide (kk = 5) = true then 1 else 0) = ((if opens kk = true then dp + 1 else if kk = 5 then dp - 1 else dp : Nat) : Int) := by
            by_cases ho : opens kk = true
            · obtain ⟨h7, _, _⟩ := opens_ne ho
              simp [ho, h7]
            · by_cases h7 : kk = 5
              · simp [ho, h7, opens5]; lia
              · simp [ho, h7]
          rw [hdp]
          by_cases ho : opens kk = true
          · rw [if_pos ho] at h6 ⊢
            refine Br.of_f (by simp; lia) ?_
            walk_at "ms"
            refine ⟨_, dp + 1, _, rfl, hf, hk1.more, at_app g1, g2, .inl ⟨by lia, hd0', rfl, ?_⟩⟩
            rw [h6, Option.map_map]; congr 1; funext x; simp; lia
          · rw [if_neg ho] at h6 ⊢
            by_cases h7 : kk = 5
            · rw [if_pos h7] at h6 ⊢
              by_cases h8 : dp = 1
              · rw [if_pos h8] at h6
                subst h8
                refine Br.of_t (by simp) ?_
                have hq := putI_len D' (j : Int) (.int ((j + 1 + i : Nat) : Int))
                have hq2 := putI_len (putI D' (j : Int) (.int ((j + 1 + i : Nat) : Int))) ((j + 1 + i : Nat) : Int) (.int (j : Int))
                walk_at "ms"
                refine ⟨_, 0, _, rfl, hf, (hk1.more.more.put (.inr hf)).put (.inr hf), by walk_at "h", by lia, .inr ⟨rfl, ?_⟩⟩
                rw [if_neg hd0', h6]
                simp
              · rw [if_neg h8] at h6
                refine Br.of_f (by simp; lia) ?_
                walk_at "ms"
                refine ⟨_, dp - 1, _, rfl, hf, hk1.more, at_app g1, g2, .inl ⟨by lia, hd0', rfl, ?_⟩⟩
                rw [h6, Option.map_map]; congr 1; funext x; simp; lia
            · rw [if_neg h7] at h6 ⊢
              refine Br.of_f (by simp; lia) ?_
              walk_at "ms"
              refine ⟨_, dp, _, rfl, hf, hk1.more, at_app g1, g2, .inl ⟨by lia, hd0', rfl, ?_⟩⟩
              rw [h6, Option.map_map]; congr 1; funext x; simp; lia
        · have h5 : dp = 0 := by simpa using h5
          walk_at "ms"
          refine ⟨_, dp, D', rfl, hf, hk1, g1, g2, .inr (h4.resolve_left (by lia))⟩
      · rintro ls H1 ⟨x5, dp, D', rfl, hf, hk1, g1, g2, h4⟩
        have hdr : ∀ n, ks.length ≤ j + 1 + n → (ks.drop (j + 1)).drop n = [] := fun n hn => by rw [List.drop_drop]; exact List.drop_of_length_le hn
        rw [hdr _ (by rw [List.length_map, List.length_range, svs_len]; lia)] at h4
        refine ⟨_, _, _, _, _, _, rfl, hf, hk1, g1, by lia, ?_⟩
        rw [← h3]
        congr 1
        unfold lps1
        by_cases ho : opens k = true
        · rw [if_pos ho] at hd0 ⊢
          subst hd0
          rcases h4 with ⟨_, _, rfl, h5⟩ | ⟨_, h5⟩
          · rw [show scanN [] dp = none from rfl] at h5
            rw [h5]; rfl
          · rw [h5, if_neg (by decide)]
            cases scanN (ks.drop (j + 1)) 1 <;> rfl
        · rw [if_neg ho] at hd0 ⊢
          subst hd0
          rcases h4 with ⟨_, h6, _⟩ | ⟨_, h5⟩
          · exact absurd rfl h6
          · rw [h5, if_pos rfl]; rfl
    refine ⟨fun ho => ?_, fun ho => ?_⟩
    · walk_at "ms"
      exact ex_mono (key 1 (by rw [if_pos ho])) fun ls H h => ⟨h⟩
    · walk_at "ms"
      exact ex_mono (key 0 (by rw [if_neg (by simp [ho])])) fun ls H h => ⟨h⟩
  · rintro ls H' ⟨f, x2, x3, x4, x5, D, rfl, hf, hk, h1, h2, h3⟩
    rw [List.drop_of_length_le (by simp [svs])] at h3
    walk_at "ms"
    exact q _ _ hk hf (by rw [h1, ← h3]; rfl)
end
end Mine
end
-- V8
section
set_option tactic.hygienic false
namespace Mine
open List (Perm)
noncomputable def exp1 (ba : Nat × Nat) : List (Int × AV) := [((ba.1 : Int), .int (ba.2 : Int)), ((ba.2 : Int), .int (ba.1 : Int))]
noncomputable def expand (l : List (Nat × Nat)) : List (Int × AV) := l.flatMap exp1
noncomputable def flat (l : List (Nat × Nat)) : List Nat := l.flatMap fun ba => [ba.1, ba.2]
theorem expand_keys (l : List (Nat × Nat)) : (expand l).map (·.1) = (flat l).map fun (n : Nat) => (n : Int) := by
  induction l with
  | nil => rfl
  | cons ba l ih =>
    simp only [expand, flat, List.flatMap_cons, List.map_append] at ih ⊢
    rw [ih]; rfl
theorem natInt_nodup {l : List Nat} (h : l.Nodup) : (l.map fun (n : Nat) => (n : Int)).Nodup := by
  rw [List.Nodup, List.pairwise_map]
  exact h.imp fun {a b} q e => q (by lia)
theorem putI_new {es : List (Int × AV)} {k : Int} {v : AV} (h : k ∉ es.map (·.1)) : putI es k v = es ++ [(k, v)] := by
  unfold putI
  rw [if_neg]
  simp only [List.any_eq_true, decide_eq_true_eq, not_exists, not_and]
  intro kv hkv e
  exact h (e ▸ List.mem_map_of_mem hkv)
theorem putI_foldl : ∀ (l es : List (Int × AV)), ((es ++ l).map (·.1)).Nodup → l.foldl (fun es kv => putI es kv.1 kv.2) es = es ++ l
  | [], es, _ => by simp
  | (k, v) :: l, es, h => by
    have h2 : k ∉ es.map (·.1) := by
      rw [List.map_append, List.nodup_append] at h
      intro m
      exact h.2.2 k m k (by simp) rfl
    rw [List.foldl_cons, putI_new h2, putI_foldl l _ (by simpa using h)]
    simp
theorem dictGo_foldl : ∀ (l : List (Nat × Nat)) (es : List (Int × AV)), dictGo es l = (expand l).foldl (fun es kv => putI es kv.1 kv.2) es
  | [], _ => rfl
  | (b, a) :: l, es => by
    rw [dictGo, dictGo_foldl l]; rfl
theorem dictGo_expand {l : List (Nat × Nat)} (h : (flat l).Nodup) : dictGo [] l = expand l := by
  rw [dictGo_foldl, putI_foldl _ _ (by rw [List.nil_append, expand_keys]; exact natInt_nodup h)]; rfl
theorem valI_mem {es : List (Int × AV)} {k : Int} {v : AV} (hn : (es.map (·.1)).Nodup) (h : (k, v) ∈ es) : valI es k = some v := by
  unfold valI
  induction es with
  | nil => cases h
  | cons kv es ih =>
    rw [List.map_cons, List.nodup_cons] at hn
    rw [List.find?_cons]
    rcases List.mem_cons.mp h with rfl | h
    · simp
    · have : kv.1 ≠ k := fun e => hn.1 (e ▸ List.mem_map_of_mem (f := (·.1)) h)
      simp only [this, decide_false]
      exact ih hn.2 h
theorem valI_none {es : List (Int × AV)} {k : Int} (h : k ∉ es.map (·.1)) : valI es k = none := by
  unfold valI
  rw [Option.map_eq_none_iff, List.find?_eq_none]
  intro kv m e
  exact h (by rw [← of_decide_eq_true e]; exact List.mem_map_of_mem m)
theorem eqDict_perm {es fs : List (Int × AV)} (hp : es.Perm fs) (hn : (fs.map (·.1)).Nodup) (hi : ∀ kv ∈ es, ∃ i, kv.2 = .int i) : eqDict es fs = some true := by
  unfold eqDict
  rw [if_pos hp.length_eq]
  have hm : ∀ kv ∈ es, kv ∈ fs := fun kv m => hp.mem_iff.mp m
  clear hp
  induction es with
  | nil => rfl
  | cons kv es ih =>
    rw [List.foldr_cons, ih (fun x m => hi x (List.mem_cons_of_mem _ m)) (fun x m => hm x (List.mem_cons_of_mem _ m)), valI_mem (v := kv.2) hn (hm kv (by simp))]
    obtain ⟨i, e⟩ := hi kv (by simp)
    rw [e]
    show some (decide (i = i) && true) = some true
    rw [decide_eq_true rfl]
    rfl
theorem expand_int {l : List (Nat × Nat)} : ∀ kv ∈ expand l, ∃ i, kv.2 = .int i := by
  intro kv m
  simp only [expand, List.mem_flatMap, exp1, List.mem_cons, List.not_mem_nil, or_false] at m
  obtain ⟨ba, _, rfl | rfl⟩ := m <;> exact ⟨_, rfl⟩
theorem eqDict_expand {l m : List (Nat × Nat)} (hp : l.Perm m) (hn : (flat m).Nodup) : eqDict (expand l) (expand m) = some true :=
  eqDict_perm (hp.flatMap_right _) (by rw [expand_keys]; exact natInt_nodup hn) expand_int
theorem scan_get : ∀ {r : List Nat} {d o : Nat}, scan r d = some o → r[o]? = some 5
  | [], _, _, h => by cases h
  | k :: r, d, o, h => by
    rw [scan_cons] at h
    have key : ∀ {d' : Nat}, (scan r d').map (· + 1) = some o → (k :: r)[o]? = some 5 := fun h => by
      obtain ⟨o', h1, rfl⟩ := Option.map_eq_some_iff.mp h
      simpa using scan_get h1
    split at h
    · exact key h
    · split at h
      · rename_i h5
        split at h
        · cases h; simp [h5]
        · exact key h
      · split at h
        · cases h
        · exact key h
section
variable {k p d : Nat} {r V : List Nat}
theorem mach_open (h : opens k = true) : mach (k :: r) p V = mach r (p + 1) (p :: V) := (mach_cons k r p V).trans (if_pos h)
theorem mach_shut : mach (5 :: r) p V = ((V.take 1).map fun b => (b, p)) ++ mach r (p + 1) V.tail := (mach_cons 5 r p V).trans ((if_neg (by decide)).trans (if_pos rfl))
theorem mach_stop : mach (16 :: r) p V = mach r (p + 1) [] := (mach_cons 16 r p V).trans ((if_neg (by decide)).trans ((if_neg (by decide)).trans (if_pos rfl)))
theorem mach_on (h : ¬ opens k = true) (h5 : k ≠ 5) (h16 : k ≠ 16) : mach (k :: r) p V = mach r (p + 1) V := (mach_cons k r p V).trans ((if_neg h).trans ((if_neg h5).trans (if_neg h16)))
end
/-- a pair whose first waits -/
inductive Near (b a : Nat) (ks : List Nat) (p : Nat) (V : List Nat) : Prop
  | mk (m o : Nat) (h1 : V[m]? = some b) (h2 : scan ks (m + 1) = some o) (h3 : a = p + o)
/-- a pair of which both are still to come -/
inductive Far (b a : Nat) (ks : List Nat) (p : Nat) : Prop
  | mk (i k o : Nat) (h1 : ks[i]? = some k) (h2 : opens k = true) (h3 : scan (ks.drop (i + 1)) 1 = some o) (h4 : b = p + i) (h5 : a = p + i + 1 + o)
section
variable {b a k p : Nat} {r V V' : List Nat}
theorem far_up (h : Far b a r (p + 1)) : Far b a (k :: r) p := by
  obtain ⟨i, k', o, h1, h2, h3, h4, h5⟩ := h
  exact ⟨i + 1, k', o, h1, h2, h3, h4.trans (Nat.succ_add p i), h5.trans (congrArg (· + 1 + o) (Nat.succ_add p i))⟩
theorem far_down (ho : ¬ opens k = true) (h : Far b a (k :: r) p) : Far b a r (p + 1) := by
  obtain ⟨i, k', o, h1, h2, h3, h4, h5⟩ := h
  cases i with
  | zero => cases h1; exact absurd h2 ho
  | succ i => exact ⟨i, k', o, h1, h2, h3, h4.trans (Nat.succ_add p i).symm, h5.trans (congrArg (· + 1 + o) (Nat.succ_add p i).symm)⟩
theorem near_up {m o : Nat} (h1 : V[m]? = some b) (h2 : scan (k :: r) (m + 1) = (scan r (m + 1)).map (· + 1)) (h3 : scan r (m + 1) = some o) (h4 : a = p + 1 + o) : Near b a (k :: r) p V :=
  ⟨m, o + 1, h1, by rw [h2, h3]; rfl, h4.trans (Nat.succ_add p o)⟩
theorem near_down {d o : Nat} (h2 : (scan r d).map (· + 1) = some o) (h3 : a = p + o) : ∃ o', scan r d = some o' ∧ a = p + 1 + o' := by
  obtain ⟨o', h4, rfl⟩ := Option.map_eq_some_iff.mp h2
  exact ⟨o', h4, h3.trans (Nat.succ_add p o').symm⟩
end
theorem mach_near (b a : Nat) (ks : List Nat) : ∀ (p : Nat) (V : List Nat), (b, a) ∈ mach ks p V ↔ Near b a ks p V ∨ Far b a ks p := by
  induction ks with
  | nil =>
    intro p V
    refine ⟨fun h => (List.not_mem_nil h).elim, fun h => ?_⟩
    rcases h with ⟨m, o, _, h2, _⟩ | ⟨i, k, o, h1, _⟩
    · cases h2
    · cases h1
  | cons k r ih =>
    intro p V
    by_cases ho : opens k = true
    · rw [mach_open ho, ih]
      constructor
      · rintro (⟨m, o, h1, h2, h3⟩ | h)
        · cases m with
          | zero => cases h1; exact .inr ⟨0, k, o, rfl, ho, h2, rfl, h3⟩
          | succ m => exact .inl ⟨m, o + 1, h1, by rw [scan_open ho, h2]; rfl, h3.trans (Nat.succ_add p o)⟩
        · exact .inr (far_up h)
      · rintro (⟨m, o, h1, h2, h3⟩ | ⟨i, k', o, h1, h2, h3, h4, h5⟩)
        · rw [scan_open ho] at h2
          obtain ⟨o', h4, h5⟩ := near_down h2 h3
          exact .inl ⟨m + 1, o', h1, h4, h5⟩
        · cases i with
          | zero => exact .inl ⟨0, o, congrArg some h4.symm, h3, h5⟩
          | succ i => exact .inr ⟨i, k', o, h1, h2, h3, h4.trans (Nat.succ_add p i).symm, h5.trans (congrArg (· + 1 + o) (Nat.succ_add p i).symm)⟩
    · by_cases h5 : k = 5
      · subst h5
        rw [mach_shut, List.mem_append, ih]
        constructor
        · rintro (h | ⟨m, o, h1, h2, h3⟩ | h)
          · cases V with
            | nil => exact (List.not_mem_nil h).elim
            | cons y V =>
              cases h with
              | head => exact .inl ⟨0, 0, rfl, scan_shut1, rfl⟩
              | tail _ h => exact (List.not_mem_nil h).elim
          · cases V with
            | nil => cases h1
            | cons y V => exact .inl ⟨m + 1, o + 1, h1, by rw [scan_shut, h2]; rfl, h3.trans (Nat.succ_add p o)⟩
          · exact .inr (far_up h)
        · rintro (⟨m, o, h1, h2, h3⟩ | h)
          · cases V with
            | nil => cases h1
            | cons y V =>
              cases m with
              | zero => cases h1; cases scan_shut1.symm.trans h2; exact .inl (h3 ▸ .head _)
              | succ m =>
                rw [scan_shut] at h2
                obtain ⟨o', h4, h5⟩ := near_down h2 h3
                exact .inr (.inl ⟨m, o', h1, h4, h5⟩)
          · exact .inr (.inr (far_down ho h))
      · by_cases h16 : k = 16
        · subst h16
          rw [mach_stop, ih]
          constructor
          · rintro (⟨m, o, h1, h2, h3⟩ | h)
            · cases h1
            · exact .inr (far_up h)
          · rintro (⟨m, o, h1, h2, h3⟩ | h)
            · cases scan_stop.symm.trans h2
            · exact .inr (far_down ho h)
        · rw [mach_on ho h5 h16, ih]
          constructor
          · rintro (⟨m, o, h1, h2, h3⟩ | h)
            · exact .inl (near_up h1 (scan_on ho h5 h16) h2 h3)
            · exact .inr (far_up h)
          · rintro (⟨m, o, h1, h2, h3⟩ | h)
            · rw [scan_on ho h5 h16] at h2
              obtain ⟨o', h4, h5⟩ := near_down h2 h3
              exact .inl ⟨m, o', h1, h4, h5⟩
            · exact .inr (far_down ho h)
/-- no place stands in two pairs -/
structure Flat (V : List Nat) (p : Nat) (l : List Nat) : Prop where
  nd : l.Nodup
  src : ∀ x ∈ l, x ∈ V ∨ p ≤ x
theorem mach_flat (ks : List Nat) : ∀ (p : Nat) (V : List Nat), V.Nodup → (∀ v ∈ V, v < p) → Flat V p (flat (mach ks p V)) := by
  induction ks with
  | nil => exact fun p V _ _ => ⟨List.nodup_nil, fun x m => (List.not_mem_nil m).elim⟩
  | cons k r ih =>
    intro p V hn hl
    have hl1 : ∀ v ∈ V, v < p + 1 := fun v m => Nat.lt_succ_of_lt (hl v m)
    by_cases ho : opens k = true
    · rw [mach_open ho]
      obtain ⟨h1, h2⟩ := ih (p + 1) (p :: V) (List.nodup_cons.mpr ⟨fun m => Nat.lt_irrefl _ (hl p m), hn⟩) (fun v m => by
        cases m with
        | head => exact Nat.lt_succ_self _
        | tail _ m => exact hl1 v m)
      refine ⟨h1, fun x m => ?_⟩
      rcases h2 x m with m | m
      · cases m with
        | head => exact .inr (Nat.le_refl _)
        | tail _ m => exact .inl m
      · exact .inr (Nat.le_of_succ_le m)
    · by_cases h5 : k = 5
      · subst h5
        rw [mach_shut]
        cases V with
        | nil =>
          obtain ⟨h1, h2⟩ := ih (p + 1) [] List.nodup_nil hl1
          exact ⟨h1, fun x m => (h2 x m).imp id Nat.le_of_succ_le⟩
        | cons v V =>
          rw [List.nodup_cons] at hn
          obtain ⟨h1, h2⟩ := ih (p + 1) V hn.2 (fun x m => hl1 x (.tail _ m))
          have hv := hl v (.head _)
          show Flat (v :: V) p (v :: p :: flat (mach r (p + 1) V))
          refine ⟨?_, fun x m => ?_⟩
          · rw [List.nodup_cons, List.nodup_cons]
            refine ⟨fun m => ?_, fun m => ?_, h1⟩
            · cases m with
              | head => exact Nat.lt_irrefl _ hv
              | tail _ m => exact (h2 v m).elim hn.1 fun q => Nat.lt_irrefl _ (Nat.lt_trans hv q)
            · exact (h2 p m).elim (fun m => Nat.lt_irrefl _ (hl p (.tail _ m))) (Nat.not_succ_le_self _)
          · cases m with
            | head => exact .inl (.head _)
            | tail _ m => cases m with
              | head => exact .inr (Nat.le_refl _)
              | tail _ m => exact (h2 x m).imp (.tail _) Nat.le_of_succ_le
      · by_cases h16 : k = 16
        · subst h16
          rw [mach_stop]
          obtain ⟨h1, h2⟩ := ih (p + 1) [] List.nodup_nil (fun v m => (List.not_mem_nil m).elim)
          exact ⟨h1, fun x m => (h2 x m).elim (fun m => (List.not_mem_nil m).elim) fun m => .inr (Nat.le_of_succ_le m)⟩
        · rw [mach_on ho h5 h16]
          obtain ⟨h1, h2⟩ := ih (p + 1) V hn hl1
          exact ⟨h1, fun x m => (h2 x m).imp id Nat.le_of_succ_le⟩
theorem mach0 (ks : List Nat) : (flat (mach ks 0 [])).Nodup := (mach_flat ks 0 [] List.nodup_nil (fun v m => (List.not_mem_nil m).elim)).nd
theorem mem0 (b a : Nat) (ks : List Nat) : (b, a) ∈ mach ks 0 [] ↔ ∃ k o, ks[b]? = some k ∧ opens k = true ∧ scan (ks.drop (b + 1)) 1 = some o ∧ a = b + 1 + o := by
  rw [mach_near]
  constructor
  · rintro (⟨m, o, h1, _⟩ | ⟨i, k, o, h1, h2, h3, h4, h5⟩)
    · cases h1
    · rw [Nat.zero_add] at h4 h5
      subst h4
      exact ⟨k, o, h1, h2, h3, h5⟩
  · rintro ⟨k, o, h1, h2, h3, h4⟩
    exact .inr ⟨b, k, o, h1, h2, h3, (Nat.zero_add b).symm, by rw [Nat.zero_add]; exact h4⟩
theorem mem_flat {x : Nat} {l : List (Nat × Nat)} : x ∈ flat l ↔ ∃ b a, (b, a) ∈ l ∧ (x = b ∨ x = a) := by
  simp only [flat, List.mem_flatMap, List.mem_cons, List.not_mem_nil, or_false]
  constructor
  · rintro ⟨⟨b, a⟩, m, h⟩; exact ⟨b, a, m, h⟩
  · rintro ⟨b, a, m, h⟩; exact ⟨(b, a), m, h⟩
/-- the dict of pairs is as the search wants it -/
theorem pairsOk_mach (ks : List Nat) : PairsOk ks (dictGo [] (mach ks 0 [])) := by
  intro i k hk ho
  rw [dictGo_expand (mach0 ks)]
  have hn : ((expand (mach ks 0 [])).map (·.1)).Nodup := by rw [expand_keys]; exact natInt_nodup (mach0 ks)
  cases h : scan (ks.drop (i + 1)) 1 with
  | some o =>
    refine valI_mem hn ?_
    have : (i, i + 1 + o) ∈ mach ks 0 [] := (mem0 _ _ _).mpr ⟨k, o, hk, ho, h, rfl⟩
    exact List.mem_flatMap.mpr ⟨_, this, by simp [exp1]⟩
  | none =>
    refine valI_none ?_
    rw [expand_keys]
    intro m
    obtain ⟨x, hx, e⟩ := List.mem_map.mp m
    obtain rfl : x = i := by lia
    obtain ⟨b, a, hm, q⟩ := mem_flat.mp hx
    obtain ⟨k', o, h1, h2, h3, h4⟩ := (mem0 _ _ _).mp hm
    rcases q with rfl | rfl
    · rw [h] at h3; cases h3
    · have := scan_get h3
      rw [List.getElem?_drop, ← h4, hk] at this
      cases this
      cases ho
end Mine
end
-- V9
section
set_option tactic.hygienic false
namespace Mine
open List (Perm)
/-- a separator stands at the end alone -/
noncomputable def okB : List Nat → Prop
  | [] => True
  | k :: r => (k = 16 → r = []) ∧ okB r
theorem okB_drop : ∀ (n : Nat) (ks : List Nat), okB ks → okB (ks.drop n)
  | 0, _, h => h
  | _ + 1, [], h => h
  | n + 1, _ :: r, h => okB_drop n r h.2
theorem okB_no {ks : List Nat} (h : ∀ k ∈ ks, k ≠ 16) : okB ks := by
  induction ks with
  | nil => trivial
  | cons k r ih => exact ⟨fun e => absurd e (h k (by simp)), ih fun x m => h x (List.mem_cons_of_mem _ m)⟩
theorem okB_end {ks : List Nat} (h : ∀ k ∈ ks, k ≠ 16) : okB (ks ++ [16]) := by
  induction ks with
  | nil => exact ⟨fun _ => rfl, trivial⟩
  | cons k r ih => exact ⟨fun e => absurd e (h k (by simp)), ih fun x m => h x (List.mem_cons_of_mem _ m)⟩
theorem scanN_eq : ∀ (r : List Nat) (d : Nat), okB r → scanN r d = scan r d
  | [], _, _ => rfl
  | k :: r, d, h => by
    rw [scanN_cons, scan_cons, scanN_eq r (d + 1) h.2, scanN_eq r (d - 1) h.2, scanN_eq r d h.2]
    split
    · rfl
    · split
      · rfl
      · split
        · rename_i h16; rw [h.1 h16]; rfl
        · rfl
theorem lps1_mem {b a k p : Nat} {r : List Nat} : (b, a) ∈ lps1 k r p ↔ ∃ o, opens k = true ∧ scanN r 1 = some o ∧ b = p ∧ a = p + 1 + o := by
  unfold lps1
  split
  · rename_i ho
    cases h : scanN r 1 with
    | none => simp
    | some o => simp [ho]
  · rename_i ho; simp [ho]
theorem lps_mem (b a : Nat) : ∀ (ks : List Nat) (p : Nat), (b, a) ∈ lps ks p ↔ ∃ i k o, ks[i]? = some k ∧ opens k = true ∧ scanN (ks.drop (i + 1)) 1 = some o ∧ b = p + i ∧ a = p + i + 1 + o
  | [], p => by simp [lps]
  | k :: r, p => by
    rw [lps, List.mem_append, lps1_mem, lps_mem b a r (p + 1)]
    constructor
    · rintro (⟨o, h1, h2, h3, h4⟩ | ⟨i, k', o, h1, h2, h3, h4, h5⟩)
      · exact ⟨0, k, o, rfl, h1, by simpa using h2, by lia, by lia⟩
      · exact ⟨i + 1, k', o, by simpa using h1, h2, by simpa using h3, by lia, by lia⟩
    · rintro ⟨i, k', o, h1, h2, h3, h4, h5⟩
      cases i with
      | zero => simp at h1; subst h1; exact .inl ⟨o, h2, by simpa using h3, by lia, by lia⟩
      | succ i => exact .inr ⟨i, k', o, by simpa using h1, h2, by simpa using h3, by lia, by lia⟩
theorem lps_nodup : ∀ (ks : List Nat) (p : Nat), (lps ks p).Nodup
  | [], _ => List.nodup_nil
  | k :: r, p => by
    rw [lps, List.nodup_append]
    refine ⟨?_, lps_nodup r (p + 1), ?_⟩
    · unfold lps1; split
      · split <;> simp
      · simp
    · rintro ⟨b, a⟩ m ⟨b', a'⟩ m' e
      cases e
      obtain ⟨_, _, _, h, _⟩ := lps1_mem.mp m
      obtain ⟨i, _, _, _, _, _, h', _⟩ := (lps_mem _ _ _ _).mp m'
      lia
theorem nodup_of_flat {l : List (Nat × Nat)} (h : (flat l).Nodup) : l.Nodup := by
  induction l with
  | nil => exact List.nodup_nil
  | cons x l ih =>
    obtain ⟨b, a⟩ := x
    have h' : (b :: a :: flat l).Nodup := h
    rw [List.nodup_cons, List.nodup_cons] at h'
    rw [List.nodup_cons]
    refine ⟨fun m => h'.1 ?_, ih h'.2.2⟩
    exact List.mem_cons_of_mem _ (mem_flat.mpr ⟨b, a, m, .inl rfl⟩)
theorem mach_perm {ks : List Nat} (h : okB ks) : (mach ks 0 []).Perm (lps ks 0) := by
  rw [List.perm_ext_iff_of_nodup (nodup_of_flat (mach0 ks)) (lps_nodup ks 0)]
  rintro ⟨b, a⟩
  rw [mem0, lps_mem]
  constructor
  · rintro ⟨k, o, h1, h2, h3, h4⟩
    exact ⟨b, k, o, h1, h2, by rw [scanN_eq _ _ (okB_drop _ _ h)]; exact h3, by lia, by lia⟩
  · rintro ⟨i, k, o, h1, h2, h3, h4, h5⟩
    obtain rfl : b = i := by lia
    exact ⟨k, o, h1, h2, by rw [← scanN_eq _ _ (okB_drop _ _ h)]; exact h3, by lia⟩
theorem flat_perm {l m : List (Nat × Nat)} (h : l.Perm m) (hn : (flat l).Nodup) : (flat m).Nodup := (h.flatMap_right _).nodup_iff.mp hn
noncomputable def shf (c : Nat) (ba : Nat × Nat) : Nat × Nat := (ba.1 + c, ba.2 + c)
theorem mach_shift (c : Nat) : ∀ (ks : List Nat) (p : Nat) (V : List Nat), mach ks (p + c) (V.map (· + c)) = (mach ks p V).map (shf c)
  | [], _, _ => rfl
  | k :: r, p, V => by
    have h1 := mach_shift c r (p + 1) (p :: V)
    have h2 := mach_shift c r (p + 1) V
    have h3 := mach_shift c r (p + 1) V.tail
    have h4 := mach_shift c r (p + 1) []
    rw [show p + 1 + c = p + c + 1 by lia] at h1 h2 h3 h4
    rw [mach_cons, mach_cons]
    split
    · exact h1
    · split
      · rw [List.map_append, ← h3]
        congr 1
        · cases V <;> simp [shf]
        · simp
      · split
        · exact h4
        · exact h2
theorem mach_sep (r : List Nat) : ∀ (ks : List Nat) (p : Nat) (V : List Nat), mach (ks ++ 16 :: r) p V = mach ks p V ++ mach r (p + ks.length + 1) []
  | [], p, V => by rw [List.nil_append, mach_cons, if_neg (by decide), if_neg (by decide), if_pos rfl]; rfl
  | k :: ks, p, V => by
    have e : ∀ V, mach (ks ++ 16 :: r) (p + 1) V = mach ks (p + 1) V ++ mach r (p + (k :: ks).length + 1) [] := fun V => by
      rw [mach_sep r ks (p + 1) V, List.length_cons, show p + 1 + ks.length + 1 = p + (ks.length + 1) + 1 by lia]
    rw [List.cons_append, mach_cons, mach_cons]
    split
    · exact e _
    · split
      · rw [e, List.append_assoc]
      · split
        · exact e _
        · exact e _
theorem mach_twice (ks : List Nat) : mach (ks ++ [16] ++ ks) 0 [] = mach ks 0 [] ++ (mach ks 0 []).map (shf (ks.length + 1)) := by
  rw [List.append_assoc, List.singleton_append, mach_sep, ← mach_shift]
  simp
/-- the pairs of both halves, as the law reckons them -/
noncomputable def due (ks : List Nat) : List (Nat × Nat) := lps ks 0 ++ (lps ks 0).map (shf (ks.length + 1))
theorem due_perm {ks : List Nat} (h : okB ks) : (mach (ks ++ [16] ++ ks) 0 []).Perm (due ks) := by
  rw [mach_twice]
  exact (mach_perm h).append ((mach_perm h).map _)
theorem due_nodup {ks : List Nat} (h : okB ks) : (flat (due ks)).Nodup := flat_perm (due_perm h) (mach0 _)
theorem lps_flat {ks : List Nat} (h : okB ks) : (flat (lps ks 0)).Nodup := flat_perm (mach_perm h) (mach0 _)
theorem eq_pairs {ks : List Nat} (h : okB ks) : eqDict (dictGo [] (mach ks 0 [])) (dictGo [] (lps ks 0)) = some true := by
  rw [dictGo_expand (mach0 ks), dictGo_expand (lps_flat h)]
  exact eqDict_expand (mach_perm h) (lps_flat h)
noncomputable def shI (c : Nat) (kv : Int × AV) : Int × AV := (kv.1 + c, match kv.2 with | .int i => .int (i + c) | v => v)
theorem expand_shift (c : Nat) (l : List (Nat × Nat)) : (expand l).map (shI c) = expand (l.map (shf c)) := by
  induction l with
  | nil => rfl
  | cons x l ih =>
    rw [List.map_cons]
    show ((exp1 x ++ expand l).map (shI c)) = exp1 (shf c x) ++ expand (l.map (shf c))
    rw [List.map_append, ih]
    simp [exp1, shf, shI]
theorem due_fold {ks : List Nat} (h : okB ks) : (expand (lps ks 0) ++ (expand (lps ks 0)).map (shI (ks.length + 1))).foldl (fun es kv => putI es kv.1 kv.2) [] = expand (due ks) := by
  rw [expand_shift]
  have e : expand (lps ks 0) ++ expand ((lps ks 0).map (shf (ks.length + 1))) = expand (due ks) := by simp [due, expand]
  rw [e, putI_foldl _ _ (by rw [List.nil_append, expand_keys]; exact natInt_nodup (due_nodup h))]
  rfl
theorem eq_due {ks : List Nat} (h : okB ks) : eqDict (dictGo [] (mach (ks ++ [16] ++ ks) 0 [])) (expand (due ks)) = some true := by
  rw [dictGo_expand (mach0 _)]
  exact eqDict_expand (due_perm h) (due_nodup h)
end Mine
end
-- V10
section
set_option tactic.hygienic false
namespace Mine
structure Ent where
  lv : Nat
  ov : Option Nat
  iso : Bool
/-- the stack: the last entry first -/
structure Stk where
  es : List Ent
  oi : Nat
  oe : Nat
  vi : Nat
noncomputable def entA (e : Ent) : List (Nat × AV) := [(33, .int e.lv), (34, oS e.ov), (35, .bool e.iso)]
noncomputable def stA (dep en : Nat) (st : Stk) : List (Nat × AV) := [(37, .int dep), (38, .ref en), (40, .int st.oi), (41, .int st.oe), (42, .int st.vi)]
noncomputable def refs (xs : List Nat) : List AV := (xs.map .ref).reverse
theorem refs_cons (x : Nat) (xs : List Nat) : refs (x :: xs) = refs xs ++ [.ref x] := by simp [refs]
theorem refs_len (xs : List Nat) : (refs xs).length = xs.length := by simp [refs]
def EntAt (H : Hp) (x : Nat) (e : Ent) : Prop := ∃ dx, H[x]? = some (.inst 39 dx) ∧ H[dx]? = some (.attrs (entA e))
noncomputable def EntsAt (H : Hp) : List Nat → List Ent → Prop
  | [], [] => True
  | x :: xs, e :: es => EntAt H x e ∧ EntsAt H xs es
  | _, _ => False
structure StkAt (H : Hp) (s d en dep : Nat) (st : Stk) : Prop where
  inst : H[s]? = some (.inst 54 d)
  attrs : H[d]? = some (.attrs (stA dep en st))
  ents : ∃ xs, H[en]? = some (.list (refs xs)) ∧ EntsAt H xs st.es
/-- not of an entry -/
noncomputable def NotEnt : AO → Prop
  | .inst c _ => c ≠ 39
  | .attrs es => es.head?.map (·.1) ≠ some 33
  | _ => True
theorem EntAt.keep {H H' : Hp} {Y : List Nat} {x : Nat} {e : Ent} (h : EntAt H x e) (k : Keep Y H H') (hy : ∀ y ∈ Y, ∀ o, H[y]? = some o → NotEnt o) : EntAt H' x e := by
  obtain ⟨dx, h1, h2⟩ := h
  exact ⟨dx, k.get _ _ (fun m => hy x m _ h1 rfl) h1, k.get _ _ (fun m => hy dx m _ h2 rfl) h2⟩
theorem EntsAt.keep {H H' : Hp} {Y : List Nat} (k : Keep Y H H') (hy : ∀ y ∈ Y, ∀ o, H[y]? = some o → NotEnt o) : ∀ {xs : List Nat} {es : List Ent}, EntsAt H xs es → EntsAt H' xs es
  | [], [], _ => trivial
  | _ :: _, _ :: _, h => ⟨h.1.keep k hy, EntsAt.keep k hy h.2⟩
  | [], _ :: _, h => h.elim
  | _ :: _, [], h => h.elim
theorem EntsAt.len {H : Hp} : ∀ {xs : List Nat} {es : List Ent}, EntsAt H xs es → xs.length = es.length
  | [], [], _ => rfl
  | _ :: _, _ :: _, h => by simp [EntsAt.len h.2]
  | [], _ :: _, h => h.elim
  | _ :: _, [], h => h.elim
theorem StkAt.ne1 {H : Hp} {s d en dep : Nat} {st : Stk} (h : StkAt H s d en dep st) : s ≠ d ∧ s ≠ en ∧ d ≠ en := by
  obtain ⟨h1, h2, xs, h3, _⟩ := h
  refine ⟨?_, ?_, ?_⟩
  · rintro rfl; rw [h1] at h2; cases h2
  · rintro rfl; rw [h1] at h3; cases h3
  · rintro rfl; rw [h2] at h3; cases h3
theorem StkAt.notEnt {H : Hp} {s d en dep : Nat} {st : Stk} (h : StkAt H s d en dep st) : ∀ y ∈ [d, en], ∀ o, H[y]? = some o → NotEnt o := by
  obtain ⟨h1, h2, xs, h3, _⟩ := h
  intro y m o ho
  simp at m
  rcases m with rfl | rfl
  · rw [h2] at ho; cases ho; simp [NotEnt, stA]
  · rw [h3] at ho; cases ho; trivial
/-- what does not touch the stack -/
theorem StkAt.keep {H H' : Hp} {Y : List Nat} {s d en dep : Nat} {st : Stk} (h : StkAt H s d en dep st) (k : Keep Y H H') (hy : ∀ y ∈ Y, ∀ o, H[y]? = some o → NotEnt o) (h1 : s ∉ Y) (h2 : d ∉ Y) (h3 : en ∉ Y) : StkAt H' s d en dep st := by
  obtain ⟨g1, g2, xs, g3, g4⟩ := h
  exact ⟨k.get _ _ h1 g1, k.get _ _ h2 g2, xs, k.get _ _ h3 g3, g4.keep k hy⟩
theorem StkAt.keep0 {H H' : Hp} {s d en dep : Nat} {st : Stk} (h : StkAt H s d en dep st) (k : Keep [] H H') : StkAt H' s d en dep st := h.keep k (by simp) (by simp) (by simp) (by simp)
noncomputable def fur (lv : Nat) (r : Bool) : Nat := if r = true then lv + 1 + lv % 2 else lv + 2 - lv % 2
theorem fmod2 (n : Nat) : Int.fmod (n : Int) 2 = ((n % 2 : Nat) : Int) := by rw [Int.fmod_eq_emod_of_nonneg _ (by decide)]; rfl
section
variable {sc : List Int} {n : Nat} {H : Hp} {s d en dep : Nat} {st : Stk} {Q : AV → Hp → Prop}
theorem r_last {e : Ent} {es : List Ent} (hS : StkAt H s d en dep st) (he : st.es = e :: es) (hl : st.es.length ≤ 1000) (q : ∀ x, EntAt H x e → Q (.ref x) H) : T (run (thePI sc) 200 (n + 1) 44 [.ref s] H) Q := by
  obtain ⟨h1, h2, xs, h3, h4⟩ := hS
  refine T_fn (ls := [.ref s]) rfl rfl ?_
  dsimp only [b_BidiStack_last]
  walk_at "ms"
  rw [he] at h4 hl
  cases xs with
  | nil => exact h4.elim
  | cons x xs =>
    have := h4.2.len
    rw [refs_cons] at h3
    refine i_last (ob_ref h3) ?_ List.getLast?_concat ?_
    · simp [refs_len] at hl ⊢; lia
    exact ⟨q x h4.1⟩
theorem r_further {e : Ent} {es : List Ent} {r : Bool} (hS : StkAt H s d en dep st) (he : st.es = e :: es) (hl : st.es.length ≤ 1000) (q : Q (.int (fur e.lv r)) H) : T (run (thePI sc) 200 (n + 2) 46 [.ref s, .bool r] H) Q := by
  have h1 := hS.inst
  have h2 := hS.attrs
  refine T_fn (ls := [.ref s, .bool r, .unb]) rfl rfl ?_
  dsimp only [b_BidiStack_further]
  walk_at "ms"
  refine r_last hS he hl ?_
  rintro x ⟨dx, g1, g2⟩
  walk_at "ms"
  refine ⟨fun hr => ?_, fun hr => ?_⟩
  · walk_at "ms"
    rw [fmod2]
    have : ((e.lv : Int) + 1 + ((e.lv % 2 : Nat) : Int)) = (fur e.lv r : Nat) := by simp [fur, hr]
    rw [this]
    exact q
  · walk_at "ms"
    rw [fmod2]
    have : ((e.lv : Int) + 2 - ((e.lv % 2 : Nat) : Int)) = (fur e.lv r : Nat) := by subst hr; exact (Int.ofNat_sub (Nat.le_trans (Nat.mod_le ..) (Nat.le_add_right ..))).symm
    rw [this]
    exact q
end
end Mine
end
-- V11
section
set_option tactic.hygienic false
namespace Mine
theorem oS_ub (o : Option Nat) : oS o ≠ .unb := by cases o <;> exact fun h => AV.noConfusion h
end Mine
end
open Mine
local macro_rules | `(tactic| walk_at "ub") => `(tactic| exact oS_ub _)
section
namespace Mine
section
variable {sc : List Int} {n : Nat} {H : Hp} {s d en dep : Nat} {st : Stk} {Q : AV → Hp → Prop}
theorem r_entry {lv : Nat} {ov : Option Nat} {iso : Bool} (q : ∀ x H', Keep [] H H' → H.length ≤ x → EntAt H' x ⟨lv, ov, iso⟩ → Q (.ref x) H') : T (run (thePI sc) 200 (n + 1) 39 [.int lv, oS ov, .bool iso] H) Q := by
  refine T_cls (ls := [.ref (H.length + 1), .int lv, oS ov, .bool iso]) rfl rfl rfl rfl ?_
  dsimp only [b_BidiEntry___init__]
  walk_at "ms"
  refine q _ _ (((Keep.app.put (.inr (Nat.le_refl _))).put (.inr (Nat.le_refl _))).put (.inr (Nat.le_refl _))) (Nat.le_succ _) ⟨H.length, by walk_at "h", ?_⟩
  exact at_setE ⟨_, by walk_at "h"⟩
theorem r_is_free {lv : Nat} (hS : StkAt H s d en dep st) (q : Q (.bool (decide (lv ≤ dep) && decide (st.oi = 0) && decide (st.oe = 0))) H) : T (run (thePI sc) 200 (n + 1) 47 [.ref s, .int lv] H) Q := by
  have h1 := hS.inst
  have h2 := hS.attrs
  refine T_fn (ls := [.ref s, .int lv]) rfl rfl ?_
  dsimp only [b_BidiStack_is_free]
  walk_at "mp"
  have e : (decide ((lv : Int) ≤ dep) && (decide ((st.oi : Int) = 0) && decide ((st.oe : Int) = 0))) = (decide (lv ≤ dep) && decide (st.oi = 0) && decide (st.oe = 0)) := by
    rw [Bool.and_assoc]; congr 1
    · simp
    · congr 1 <;> simp
  rw [e]
  exact q
end
theorem StkAt.push {H H' : Hp} {s d en dep x : Nat} {st : Stk} {e : Ent} {xs : List Nat} (h1 : H[s]? = some (.inst 54 d)) (h2 : H[d]? = some (.attrs (stA dep en st))) (h3 : H[en]? = some (.list (refs xs))) (h4 : EntsAt H xs st.es)
    (k : Keep [] H H') (he : EntAt H' x e) : StkAt (H'.set en (.list (refs xs ++ [.ref x]))) s d en dep { st with es := e :: st.es } := by
  have g1 := k.get _ _ (by simp) h1
  have g2 := k.get _ _ (by simp) h2
  have g3 := k.get _ _ (by simp) h3
  have hn : ∀ y ∈ [en], ∀ o, H'[y]? = some o → NotEnt o := by
    intro y m o ho; simp at m; subst m; rw [g3] at ho; cases ho; trivial
  have n1 : en ≠ s := by rintro rfl; rw [g3] at g1; cases g1
  have n2 : en ≠ d := by rintro rfl; rw [g3] at g2; cases g2
  refine ⟨at_ne n1 g1, at_ne n2 g2, x :: xs, ?_, ?_⟩
  · rw [refs_cons]; exact at_set g3
  · have k2 : Keep [en] H' (H'.set en (.list (refs xs ++ [.ref x]))) := Keep.set (by simp)
    exact ⟨he.keep k2 hn, (h4.keep k (by simp)).keep k2 hn⟩
theorem StkAt.put {H : Hp} {s d en dep : Nat} {st st' : Stk} (h : StkAt H s d en dep st) (he : st'.es = st.es) : StkAt (H.set d (.attrs (stA dep en st'))) s d en dep st' := by
  obtain ⟨n1, n2, n3⟩ := h.ne1
  have hn := h.notEnt
  obtain ⟨h1, h2, xs, h3, h4⟩ := h
  refine ⟨at_ne (Ne.symm n1) h1, at_set h2, xs, at_ne n3 h3, ?_⟩
  rw [he]
  exact h4.keep (Y := [d]) (Keep.set (by simp)) (fun y m => hn y (by simp at m; simp [m]))
theorem StkAt.pop {H : Hp} {s d en dep x : Nat} {st : Stk} {e : Ent} {es : List Ent} {xs : List Nat} (h1 : H[s]? = some (.inst 54 d)) (h2 : H[d]? = some (.attrs (stA dep en st))) (h3 : H[en]? = some (.list (refs (x :: xs)))) (h4 : EntsAt H (x :: xs) (e :: es)) :
    StkAt (H.set en (.list (refs (x :: xs)).dropLast)) s d en dep { st with es := es } := by
  have hn : ∀ y ∈ [en], ∀ o, H[y]? = some o → NotEnt o := by
    intro y m o ho; simp at m; subst m; rw [h3] at ho; cases ho; trivial
  have n1 : en ≠ s := by rintro rfl; rw [h3] at h1; cases h1
  have n2 : en ≠ d := by rintro rfl; rw [h3] at h2; cases h2
  refine ⟨at_ne n1 h1, at_ne n2 h2, xs, ?_, h4.2.keep (Y := [en]) (Keep.set (by simp)) hn⟩
  rw [at_set h3, refs_cons, List.dropLast_concat]
/-- the entry on top -/
noncomputable def top (st : Stk) : Ent := st.es.headD ⟨0, none, false⟩
noncomputable def free (dep lv : Nat) (st : Stk) : Bool := decide (lv ≤ dep) && decide (st.oi = 0) && decide (st.oe = 0)
noncomputable def cEmbed (dep : Nat) (r : Bool) (o : Option Nat) (st : Stk) : Stk :=
  if free dep (fur (top st).lv r) st = true then { st with es := ⟨fur (top st).lv r, o, false⟩ :: st.es } else if st.oi = 0 then { st with oe := st.oe + 1 } else st
noncomputable def cIso (dep : Nat) (r : Bool) (st : Stk) : Stk :=
  if free dep (fur (top st).lv r) st = true then { st with es := ⟨fur (top st).lv r, none, true⟩ :: st.es, vi := st.vi + 1 } else { st with oi := st.oi + 1 }
section
variable {sc : List Int} {n : Nat} {H : Hp} {s d en dep : Nat} {st : Stk} {Q : AV → Hp → Prop}
theorem r_embed {r : Bool} {o : Option Nat} (hS : StkAt H s d en dep st) (he : st.es ≠ []) (hl : st.es.length ≤ 1000) (q : ∀ H', Keep [d, en] H H' → StkAt H' s d en dep (cEmbed dep r o st) → Q .none H') : T (run (thePI sc) 200 (n + 3) 50 [.ref s, .bool r, oS o] H) Q := by
  have h1 := hS.inst
  have h2 := hS.attrs
  obtain ⟨e, es, he⟩ := List.exists_cons_of_ne_nil he
  have ht : top st = e := by simp [top, he]
  obtain ⟨xs, h3, h4⟩ := hS.ents
  have hlx := h4.len
  refine T_fn (ls := [.ref s, .bool r, oS o, .unb]) rfl rfl ?_
  dsimp only [b_BidiStack_embed]
  walk_at "ms"
  refine r_further hS he hl ?_
  walk_at "ms"
  refine r_is_free hS ?_
  walk_at "ms"
  refine ⟨fun hf => ?_, fun hf => ?_⟩
  · walk_at "ms"
    refine r_entry ?_
    intro x H' k hx hE
    have g3 := k.get _ _ (by simp) h3
    walk_at "ms"
    refine m_append g3 (by rw [refs_len]; lia) ?_
    walk_at "ms"
    refine q _ (k.nil.put (.inl (by simp))) ?_
    have := StkAt.push h1 h2 h3 h4 k hE
    rw [cEmbed, ht, if_pos (show free dep (fur e.lv r) st = true from hf)]
    exact this
  · walk_at "ms"
    refine ⟨fun ho => ?_, fun ho => ?_⟩
    · have ho : st.oi = 0 := by simpa using ho
      walk_at "ms"
      refine q _ (Keep.set (by simp)) ?_
      rw [cEmbed, ht, if_neg (by show ¬ (free dep (fur e.lv r) st = true); unfold free; rw [hf]; decide), if_pos ho]
      exact hS.put (st' := { st with oe := st.oe + 1 }) rfl
    · have ho : ¬ st.oi = 0 := by simpa using ho
      walk_at "ms"
      refine q _ Keep.refl ?_
      rw [cEmbed, ht, if_neg (by show ¬ (free dep (fur e.lv r) st = true); unfold free; rw [hf]; decide), if_neg ho]
      exact hS
theorem r_isolate {r : Bool} (hS : StkAt H s d en dep st) (he : st.es ≠ []) (hl : st.es.length ≤ 1000) (q : ∀ H', Keep [d, en] H H' → StkAt H' s d en dep (cIso dep r st) → Q .none H') : T (run (thePI sc) 200 (n + 3) 51 [.ref s, .bool r] H) Q := by
  have h1 := hS.inst
  have h2 := hS.attrs
  obtain ⟨e, es, he⟩ := List.exists_cons_of_ne_nil he
  have ht : top st = e := by simp [top, he]
  obtain ⟨xs, h3, h4⟩ := hS.ents
  obtain ⟨n1, n2, n3⟩ := hS.ne1
  have hlx := h4.len
  refine T_fn (ls := [.ref s, .bool r, .unb]) rfl rfl ?_
  dsimp only [b_BidiStack_isolate]
  walk_at "ms"
  refine r_further hS he hl ?_
  walk_at "ms"
  refine r_is_free hS ?_
  walk_at "ms"
  refine ⟨fun hf => ?_, fun hf => ?_⟩
  · have hS2 := hS.put (st' := { st with vi := st.vi + 1 }) rfl
    have k0 : Keep [d, en] H (H.set d (.attrs (putS (stA dep en st) 42 (.int (st.vi + 1))))) := Keep.set (by simp)
    have e0 : AO.attrs (putS (stA dep en st) 42 (.int (st.vi + 1))) = AO.attrs (stA dep en { st with vi := st.vi + 1 }) := rfl
    walk_at "m"
    walk_at "m"
    walk_at "m"
    walk_at "m"
    walk_at "m"
    walk_at "m"
    walk_at "m"
    walk_at "m"
    walk_at "m"
    walk_at "m"
    rw [e0] at k0 ⊢
    generalize H.set d _ = H2 at k0 hS2 ⊢
    have g1 := hS2.inst
    have g2 := hS2.attrs
    obtain ⟨ys, g3, g4⟩ := hS2.ents
    have hly := g4.len
    simp only [List.set_cons_succ, List.set_cons_zero]
    walk_at "ms"
    refine r_entry (ov := none) ?_
    intro x H' k hx hE
    have g3' := k.get _ _ (by simp) g3
    walk_at "ms"
    refine m_append g3' (by rw [refs_len]; simp at hly; lia) ?_
    walk_at "ms"
    refine q _ ((k0.tr k.nil).put (.inl (by simp))) ?_
    have := StkAt.push g1 g2 g3 g4 k hE
    rw [cIso, ht, if_pos (show free dep (fur e.lv r) st = true from hf)]
    exact this
  · walk_at "ms"
    refine q _ (Keep.set (by simp)) ?_
    rw [cIso, ht, if_neg (by show ¬ (free dep (fur e.lv r) st = true); unfold free; rw [hf]; decide)]
    exact hS.put (st' := { st with oi := st.oi + 1 }) rfl
end
end Mine
end
-- V12
section
set_option tactic.hygienic false
namespace Mine
noncomputable def cEndIso (st : Stk) : Stk := if 0 < st.oi then { st with oi := st.oi - 1 } else if 0 < st.vi then ⟨(st.es.dropWhile fun e => !e.iso).tail, st.oi, 0, st.vi - 1⟩ else st
noncomputable def cEndEmb (st : Stk) : Stk := if 0 < st.oi then st else if 0 < st.oe then { st with oe := st.oe - 1 } else if (!(top st).iso && decide (1 < st.es.length)) = true then { st with es := st.es.tail } else st
section
variable {sc : List Int} {n : Nat} {H : Hp} {s d en dep : Nat} {st : Stk} {Q : AV → Hp → Prop}
theorem r_end_embedding (hS : StkAt H s d en dep st) (he : st.es ≠ []) (hl : st.es.length ≤ 1000) (q : ∀ H', Keep [d, en] H H' → StkAt H' s d en dep (cEndEmb st) → Q .none H') : T (run (thePI sc) 200 (n + 2) 53 [.ref s] H) Q := by
  have h1 := hS.inst
  have h2 := hS.attrs
  obtain ⟨e, es, he⟩ := List.exists_cons_of_ne_nil he
  have ht : top st = e := by simp [top, he]
  obtain ⟨xs, h3, h4⟩ := hS.ents
  have hlx := h4.len
  refine T_fn (ls := [.ref s]) rfl rfl ?_
  dsimp only [b_BidiStack_end_embedding]
  walk_at "ms"
  rw [dec_gt]
  refine ⟨fun ho => ?_, fun ho => ?_⟩
  · walk_at "ms"
    refine q _ Keep.refl ?_
    rw [cEndEmb, if_pos (of_decide_eq_true ho)]; exact hS
  · have ho := of_decide_eq_false ho
    walk_at "ms"
    rw [dec_gt]
    refine ⟨fun hoe => ?_, fun hoe => ?_⟩
    · have hoe := of_decide_eq_true hoe
      walk_at "ms"
      refine q _ (Keep.set (by simp)) ?_
      rw [cEndEmb, if_neg ho, if_pos hoe]
      have e0 : AO.attrs (putS (stA dep en st) 41 (.int (st.oe - 1))) = AO.attrs (stA dep en { st with oe := st.oe - 1 }) := by
        rw [show ((st.oe : Int) - 1) = ((st.oe - 1 : Nat) : Int) by lia]; rfl
      rw [e0]
      exact hS.put (st' := { st with oe := st.oe - 1 }) rfl
    · have hoe := of_decide_eq_false hoe
      walk_at "ms"
      refine T_and' ?_
      walk_at "ms"
      refine r_last hS he hl ?_
      rintro x ⟨dx, g1, g2⟩
      walk_at "ms"
      refine p_len (ob_ref h3) (by rw [refs_len]; lia) ?_
      walk_at "ms"
      have e1 : (!e.iso && decide (((refs xs).length : Int) > 1)) = (!(top st).iso && decide (1 < st.es.length)) := by
        rw [ht, refs_len, hlx]; congr 1; simp; lia
      rw [e1]
      refine ⟨fun hc => ?_, fun hc => ?_⟩
      · walk_at "ms"
        cases xs with
        | nil => rw [he] at h4; exact h4.elim
        | cons x xs =>
          refine m_pop h3 (by rw [refs_len]; lia) (by rw [refs_cons]; exact List.getLast?_concat) ?_
          walk_at "ms"
          refine q _ (Keep.set (by simp)) ?_
          rw [cEndEmb, if_neg ho, if_neg hoe, if_pos hc, he]
          rw [he] at h4
          exact StkAt.pop h1 h2 h3 h4
      · walk_at "ms"
        refine q _ Keep.refl ?_
        rw [cEndEmb, if_neg ho, if_neg hoe, if_neg (by rw [hc]; decide)]; exact hS
theorem r_end_isolate (hS : StkAt H s d en dep st) (hv : 0 < st.vi → ∃ e ∈ st.es, e.iso = true) (hl : st.es.length ≤ 150) (q : ∀ H', Keep [d, en] H H' → StkAt H' s d en dep (cEndIso st) → Q .none H') : T (run (thePI sc) 200 (n + 2) 52 [.ref s] H) Q := by
  have h1 := hS.inst
  have h2 := hS.attrs
  refine T_fn (ls := [.ref s]) rfl rfl ?_
  dsimp only [b_BidiStack_end_isolate]
  walk_at "ms"
  rw [dec_gt]
  refine ⟨fun ho => ?_, fun ho => ?_⟩
  · have ho := of_decide_eq_true ho
    walk_at "ms"
    refine q _ (Keep.set (by simp)) ?_
    rw [cEndIso, if_pos ho]
    have e0 : AO.attrs (putS (stA dep en st) 40 (.int (st.oi - 1))) = AO.attrs (stA dep en { st with oi := st.oi - 1 }) := by
      rw [show ((st.oi : Int) - 1) = ((st.oi - 1 : Nat) : Int) by lia]; rfl
    rw [e0]
    exact hS.put (st' := { st with oi := st.oi - 1 }) rfl
  · have ho := of_decide_eq_false ho
    walk_at "ms"
    rw [dec_gt]
    refine ⟨fun hvi => ?_, fun hvi => ?_⟩
    · have hvi := of_decide_eq_true hvi
      have hex := hv hvi
      walk_at "ms"
      have hS2 : StkAt (H.set d (.attrs (putS (stA dep en st) 41 (.int 0)))) s d en dep { st with oe := 0 } := hS.put (st' := { st with oe := 0 }) rfl
      have k0 : Keep [d, en] H (H.set d (.attrs (putS (stA dep en st) 41 (.int 0)))) := Keep.set (by simp)
      generalize H.set d _ = H2 at hS2 k0 ⊢
      refine X_wh (fun m ls H' => ls = [.ref s] ∧ ∃ es', StkAt H' s d en dep { st with es := es', oe := 0 } ∧ Keep [d, en] H H' ∧ (es'.dropWhile fun e => !e.iso) = (st.es.dropWhile fun e => !e.iso) ∧ (∃ e ∈ es', e.iso = true) ∧ m = es'.length ∧ es'.length ≤ 150) st.es.length (by lia) ⟨rfl, st.es, hS2, k0, rfl, hex, rfl, hl⟩ ?_
      rintro m ls H' ⟨rfl, es', hS3, k3, hd, ⟨e0, m0, hi0⟩, rfl, hl3⟩
      have g1 := hS3.inst
      have g2 := hS3.attrs
      obtain ⟨xs, g3, g4⟩ := hS3.ents
      have hlx := g4.len
      cases es' with
      | nil => cases m0
      | cons e es =>
        simp at hl3
        walk_at "ms"
        refine r_last hS3 rfl (by simp; lia) ?_
        rintro x ⟨dx, g5, g6⟩
        walk_at "ms"
        cases xs with
        | nil => exact g4.elim
        | cons x xs =>
          simp only [List.length_cons] at hlx
          refine ⟨fun hc => ?_, fun hc => ?_⟩
          · have hc : e.iso = false := by simpa using hc
            walk_at "ms"
            refine m_pop g3 (by rw [refs_len]; simp; lia) (by rw [refs_cons]; exact List.getLast?_concat) ?_
            walk_at "ms"
            refine ⟨es.length, by simp, rfl, es, StkAt.pop g1 g2 g3 g4, k3.put (.inl (by simp)), ?_, ⟨e0, ?_, hi0⟩, rfl, by lia⟩
            · rw [← hd, List.dropWhile_cons, if_pos (by simp [hc])]
            · rcases List.mem_cons.mp m0 with rfl | m0
              · rw [hc] at hi0; cases hi0
              · exact m0
          · have hc : e.iso = true := by simpa using hc
            rw [List.dropWhile_cons, if_neg (by simp [hc])] at hd
            walk_at "ms"
            refine m_pop g3 (by rw [refs_len]; simp; lia) (by rw [refs_cons]; exact List.getLast?_concat) ?_
            have hS4 := StkAt.pop g1 g2 g3 g4
            have k4 := k3.put (o := AO.list (refs (x :: xs)).dropLast) (.inl (show en ∈ [d, en] by simp))
            generalize H'.set en _ = H4 at hS4 k4 ⊢
            have g1 := hS4.inst
            have g2 := hS4.attrs
            walk_at "ms"
            refine q _ (k4.put (.inl (by simp))) ?_
            rw [cEndIso, if_neg ho, if_pos hvi, ← hd]
            have e0 : ∀ es, AO.attrs (putS (stA dep en { st with es := es, oe := 0 }) 42 (.int (st.vi - 1))) = AO.attrs (stA dep en ⟨es, st.oi, 0, st.vi - 1⟩) := fun es => by
              rw [show ((st.vi : Int) - 1) = ((st.vi - 1 : Nat) : Int) by lia]; rfl
            have := hS4.put (st' := ⟨es, st.oi, 0, st.vi - 1⟩) rfl
            rw [← e0 es] at this
            exact this
    · have hvi := of_decide_eq_false hvi
      walk_at "ms"
      refine q _ Keep.refl ?_
      rw [cEndIso, if_neg ho, if_neg hvi]; exact hS
end
end Mine
end
-- V13
section
set_option tactic.hygienic false
namespace Mine
noncomputable def rightsO : Option Nat → Bool
  | some k => rights k
  | none => false
noncomputable def isRight (ks : List Nat) (at_ : Nat) : Bool := if ks[at_]?.getD 0 = 8 then rightsO (fs true (ks.drop (at_ + 1)) 0) else decide (ks[at_]?.getD 0 = 0)
theorem c_eqOS {sc : List Int} {H : Hp} {K : Bool → Prop} {o : Option Nat} {k : Nat} (q : K (decide (o = some k))) : C (evCmp (thePI sc) .eq (oS o) (.str k) H) K := by
  cases o with
  | none => exact ⟨false, rfl, by simpa using q⟩
  | some j => exact ⟨decide (j = k), rfl, by simpa using q⟩
end Mine
end
open Mine
local macro_rules | `(tactic| walk_at "m") => do wkRules #[] ["c_eqOS"]
local macro_rules | `(tactic| walk_at "mc") => `(tactic| repeat (first | walk_at "m" | walk_at "t" | walk_at "q"))
section
namespace Mine
section
variable {sc : List Int} {n : Nat} {H : Hp} {Q : AV → Hp → Prop}
theorem r_is_right {a p pr : Nat} {ks : List Nat} {D : List (Int × AV)} (ha : H[a]? = some (.list (svs ks))) (hp : H[pr]? = some (.dictI D)) (hl : ks.length ≤ 150) (hD : PairsOk ks D) (hpl : p < ks.length)
    (q : Q (.bool (isRight ks p)) H) : T (run (thePI sc) 200 (n + 2) 60 [.ref a, .int p, .ref pr] H) Q := by
  have hk : (svs ks)[p]? = some (.str ks[p]) := by simp [svs, hpl]
  have hD' := hD p ks[p] (List.getElem?_eq_getElem hpl)
  unfold isRight at q
  rw [List.getElem?_eq_getElem hpl, Option.getD_some] at q
  generalize ks[p] = k at hk hD' q
  refine T_fn (ls := [.ref a, .int p, .ref pr, .unb]) rfl rfl ?_
  dsimp only [b_bidi_is_right_isolate]
  walk_at "ms"
  refine i_listN (ob_ref ha) (by walk_at "len") hk ?_
  walk_at "ms"
  refine ⟨fun h => ?_, fun h => ?_⟩
  · have h : ¬ k = 8 := by simpa using h
    rw [if_neg h] at q
    walk_at "ms"
    refine i_listN (ob_ref ha) (by walk_at "len") hk ?_
    walk_at "ms"
    exact q
  · have h : k = 8 := by simpa using h
    rw [if_pos h] at q
    have hD' := hD' (by rw [h]; rfl)
    walk_at "ms"
    rw [hD']
    have he : ∃ e : Nat, ((scan (ks.drop (p + 1)) 1).map fun o => AV.int ((p + 1 + o : Nat) : Int)).getD (.int ((svs ks).length : Nat)) = .int e ∧ p + 1 ≤ e ∧ EndOk true ks (p + 1) e := by
      unfold EndOk
      cases hs : scan (ks.drop (p + 1)) 1 with
      | none => exact ⟨ks.length, by rw [svs_len]; rfl, by lia, by simp⟩
      | some o => exact ⟨p + 1 + o, rfl, by lia, by simp⟩
    obtain ⟨e, he, h1, h2⟩ := he
    rw [he, show (p : Int) + 1 = ((p + 1 : Nat) : Int) by simp]
    refine r_first_strong ha hp hl hD h1 h2 ?_
    walk_at "mp"
    have e1 : (decide (fs true (ks.drop (p + 1)) 0 = some 4) || decide (fs true (ks.drop (p + 1)) 0 = some 9)) = rightsO (fs true (ks.drop (p + 1)) 0) := by
      cases fs true (ks.drop (p + 1)) 0 <;> simp [rightsO, rights]
    rw [e1]
    exact q
theorem r_stack {base dep : Nat} (q : ∀ s d en H', Keep [] H H' → H.length ≤ s → H.length ≤ d → H.length ≤ en → StkAt H' s d en dep ⟨[⟨base, none, false⟩], 0, 0, 0⟩ → Q (.ref s) H') : T (run (thePI sc) 200 (n + 2) 54 [.int base, .int dep] H) Q := by
  refine T_cls (ls := [.ref (H.length + 1), .int base, .int dep]) rfl rfl rfl rfl ?_
  dsimp only [b_BidiStack___init__]
  walk_at "ms"
  have k1 : Keep [] H (List.set (H ++ [AO.attrs [], AO.inst 54 H.length]) H.length (AO.attrs (putS [] 37 (.int dep)))) := Keep.app.put (.inr (Nat.le_refl _))
  have g1 : (List.set (H ++ [AO.attrs [], AO.inst 54 H.length]) H.length (AO.attrs (putS [] 37 (.int dep))))[H.length + 1]? = some (.inst 54 H.length) := by walk_at "h"
  have g2 : (List.set (H ++ [AO.attrs [], AO.inst 54 H.length]) H.length (AO.attrs (putS [] 37 (.int dep))))[H.length]? = some (AO.attrs (putS [] 37 (.int dep))) := at_setE ⟨_, by walk_at "h"⟩
  generalize (List.set (H ++ [AO.attrs [], AO.inst 54 H.length]) H.length (AO.attrs (putS [] 37 (.int dep)))) = H1 at *
  refine r_entry (ov := none) ?_
  intro x H2 k2 hx hE
  have g1 := k2.get _ _ (by simp) g1
  have g2 := k2.get _ _ (by simp) g2
  have k3 := k1.tr k2
  walk_at "ms"
  have hlt : H.length < H2.length := at_lt g2
  have hn : ∀ y ∈ [H.length], ∀ o, H2[y]? = some o → NotEnt o := by
    intro y m o ho; simp at m; subst m; rw [g2] at ho; cases ho; simp [NotEnt, putS]
  refine q _ H.length H2.length _ ((((k3.more.put (.inr (Nat.le_refl _))).put (.inr (Nat.le_refl _))).put (.inr (Nat.le_refl _))).put (.inr (Nat.le_refl _))) (Nat.le_succ _) (Nat.le_refl _) (Nat.le_of_lt hlt) ?_
  refine ⟨by walk_at "h", at_setE ⟨_, by walk_at "h"⟩, [x], (show _ = some (AO.list [AV.ref x]) by walk_at "h"), hE.keep (Y := [H.length]) ?_ hn, trivial⟩
  exact (((Keep.app.put (.inl (by simp))).put (.inl (by simp))).put (.inl (by simp))).put (.inl (by simp))
def Inv (base : Nat) (st : Stk) : Prop := ∃ es0 : List Ent, st.es = es0 ++ [⟨base, none, false⟩] ∧ st.vi = (es0.filter fun e => e.iso).length
theorem Inv.ne {base : Nat} {st : Stk} (h : Inv base st) : st.es ≠ [] := by obtain ⟨es0, h, _⟩ := h; rw [h]; simp
theorem Inv.iso {base : Nat} {st : Stk} (h : Inv base st) (hv : 0 < st.vi) : ∃ e ∈ st.es, e.iso = true := by
  obtain ⟨es0, h1, h2⟩ := h
  rw [h2] at hv
  obtain ⟨e, he⟩ := List.exists_mem_of_length_pos hv
  rw [List.mem_filter] at he
  exact ⟨e, by rw [h1]; simp [he.1], he.2⟩
/-- what one class does: level, class, and the stack behind -/
noncomputable def emO (k : Nat) : Option Nat := if k = 6 ∨ k = 12 then some (if k = 11 ∨ k = 6 then 4 else 2) else none
noncomputable def cNext (dep : Nat) (ks : List Nat) (at_ k : Nat) (st : Stk) : Stk :=
  if embs k = true then cEmbed dep (decide (k = 11 ∨ k = 6)) (emO k) st else if k = 1 then cEndEmb st else if k = 5 then cEndIso st else if opens k = true then cIso dep (isRight ks at_) st else st
noncomputable def cOut (base k : Nat) (st : Stk) : AV × AV :=
  if removed k = true then (.none, .str 14) else if k = 16 then (.int base, .str 16) else
    let e := top (if k = 5 then cEndIso st else st)
    (.int e.lv, .str (e.ov.getD k))
noncomputable def cGo (base dep : Nat) (ks : List Nat) : List Nat → Nat → Stk → List (AV × AV)
  | [], _, _ => []
  | k :: r, at_, st => cOut base k st :: cGo base dep ks r (at_ + 1) (cNext dep ks at_ k st)
theorem removed_cases (k : Nat) (h : removed k = true) : (embs k = true ∧ k ≠ 1) ∨ (embs k = false ∧ k = 1) ∨ (embs k = false ∧ k = 14) := by
  simp only [removed, Bool.or_eq_true, decide_eq_true_eq] at h
  rcases h with ((((rfl | rfl) | rfl) | rfl) | rfl) | rfl <;> decide
theorem not_removed (k : Nat) (h : removed k = false) : embs k = false ∧ k ≠ 1 ∧ k ≠ 14 := by
  simp only [removed, Bool.or_eq_false_iff, decide_eq_false_iff_not] at h
  obtain ⟨⟨⟨⟨⟨h1, h2⟩, h3⟩, h4⟩, h5⟩, h6⟩ := h
  simp [embs, h1, h2, h3, h4, h5, h6]
theorem inv_next {base dep : Nat} {ks : List Nat} {at_ k : Nat} {st : Stk} (h : Inv base st) : Inv base (cNext dep ks at_ k st) ∧ (cNext dep ks at_ k st).es.length ≤ st.es.length + 1 := by
  obtain ⟨es0, h1, h2⟩ := h
  have hself : Inv base st := ⟨es0, h1, h2⟩
  unfold cNext
  split
  · unfold cEmbed; split
    · exact ⟨⟨_ :: es0, by show _ :: st.es = _; rw [h1]; rfl, by simp [h2]⟩, by simp⟩
    · split
      · exact ⟨⟨es0, h1, h2⟩, by simp⟩
      · exact ⟨hself, by simp⟩
  · split
    · unfold cEndEmb; split
      · exact ⟨hself, by simp⟩
      · split
        · exact ⟨⟨es0, h1, h2⟩, by simp⟩
        · split
          · rename_i hc
            simp only [Bool.and_eq_true, decide_eq_true_eq, Bool.not_eq_true'] at hc
            cases es0 with
            | nil => simp [h1] at hc
            | cons e es0 =>
              refine ⟨⟨es0, by simp [h1], ?_⟩, by simp [h1]⟩
              have : e.iso = false := by have := hc.1; simpa [top, h1] using this
              simp [h2, this]
          · exact ⟨hself, by simp⟩
    · split
      · unfold cEndIso; split
        · exact ⟨⟨es0, h1, h2⟩, by simp⟩
        · split
          · rename_i hv
            rw [h2] at hv
            have key : ∀ es0 : List Ent, 0 < (es0.filter fun e => e.iso).length → ∃ es1, ((es0 ++ [(⟨base, none, false⟩ : Ent)]).dropWhile fun e : Ent => !e.iso).tail = es1 ++ [(⟨base, none, false⟩ : Ent)] ∧ (es0.filter fun e => e.iso).length - 1 = (es1.filter fun e => e.iso).length ∧ es1.length ≤ es0.length := by
              intro es0
              induction es0 with
              | nil => intro h; simp at h
              | cons e es ih =>
                intro h
                by_cases hi : e.iso = true
                · exact ⟨es, by simp [hi], by simp [hi], by simp⟩
                · obtain ⟨es1, g1, g2, g3⟩ := ih (by simpa [hi] using h)
                  exact ⟨es1, by simp [hi]; exact g1, by simpa [hi] using g2, by simp; lia⟩
            obtain ⟨es1, g1, g2, g3⟩ := key es0 hv
            refine ⟨⟨es1, by rw [h1]; exact g1, by rw [h2]; exact g2⟩, ?_⟩
            show (List.tail _).length ≤ _
            rw [h1, g1]; simp; lia
          · exact ⟨hself, by simp⟩
      · split
        · unfold cIso; split
          · exact ⟨⟨_ :: es0, by show _ :: st.es = _; rw [h1]; rfl, by simp [h2]⟩, by simp⟩
          · exact ⟨⟨es0, h1, h2⟩, by simp⟩
        · exact ⟨hself, by simp⟩
end
end Mine
end
-- V14
section
set_option tactic.hygienic false
namespace Mine
structure ExN (n0 s d en lv cl : Nat) : Prop where
  d0 : n0 ≤ d
  en0 : n0 ≤ en
  lv0 : n0 ≤ lv
  cl0 : n0 ≤ cl
  lvcl : lv ≠ cl
  lven : lv ≠ en
  clen : cl ≠ en
structure ExS (H : Hp) (s d en dep pr lv cl : Nat) (D : List (Int × AV)) (st : Stk) (A B : List AV) (H' : Hp) : Prop where
  keep : Keep [] H H'
  stk : StkAt H' s d en dep st
  pr : H'[pr]? = some (.dictI D)
  lv : H'[lv]? = some (.list A)
  cl : H'[cl]? = some (.list B)
section
variable {H H' H2 : Hp} {s d en dep pr lv cl : Nat} {D : List (Int × AV)} {st st' : Stk} {A B : List AV}
theorem ExS.ne (h : ExS H s d en dep pr lv cl D st A B H') : (lv ≠ s ∧ lv ≠ d ∧ lv ≠ pr) ∧ (cl ≠ s ∧ cl ≠ d ∧ cl ≠ pr) ∧ (en ≠ pr ∧ d ≠ pr) := by
  obtain ⟨k, ⟨h1, h2, xs, h3, _⟩, h4, h5, h6⟩ := h
  refine ⟨⟨?_, ?_, ?_⟩, ⟨?_, ?_, ?_⟩, ?_, ?_⟩ <;> rintro rfl <;> simp_all
theorem ExS.putLv (h : ExS H s d en dep pr lv cl D st A B H') (N : ExN H.length s d en lv cl) (x : AV) : ExS H s d en dep pr lv cl D st (A ++ [x]) B (H'.set lv (.list (A ++ [x]))) := by
  obtain ⟨⟨n1, n2, n3⟩, _⟩ := h.ne
  refine ⟨h.keep.put (.inr N.lv0), h.stk.keep (Y := [lv]) (Keep.set (by simp)) ?_ (by simp; exact Ne.symm n1) (by simp; exact Ne.symm n2) (by simp; exact Ne.symm N.lven), at_ne n3 h.pr, at_set h.lv, at_ne N.lvcl h.cl⟩
  intro y m o ho; simp at m; subst m; rw [h.lv] at ho; cases ho; trivial
theorem ExS.putCl (h : ExS H s d en dep pr lv cl D st A B H') (N : ExN H.length s d en lv cl) (x : AV) : ExS H s d en dep pr lv cl D st A (B ++ [x]) (H'.set cl (.list (B ++ [x]))) := by
  obtain ⟨_, ⟨n1, n2, n3⟩, _⟩ := h.ne
  refine ⟨h.keep.put (.inr N.cl0), h.stk.keep (Y := [cl]) (Keep.set (by simp)) ?_ (by simp; exact Ne.symm n1) (by simp; exact Ne.symm n2) (by simp; exact Ne.symm N.clen), at_ne n3 h.pr, at_ne (Ne.symm N.lvcl) h.lv, at_set h.cl⟩
  intro y m o ho; simp at m; subst m; rw [h.cl] at ho; cases ho; trivial
theorem ExS.stkTo (h : ExS H s d en dep pr lv cl D st A B H') (N : ExN H.length s d en lv cl) (k : Keep [d, en] H' H2) (hS : StkAt H2 s d en dep st') : ExS H s d en dep pr lv cl D st' A B H2 := by
  obtain ⟨⟨n1, n2, n3⟩, ⟨n4, n5, n6⟩, n7, n8⟩ := h.ne
  refine ⟨h.keep.trans k ?_, hS, k.get _ _ (by simp; exact ⟨Ne.symm n8, Ne.symm n7⟩) h.pr, k.get _ _ (by simp; exact ⟨n2, N.lven⟩) h.lv, k.get _ _ (by simp; exact ⟨n5, N.clen⟩) h.cl⟩
  intro z hz; simp at hz; rcases hz with rfl | rfl
  · exact .inr N.d0
  · exact .inr N.en0
end
section
variable {sc : List Int} {n : Nat} {H : Hp} {Q : AV → Hp → Prop}
noncomputable def exTail : List S := [(.asg 11 (.um 45 (.loc 3) [])),
  (.ex (.bm .append (.loc 5) [(.attr (.loc 11) 33)])),
  (.ex (.bm .append (.loc 6) [(.ite (.cmp .notN (.attr (.loc 11) 34) (.lit .none)) (.attr (.loc 11) 34) (.loc 8))])),
  (.iff (.cmp .inn (.loc 8) (.glob 22)) [(.ex (.um 61 (.loc 3) [(.call 60 [(.loc 0), (.loc 7), (.loc 4)])]))] [])]
inductive ExI (H : Hp) (a base dep s d en pr lv cl : Nat) (D : List (Int × AV)) (ks : List Nat) (j : Nat) (ls : List AV) (H' : Hp) : Prop
  | mk (x7 x8 x9 x10 x11 : AV) (st : Stk) (dn : List (AV × AV)) (c0 : ls = [.ref a, .int base, .int dep, .ref s, .ref pr, .ref lv, .ref cl, x7, x8, x9, x10, x11]) (c1 : ExS H s d en dep pr lv cl D st (dn.map (·.1)) (dn.map (·.2)) H') (c2 : Inv base st) (c3 : st.es.length ≤ j + 1) (c4 : dn.length = j) (c5 : dn ++ cGo base dep ks (ks.drop j) j st = cGo base dep ks ks 0 ⟨[⟨base, none, false⟩], 0, 0, 0⟩) : ExI H a base dep s d en pr lv cl D ks j ls H'
set_option maxHeartbeats 4000000 in
theorem r_explicit0 {a base dep : Nat} {ks : List Nat} (ha : H[a]? = some (.list (svs ks))) (hl : ks.length ≤ 100)
    (q : ∀ r lv cl H', Keep [] H H' → H'[r]? = some (.tup [.ref lv, .ref cl]) → H'[lv]? = some (.list ((cGo base dep ks ks 0 ⟨[⟨base, none, false⟩], 0, 0, 0⟩).map (·.1))) → H'[cl]? = some (.list ((cGo base dep ks ks 0 ⟨[⟨base, none, false⟩], 0, 0, 0⟩).map (·.2))) → Q (.ref r) H') :
    X (exs (thePI sc) (run (thePI sc) 200 (n + 3)) 200 b_explicit [.ref a, .int base, .int dep, .unb, .unb, .unb, .unb, .unb, .unb, .unb, .unb, .unb] H) (Iv fun _ H' => Q .none H') (Rv Q) := by
  dsimp only [b_explicit]
  walk_at "ms"
  refine r_stack ?_
  intro s d en H1 k1 hs hd hen hS
  have ha1 := k1.get _ _ (by simp) ha
  walk_at "ms"
  refine r_isolate_pairs ha1 (by lia) ?_
  intro pr H2 hpr k2 hp2
  have hS2 := hS.keep0 k2
  have ha2 := k2.get _ _ (by simp) ha1
  have k3 := k1.tr k2
  walk_at "ms"
  simp only [List.set_cons_succ, List.set_cons_zero]
  have hx : ExS H s d en dep pr H2.length (H2 ++ [AO.list []]).length (dictGo [] (mach ks 0 [])) ⟨[⟨base, none, false⟩], 0, 0, 0⟩ [] [] (H2 ++ [AO.list []] ++ [AO.list []]) :=
    ⟨k3.more.more, (hS2.keep0 Keep.app).keep0 Keep.app, at_app (at_app hp2), at_app at_new, at_new⟩
  have hlt : en < H2.length := by obtain ⟨xs, h, _⟩ := hS2.ents; exact at_lt h
  have hk3 := k3.len
  have N : ExN H.length s d en H2.length (H2 ++ [AO.list []]).length := ⟨hd, hen, by lia, by simp; lia, by simp, by lia, by simp; lia⟩
  have ha3 : (H2 ++ [AO.list []] ++ [AO.list []])[a]? = some (.list (svs ks)) := at_app (at_app ha2)
  generalize H2.length = lv at *
  generalize (H2 ++ [AO.list []]).length = cl at *
  generalize H2 ++ [AO.list []] ++ [AO.list []] = H3 at *
  refine X_fr (ExI H a base dep s d en pr lv cl (dictGo [] (mach ks 0 [])) ks) ?_
  walk_at "ms"
  refine w_enum ha3 ?_
  refine ⟨?_, ?_, ?_, ?_⟩
  · exact ⟨_, _, _, _, _, _, [], rfl, hx, ⟨[], rfl, rfl⟩, by simp, rfl, rfl⟩
  · rintro j ls H' hj ⟨x7, x8, x9, x10, x11, st, dn, rfl, hE, hI, h1, h2, h3⟩
    exact kept_at (hE.keep.get _ _ (by simp) ha)
  · rintro j it ls H' hj ⟨x7, x8, x9, x10, x11, st, dn, rfl, hE, hI, h1, h2, h3⟩
    obtain ⟨k, hkj, rfl⟩ := enum_get hj
    refine ⟨rfl, ?_⟩
    have hjl := (List.getElem?_eq_some_iff.mp hkj).1
    rw [List.drop_eq_getElem_cons hjl, (List.getElem?_eq_some_iff.mp hkj).2, cGo] at h3
    have hn := inv_next (dep := dep) (ks := ks) (at_ := j) (k := k) hI
    obtain ⟨⟨n1, n2, n3⟩, ⟨n4, n5, n6⟩, n7, n8⟩ := hE.ne
    have g1 := hE.stk.inst
    have g2 := hE.stk.attrs
    have g3 := hE.lv
    have g4 := hE.cl
    have g5 := hE.pr
    have n9 := N.lvcl
    -- how a turn ends
    have fin : ∀ (x y z : AV) (H'' : Hp) (o1 o2 : AV), ExS H s d en dep pr lv cl (dictGo [] (mach ks 0 [])) (cNext dep ks j k st) (dn.map (·.1) ++ [o1]) (dn.map (·.2) ++ [o2]) H'' → cOut base k st = (o1, o2) →
        ExI H a base dep s d en pr lv cl (dictGo [] (mach ks 0 [])) ks (j + 1) [.ref a, .int base, .int dep, .ref s, .ref pr, .ref lv, .ref cl, .int j, .str k, x, y, z] H'' := by
      intro x y z H'' o1 o2 hE' ho
      refine ⟨_, _, _, _, _, cNext dep ks j k st, dn ++ [(o1, o2)], rfl, by simpa using hE', hn.1, by lia, by simp [h2], ?_⟩
      rw [← h3, ho]; simp
    simp only [setAll, List.set_cons_succ, List.set_cons_zero]
    walk_at "ms"
    refine ⟨fun hr => ?_, fun hr => ?_⟩
    · have hE2 := (hE.putLv N .none).putCl N (.str 14)
      have ho : cOut base k st = (.none, .str 14) := by rw [cOut, if_pos hr]
      walk_at "ms"
      refine ⟨fun he => ?_, fun he => ?_⟩
      · have hk : k = 11 ∨ k = 3 ∨ k = 6 ∨ k = 12 := by
          simp only [embs, Bool.or_eq_true, decide_eq_true_eq] at he; exact or4 he
        rcases hk with rfl | rfl | rfl | rfl
        · have hc : cNext dep ks j 11 st = cEmbed dep true none st := rfl
          rw [hc] at fin
          walk_at "mc"
          refine r_embed (r := true) (o := none) hE2.stk hI.ne (by lia) ?_
          intro H4 k4 hS4
          walk_at "ms"
          exact fin _ _ _ _ _ _ (hE2.stkTo N k4 hS4) ho
        · have hc : cNext dep ks j 3 st = cEmbed dep false none st := rfl
          rw [hc] at fin
          walk_at "mc"
          refine r_embed (r := false) (o := none) hE2.stk hI.ne (by lia) ?_
          intro H4 k4 hS4
          walk_at "ms"
          exact fin _ _ _ _ _ _ (hE2.stkTo N k4 hS4) ho
        · have hc : cNext dep ks j 6 st = cEmbed dep true (some 4) st := rfl
          rw [hc] at fin
          walk_at "mc"
          refine r_embed (r := true) (o := (some 4)) hE2.stk hI.ne (by lia) ?_
          intro H4 k4 hS4
          walk_at "ms"
          exact fin _ _ _ _ _ _ (hE2.stkTo N k4 hS4) ho
        · have hc : cNext dep ks j 12 st = cEmbed dep false (some 2) st := rfl
          rw [hc] at fin
          walk_at "mc"
          refine r_embed (r := false) (o := (some 2)) hE2.stk hI.ne (by lia) ?_
          intro H4 k4 hS4
          walk_at "ms"
          exact fin _ _ _ _ _ _ (hE2.stkTo N k4 hS4) ho
      · walk_at "ms"
        refine ⟨fun h5 => ?_, fun h5 => ?_⟩
        · have h5 : k = 1 := of_decide_eq_true h5
          have hc : cNext dep ks j k st = cEndEmb st := by rw [cNext, if_neg (by rw [he]; decide), if_pos h5]
          rw [hc] at fin
          walk_at "ms"
          refine r_end_embedding hE2.stk hI.ne (by lia) ?_
          intro H4 k4 hS4
          walk_at "ms"
          exact fin _ _ _ _ _ _ (hE2.stkTo N k4 hS4) ho
        · have h5 : ¬ k = 1 := of_decide_eq_false h5
          have hk : k = 14 := by
            rcases removed_cases k hr with h | h | h
            · rw [he] at h; cases h.1
            · exact absurd h.2 h5
            · exact h.2
          have hc : cNext dep ks j k st = st := by rw [hk]; rfl
          rw [hc] at fin
          walk_at "ms"
          exact fin _ _ _ _ _ _ hE2 ho
    · obtain ⟨he', he1, he14⟩ := not_removed k hr
      walk_at "ms"
      refine ⟨fun h5 => ?_, fun h5 => ?_⟩
      · have h5 : k = 16 := of_decide_eq_true h5
        subst h5
        have hE2 := (hE.putLv N (.int base)).putCl N (.str 16)
        walk_at "ms"
        exact fin _ _ _ _ _ _ hE2 rfl
      · have h16 : ¬ k = 16 := of_decide_eq_false h5
        have rest : ∀ (H1 : Hp) (st1 : Stk) (x9 x10 x11 : AV), ExS H s d en dep pr lv cl (dictGo [] (mach ks 0 [])) st1 (dn.map (·.1)) (dn.map (·.2)) H1 → Inv base st1 → st1.es.length ≤ j + 2 → st1 = (if k = 5 then cEndIso st else st) →
            X (exs (thePI sc) (run (thePI sc) 200 (n + 3)) 200 exTail [.ref a, .int base, .int dep, .ref s, .ref pr, .ref lv, .ref cl, .int j, .str k, x9, x10, x11] H1) (Iv (ExI H a base dep s d en pr lv cl (dictGo [] (mach ks 0 [])) ks (j + 1))) (Rv Q) := by
          intro H1 st1 x9 x10 x11 hE1 hI1 hl1 hst1
          obtain ⟨⟨n1, n2, n3⟩, ⟨n4, n5, n6⟩, n7, n8⟩ := hE1.ne
          have g1 := hE1.stk.inst
          have g2 := hE1.stk.attrs
          have g3 := hE1.lv
          have g4 := hE1.cl
          have g5 := hE1.pr
          obtain ⟨e, es, he⟩ := List.exists_cons_of_ne_nil hI1.ne
          have ht : top st1 = e := by simp [top, he]
          have ho : cOut base k st = (.int e.lv, .str (e.ov.getD k)) := by
            rw [cOut, if_neg (by rw [hr]; decide), if_neg h16, ← hst1, ht]
          have hE2 := (hE1.putLv N (.int e.lv)).putCl N (.str (e.ov.getD k))
          unfold exTail
          walk_at "ms"
          refine r_last hE1.stk he (by lia) ?_
          rintro x ⟨dx, e1, e2⟩
          have n10 : lv ≠ x := by rintro rfl; rw [g3] at e1; cases e1
          have n11 : lv ≠ dx := by rintro rfl; rw [g3] at e2; cases e2
          walk_at "ms"
          have tail : X (exs (thePI sc) (run (thePI sc) 200 (n + 3)) 200 [(.iff (.cmp .inn (.loc 8) (.glob 22)) [(.ex (.um 61 (.loc 3) [(.call 60 [(.loc 0), (.loc 7), (.loc 4)])]))] [])]
              [.ref a, .int base, .int dep, .ref s, .ref pr, .ref lv, .ref cl, .int j, .str k, x9, x10, .ref x] ((H1.set lv (.list (dn.map (·.1) ++ [.int e.lv]))).set cl (.list (dn.map (·.2) ++ [.str (e.ov.getD k)]))))
              (Iv (ExI H a base dep s d en pr lv cl (dictGo [] (mach ks 0 [])) ks (j + 1))) (Rv Q) := by
            have ha4 := hE2.keep.get _ _ (by simp) ha
            have g6 := hE2.pr
            have g7 := hE2.stk.inst
            have g8 := hE2.stk.attrs
            generalize (H1.set lv (.list (dn.map (·.1) ++ [.int e.lv]))).set cl (.list (dn.map (·.2) ++ [.str (e.ov.getD k)])) = H5 at *
            walk_at "ms"
            refine ⟨fun hop => ?_, fun hop => ?_⟩
            · obtain ⟨h5, _, _⟩ := opens_ne hop
              rw [if_neg h5] at hst1
              subst hst1
              have hc : cNext dep ks j k st1 = cIso dep (isRight ks j) st1 := by rw [cNext, if_neg (by rw [he']; decide), if_neg he1, if_neg h5, if_pos hop]
              rw [hc] at fin
              walk_at "ms"
              refine r_is_right ha4 g6 (by lia) (pairsOk_mach ks) hjl ?_
              walk_at "ms"
              refine r_isolate hE2.stk hI1.ne (by lia) ?_
              intro H4 k4 hS4
              walk_at "ms"
              exact fin _ _ _ _ _ _ (hE2.stkTo N k4 hS4) ho
            · walk_at "ms"
              have hc : cNext dep ks j k st = st1 := by
                rw [hst1, cNext, if_neg (by rw [he']; decide), if_neg he1]
                split
                · rfl
                · rw [if_neg (by rw [hop]; decide)]
              rw [hc] at fin
              exact fin _ _ _ _ _ _ hE2 ho
          cases hov : e.ov with
          | none =>
            rw [hov] at tail
            refine Br.of_f rfl ?_
            walk_at "m"
            walk_at "m"
            walk_at "m"
            exact tail.go
          | some c =>
            rw [hov] at tail
            refine Br.of_t rfl ?_
            walk_at "m"
            walk_at "m"
            walk_at "m"
            walk_at "m"
            walk_at "m"
            rw [hov]
            exact tail.go
        walk_at "ms"
        refine ⟨fun h5 => ?_, fun h5 => ?_⟩
        · have h5 : k = 5 := of_decide_eq_true h5
          walk_at "ms"
          refine r_end_isolate hE.stk hI.iso (by lia) ?_
          intro H4 k4 hS4
          have hc : cNext dep ks j k st = cEndIso st := by rw [cNext, if_neg (by rw [he']; decide), if_neg he1, if_pos h5]
          rw [hc] at hn
          have := rest H4 (cEndIso st) x9 x10 x11 (hE.stkTo N k4 hS4) hn.1 (by lia) (by rw [if_pos h5])
          exact this.go
        · have h5 : ¬ k = 5 := of_decide_eq_false h5
          have := rest H' st x9 x10 x11 hE hI (by lia) (by rw [if_neg h5])
          exact this.go
  · rintro ls H' ⟨x7, x8, x9, x10, x11, st, dn, rfl, hE, hI, h1, h2, h3⟩
    rw [List.drop_of_length_le (by simp [svs])] at h3
    have g3 := hE.lv
    have g4 := hE.cl
    walk_at "ms"
    rw [← h3] at q
    refine q _ lv cl _ hE.keep.more at_new ?_ ?_
    · simpa [cGo] using at_app g3
    · simpa [cGo] using at_app g4
end
end Mine
end
-- V15
section
set_option tactic.hygienic false
namespace Mine
structure Frm where
  lv : Nat
  ov : Option Nat
  iso : Bool
  void : Bool
def FrAt (H : Hp) (x : Nat) (f : Frm) : Prop := H[x]? = some (.tup [.int f.lv, .str (f.ov.getD 17), .bool f.iso, .bool f.void])
noncomputable def FrsAt (H : Hp) : List Nat → List Frm → Prop
  | [], [] => True
  | x :: xs, f :: fs => FrAt H x f ∧ FrsAt H xs fs
  | _, _ => False
theorem FrsAt.len {H : Hp} : ∀ {xs : List Nat} {fs : List Frm}, FrsAt H xs fs → xs.length = fs.length
  | [], [], _ => rfl
  | _ :: _, _ :: _, h => by simp [FrsAt.len h.2]
  | [], _ :: _, h => h.elim
  | _ :: _, [], h => h.elim
theorem FrsAt.keep {H H' : Hp} {Y : List Nat} (k : Keep Y H H') (hy : ∀ y ∈ Y, ∀ xs, H[y]? ≠ some (.tup xs)) : ∀ {xs : List Nat} {fs : List Frm}, FrsAt H xs fs → FrsAt H' xs fs
  | [], [], _ => trivial
  | x :: _, _ :: _, h => ⟨k.get _ _ (fun m => hy x m _ h.1) h.1, FrsAt.keep k hy h.2⟩
  | [], _ :: _, h => h.elim
  | _ :: _, [], h => h.elim
theorem FrsAt.get {H : Hp} : ∀ {xs : List Nat} {fs : List Frm} {j x : Nat}, FrsAt H xs fs → xs[j]? = some x → ∃ f, fs[j]? = some f ∧ FrAt H x f
  | x :: _, f :: _, 0, _, h, e => by cases e; exact ⟨f, rfl, h.1⟩
  | _ :: xs, _ :: fs, j + 1, x, h, e => by
    obtain ⟨f, h1, h2⟩ := FrsAt.get (xs := xs) (fs := fs) (j := j) (x := x) h.2 (by simpa using e)
    exact ⟨f, by simpa using h1, h2⟩
  | [], [], _, _, _, e => by simp at e
  | [], _ :: _, _, _, h, _ => h.elim
  | _ :: _, [], _, _, h, _ => h.elim
theorem FrsAt.drop {H : Hp} : ∀ (n : Nat) {xs : List Nat} {fs : List Frm}, FrsAt H xs fs → FrsAt H (xs.drop n) (fs.drop n)
  | 0, _, _, h => h
  | _ + 1, [], [], _ => trivial
  | n + 1, _ :: _, _ :: _, h => FrsAt.drop n h.2
  | _ + 1, [], _ :: _, h => h.elim
  | _ + 1, _ :: _, [], h => h.elim
noncomputable def lawNow (base : Nat) (fs : List Frm) : Nat × Option Nat := match fs with
  | [] => (base, none)
  | f :: r => if f.void = false then (f.lv, f.ov) else lawNow base r
noncomputable def lawFresh (lv : Nat) (r : Bool) : Nat := if decide (lv % 2 = 0) = r then lv + 1 else lv + 2
noncomputable def topVoid : List Frm → Bool
  | [] => false
  | f :: _ => f.void
noncomputable def lawFrame (fs : List Frm) (lv : Nat) (r : Bool) (dep : Nat) (ov : Option Nat) (iso : Bool) : Frm := ⟨lawFresh lv r, ov, iso, decide (lawFresh lv r > dep) || topVoid fs⟩
theorem seqr_get {xs : List Nat} {j : Nat} {it : List AV} (h : ((xs.map AV.ref).map fun x => [x])[j]? = some it) : ∃ x, xs[j]? = some x ∧ it = [.ref x] := by
  simp only [List.getElem?_map, Option.map_map, Option.map_eq_some_iff] at h
  obtain ⟨k, h1, rfl⟩ := h
  exact ⟨k, h1, rfl⟩
section
variable {sc : List Int} {n : Nat} {H : Hp} {Q : AV → Hp → Prop}
inductive LnI (H : Hp) (fr base : Nat) (xs : List Nat) (fs : List Frm) (j : Nat) (ls : List AV) (H' : Hp) : Prop
  | mk (x2 : AV) (c0 : ls = [.ref fr, .int base, x2]) (c1 : Keep [] H H') (c2 : H'[H.length]? = some (.list (xs.map .ref))) (c3 : lawNow base (fs.drop j) = lawNow base fs) : LnI H fr base xs fs j ls H'
theorem r_law_now {fr base : Nat} {xs : List Nat} {fs : List Frm} (hf : H[fr]? = some (.list (refs xs))) (hx : FrsAt H xs fs) (hl : xs.length ≤ 1000)
    (q : ∀ r H', Keep [] H H' → H'[r]? = some (.tup [.int (lawNow base fs).1, .str ((lawNow base fs).2.getD 17)]) → Q (.ref r) H') : T (run (thePI sc) 200 (n + 1) 140 [.ref fr, .int base] H) Q := by
  refine T_fn (ls := [.ref fr, .int base, .unb]) rfl rfl ?_
  dsimp only [b__law_now]
  walk_at "ms"
  refine X_fr (LnI H fr base xs fs) ?_
  walk_at "ms"
  refine s_rev (ob_ref hf) (by rw [refs_len]; lia) ?_
  rw [show (refs xs).reverse = xs.map .ref by simp [refs]]
  walk_at "ms"
  refine w_seqL at_new ?_
  refine ⟨?_, ?_, ?_, ?_⟩
  · exact ⟨_, rfl, Keep.app, at_new, rfl⟩
  · rintro j ls H' hj ⟨x2, rfl, hk, h1, h2⟩; exact kept_at h1
  · rintro j it ls H' hj ⟨x2, rfl, hk, h1, h2⟩
    obtain ⟨x, hxj, rfl⟩ := seqr_get hj
    refine ⟨rfl, ?_⟩
    obtain ⟨f, hfj, hF⟩ := hx.get hxj
    have hF' : H'[x]? = some (.tup [.int f.lv, .str (f.ov.getD 17), .bool f.iso, .bool f.void]) := hk.get _ _ (by simp) hF
    have hjl := (List.getElem?_eq_some_iff.mp hfj).1
    rw [List.drop_eq_getElem_cons hjl, (List.getElem?_eq_some_iff.mp hfj).2, lawNow] at h2
    simp only [setAll, List.set_cons_succ, List.set_cons_zero]
    walk_at "ms"
    refine ⟨fun h => ?_, fun h => ?_⟩
    · rw [if_pos (by simpa using h)] at h2
      walk_at "ms"
      rw [← h2] at q
      exact q _ _ hk.more at_new
    · rw [if_neg (by simpa using h)] at h2
      walk_at "ms"
      exact ⟨_, rfl, hk, h1, h2⟩
  · rintro ls H' ⟨x2, rfl, hk, h1, h2⟩
    rw [List.drop_of_length_le (by simp [hx.len])] at h2
    walk_at "ms"
    rw [← h2] at q
    exact q _ _ hk.more at_new
theorem r_law_frame {fr lv dep : Nat} {r iso : Bool} {ov : Option Nat} {xs : List Nat} {fs : List Frm} (hf : H[fr]? = some (.list (refs xs))) (hx : FrsAt H xs fs) (hl : xs.length ≤ 1000)
    (q : ∀ x H', Keep [] H H' → H.length ≤ x → FrAt H' x (lawFrame fs lv r dep ov iso) → Q (.ref x) H') : T (run (thePI sc) 200 (n + 1) 141 [.ref fr, .int lv, .bool r, .int dep, .str (ov.getD 17), .bool iso] H) Q := by
  refine T_fn (ls := [.ref fr, .int lv, .bool r, .int dep, .str (ov.getD 17), .bool iso, .unb]) rfl rfl ?_
  dsimp only [b__law_frame]
  walk_at "ms"
  rw [fmod2]
  have e1 : decide (((lv % 2 : Nat) : Int) = 0) = decide (lv % 2 = 0) := decide_eq_decide.mpr ⟨Int.ofNat.inj, congrArg Int.ofNat⟩
  rw [e1]
  have tail : X (exs (thePI sc) (run (thePI sc) 200 n) 200 [(.ret (.tup [(.loc 6), (.loc 4), (.loc 5), (.or (.cmp .gt (.loc 6) (.loc 3)) (.and (.cmp .ne (.loc 0) (.list [])) (.idx (.idx (.loc 0) (.lit (.int (-1)))) (.lit (.int 3)))))]))]
      [.ref fr, .int lv, .bool r, .int dep, .str (ov.getD 17), .bool iso, .int (lawFresh lv r)] H) (Iv fun _ H' => Q .none H') (Rv Q) := by
    have q' : ∀ H', Keep [] H H' → Q (.ref H'.length) (H' ++ [.tup [.int (lawFresh lv r), .str (ov.getD 17), .bool iso, .bool (decide (lawFresh lv r > dep) || topVoid fs)]]) :=
      fun H' k => q _ _ k.more k.len at_new
    walk_at "ms"
    refine T_or ?_
    walk_at "ms"
    refine ⟨fun h => ?_, fun h => ?_⟩
    · have h : lawFresh lv r > dep := by simpa using h
      rw [decide_eq_true h, Bool.true_or] at q'
      walk_at "ms"
      exact q' _ Keep.refl
    · have h : ¬ lawFresh lv r > dep := by simpa using h
      rw [decide_eq_false h, Bool.false_or] at q'
      refine T_and ?_
      walk_at "ms"
      have hlx := hx.len
      cases xs with
      | nil =>
        cases fs with
        | cons _ _ => exact hx.elim
        | nil =>
          refine ⟨fun h2 => by simp [refs] at h2, fun h2 => ?_⟩
          walk_at "ms"
          exact q' _ Keep.app
      | cons x xs =>
        cases fs with
        | nil => exact hx.elim
        | cons f fs =>
          have hF : H[x]? = some (.tup [.int f.lv, .str (f.ov.getD 17), .bool f.iso, .bool f.void]) := hx.1
          refine ⟨fun h2 => ?_, fun h2 => by simp [refs] at h2⟩
          walk_at "ms"
          refine i_last (ob_ref (at_app hf)) (by rw [refs_len]; lia) (by rw [refs_cons]; exact List.getLast?_concat) ?_
          walk_at "ms"
          exact q' _ Keep.app
  unfold lawFresh at tail
  refine ⟨fun h => ?_, fun h => ?_⟩
  · rw [if_pos (of_decide_eq_true h)] at tail
    refine (b_add ?_ : TO _ _)
    exact tail.go
  · rw [if_neg (of_decide_eq_false h)] at tail
    refine (b_add ?_ : TO _ _)
    exact tail.go
end
end Mine
end
-- V16
section
set_option tactic.hygienic false
namespace Mine
noncomputable def lawCut (fs : List Frm) : List Frm := if fs.any (fun f => f.iso) = true then (fs.dropWhile fun f => !f.iso).tail else fs
noncomputable def lawPop : List Frm → List Frm
  | [] => []
  | f :: r => if f.iso = false then r else f :: r
noncomputable def lNext (base dep : Nat) (ks : List Nat) (at_ k : Nat) (gs : List Frm) : List Frm :=
  if embs k = true then lawFrame gs (lawNow base gs).1 (decide (k = 11 ∨ k = 6)) dep (emO k) false :: gs
  else if opens k = true then lawFrame gs (lawNow base gs).1 (isRight ks at_) dep none true :: gs
  else if k = 5 then lawCut gs else if k = 1 then lawPop gs else gs
noncomputable def lOut (base k : Nat) (gs : List Frm) : AV × AV :=
  if removed k = true then (.none, .str 14) else if k = 16 then (.int base, .str 16) else
    let e := lawNow base (if k = 5 then lawCut gs else gs)
    (.int e.1, .str (e.2.getD k))
noncomputable def lGo (base dep : Nat) (ks : List Nat) : List Nat → Nat → List Frm → List (AV × AV)
  | [], _, _ => []
  | k :: r, at_, gs => lOut base k gs :: lGo base dep ks r (at_ + 1) (lNext base dep ks at_ k gs)
structure LxS (H : Hp) (fr lv cl : Nat) (xs : List Nat) (gs : List Frm) (A B : List AV) (H' : Hp) : Prop where
  keep : Keep [] H H'
  fr0 : H.length ≤ fr
  ne1 : fr ≠ lv
  ne2 : fr ≠ cl
  frs : H'[fr]? = some (.list (refs xs))
  ats : FrsAt H' xs gs
  lvs : H'[lv]? = some (.list A)
  cls : H'[cl]? = some (.list B)
structure LxN (n0 lv cl : Nat) : Prop where
  lv0 : n0 ≤ lv
  cl0 : n0 ≤ cl
  ne : lv ≠ cl
section
variable {H H' H2 : Hp} {fr lv cl : Nat} {xs : List Nat} {gs : List Frm} {A B : List AV}
theorem LxS.keep0 (h : LxS H fr lv cl xs gs A B H') (k : Keep [] H' H2) : LxS H fr lv cl xs gs A B H2 :=
  ⟨h.keep.tr k, h.fr0, h.ne1, h.ne2, k.get _ _ (by simp) h.frs, h.ats.keep k (by simp), k.get _ _ (by simp) h.lvs, k.get _ _ (by simp) h.cls⟩
theorem LxS.push {x : Nat} {f : Frm} (h : LxS H fr lv cl xs gs A B H') (hf : FrAt H' x f) : LxS H fr lv cl (x :: xs) (f :: gs) A B (H'.set fr (.list (refs xs ++ [.ref x]))) := by
  have hy : ∀ y ∈ [fr], ∀ ys, H'[y]? ≠ some (.tup ys) := by
    intro y m ys e; simp at m; subst m; rw [h.frs] at e; cases e
  have k : Keep [fr] H' (H'.set fr (.list (refs xs ++ [.ref x]))) := Keep.set (by simp)
  refine ⟨h.keep.put (.inr h.fr0), h.fr0, h.ne1, h.ne2, ?_, ⟨?_, h.ats.keep k hy⟩, at_ne h.ne1 h.lvs, at_ne h.ne2 h.cls⟩
  · rw [refs_cons]; exact at_set h.frs
  · exact k.get _ _ (fun m => hy x m _ hf) hf
theorem LxS.pop {x : Nat} {f : Frm} (h : LxS H fr lv cl (x :: xs) (f :: gs) A B H') : LxS H fr lv cl xs gs A B (H'.set fr (.list (refs (x :: xs)).dropLast)) := by
  have hy : ∀ y ∈ [fr], ∀ ys, H'[y]? ≠ some (.tup ys) := by
    intro y m ys e; simp at m; subst m; rw [h.frs] at e; cases e
  have k : Keep [fr] H' (H'.set fr (.list (refs (x :: xs)).dropLast)) := Keep.set (by simp)
  refine ⟨h.keep.put (.inr h.fr0), h.fr0, h.ne1, h.ne2, ?_, h.ats.2.keep k hy, at_ne h.ne1 h.lvs, at_ne h.ne2 h.cls⟩
  rw [at_set h.frs, refs_cons, List.dropLast_concat]
theorem LxS.putLv (h : LxS H fr lv cl xs gs A B H') (N : LxN H.length lv cl) (x : AV) : LxS H fr lv cl xs gs (A ++ [x]) B (H'.set lv (.list (A ++ [x]))) := by
  have hy : ∀ y ∈ [lv], ∀ ys, H'[y]? ≠ some (.tup ys) := by
    intro y m ys e; simp at m; subst m; rw [h.lvs] at e; cases e
  exact ⟨h.keep.put (.inr N.lv0), h.fr0, h.ne1, h.ne2, at_ne (Ne.symm h.ne1) h.frs, h.ats.keep (Y := [lv]) (Keep.set (by simp)) hy, at_set h.lvs, at_ne N.ne h.cls⟩
theorem LxS.putCl (h : LxS H fr lv cl xs gs A B H') (N : LxN H.length lv cl) (x : AV) : LxS H fr lv cl xs gs A (B ++ [x]) (H'.set cl (.list (B ++ [x]))) := by
  have hy : ∀ y ∈ [cl], ∀ ys, H'[y]? ≠ some (.tup ys) := by
    intro y m ys e; simp at m; subst m; rw [h.cls] at e; cases e
  exact ⟨h.keep.put (.inr N.cl0), h.fr0, h.ne1, h.ne2, at_ne (Ne.symm h.ne2) h.frs, h.ats.keep (Y := [cl]) (Keep.set (by simp)) hy, at_ne (Ne.symm N.ne) h.lvs, at_set h.cls⟩
/-- the frames are a new list -/
theorem LxS.anew {ys : List Nat} {hs : List Frm} (h : LxS H fr lv cl xs gs A B H') (hx : FrsAt H' ys hs) : LxS H H'.length lv cl ys hs A B (H' ++ [.list (refs ys)]) := by
  have h1 := at_lt h.lvs
  have h2 := at_lt h.cls
  have h3 := h.keep.len
  exact ⟨h.keep.more, h3, by omega, by omega, at_new, hx.keep (Y := []) Keep.app (by simp), at_app h.lvs, at_app h.cls⟩
end
theorem c_inRAo {sc : List Int} {H : Hp} {K : Bool → Prop} {u : AV} {o : Option Nat} (h : obj (thePI sc) H u = some (.tup [.str 4, .str 9])) (q : K (rightsO o)) : C (evCmp (thePI sc) .inn (oS o) u H) K := by
  cases o with
  | none => exact c_inTN h rfl q
  | some k => exact c_inRA h q
/-- where the isolates lie, counted from below -/
noncomputable def spots : List Frm → List Nat
  | [] => []
  | f :: gs => spots gs ++ (if f.iso = true then [gs.length] else [])
theorem spots_lt : ∀ {gs : List Frm} {i : Nat}, i ∈ spots gs → i < gs.length
  | f :: gs, i, h => by
    rw [spots, List.mem_append] at h
    rcases h with h | h
    · have := spots_lt h; simp; omega
    · split at h <;> simp at h; simp; omega
theorem spots_nil {gs : List Frm} : spots gs = [] ↔ gs.any (fun f => f.iso) = false := by
  induction gs with
  | nil => simp [spots]
  | cons f gs ih =>
    rw [spots, List.append_eq_nil_iff, ih, List.any_cons, Bool.or_eq_false_iff]
    cases h : f.iso <;> simp
theorem spots_last : ∀ {gs : List Frm} {i : Nat}, (spots gs).getLast? = some i → gs.length - i ≤ gs.length ∧ gs.drop (gs.length - i) = (gs.dropWhile fun f => !f.iso).tail
  | [], i, h => by simp [spots] at h
  | f :: gs, i, h => by
    rw [spots] at h
    cases hi : f.iso with
    | true =>
      rw [hi, if_pos rfl, List.getLast?_concat] at h
      cases h
      simp [hi]
    | false =>
      rw [hi, if_neg (by decide), List.append_nil] at h
      have hl := spots_lt (List.mem_of_getLast? h)
      obtain ⟨_, h2⟩ := spots_last h
      refine ⟨by simp, ?_⟩
      rw [List.length_cons, show gs.length + 1 - i = (gs.length - i) + 1 by omega, List.drop_succ_cons, h2, List.dropWhile_cons, if_pos (by simp [hi])]
section
variable {sc : List Int} {n : Nat} {H : Hp} {Q : AV → Hp → Prop} {ls : List AV}
/-- the comprehension that seeks the isolates -/
theorem r_spots {fr : Nat} {xs : List Nat} {gs : List Frm} (hf : H[fr]? = some (.list (refs xs))) (hx : FrsAt H xs gs) (hl : xs.length ≤ 1000) (hls : ls[3]? = some (.ref fr))
    (q : Q (.ref H.length) (H ++ [.list (nvs (spots gs))])) : ev (thePI sc) (run (thePI sc) 200 n) (.comp [] .enum [(.loc 3)] 2 [(.idx (.loc 1) (.lit (.int 2)))] (.loc 0)) ls H Q := by
  refine T_comp (cs := []) rfl ?_
  refine locQ_o hls (by simp) ?_
  refine w_enum hf ⟨by simp [refs_len]; omega, ?_⟩
  have hlx := hx.len
  refine compL_rule (fun j acc H' => H' = H ∧ acc = nvs (spots (gs.drop (gs.length - j)))) cstep_go _ 0 [] H _ ⟨rfl, by simp [spots, nvs]⟩ ?_ ?_ ?_
  · rintro j acc H' hj ⟨rfl, _⟩; exact kept_at hf
  · rintro j it acc H' hj ⟨rfl, rfl⟩
    have hjl := (List.getElem?_eq_some_iff.mp hj).1
    simp [refs_len] at hjl
    have hxj : xs[xs.length - 1 - j]? = some xs[xs.length - 1 - j] := List.getElem?_eq_getElem (by omega)
    have hit : it = [.int (j : Int), .ref xs[xs.length - 1 - j]] := by
      simp only [List.getElem?_map, List.getElem?_zipIdx, Option.map_eq_some_iff] at hj
      obtain ⟨⟨x, m⟩, ⟨y, h1, h2⟩, rfl⟩ := hj
      cases h2
      simp only [refs] at h1
      rw [List.getElem?_reverse (by simpa using hjl), List.getElem?_map, List.length_map, hxj] at h1
      cases h1
      simp
    subst hit
    obtain ⟨f, hfj, hF⟩ := hx.get hxj
    have hF' : H'[xs[xs.length - 1 - j]]? = some (.tup [.int f.lv, .str (f.ov.getD 17), .bool f.iso, .bool f.void]) := hF
    have hd : gs.drop (gs.length - (0 + j + 1)) = f :: gs.drop (gs.length - (0 + j)) := by
      have hlt := (List.getElem?_eq_some_iff.mp hfj).1
      rw [show gs.length - (0 + j + 1) = xs.length - 1 - j by omega, List.drop_eq_getElem_cons hlt, (List.getElem?_eq_some_iff.mp hfj).2, show xs.length - 1 - j + 1 = gs.length - (0 + j) by omega]
    rw [hd, spots]
    refine ⟨rfl, ?_⟩
    walk_at "ms"
    have hlen : (gs.drop (gs.length - (0 + j))).length = j := by simp; omega
    refine ⟨fun h => ?_, fun h => ?_⟩
    · walk_at "ms"
      refine ⟨rfl, ?_⟩
      rw [h, if_pos rfl, hlen]
      simp [nvs]
    · refine ⟨rfl, ?_⟩
      rw [h]
      simp
  · rintro ws H' ⟨rfl, h⟩
    simp only [List.nil_append, List.length_map, List.length_zipIdx, refs_len, Nat.zero_add] at h
    rw [hlx, Nat.sub_self, List.drop_zero] at h
    rw [h]
    exact q
end
end Mine
end
-- V17
section
set_option tactic.hygienic false
namespace Mine
end Mine
end
open Mine
local macro_rules | `(tactic| walk_at "m") => do wkRules #[] ["c_inRAo:h"]
section
namespace Mine
section
variable {sc : List Int} {n : Nat} {H : Hp} {Q : AV → Hp → Prop}
inductive LxI (H : Hp) (a base dep lv cl : Nat) (ks : List Nat) (j : Nat) (ls : List AV) (H' : Hp) : Prop
  | mk (x6 x7 x8 x9 x10 x11 x12 : AV) (fr : Nat) (xs : List Nat) (gs : List Frm) (dn : List (AV × AV)) (c0 : ls = [.ref a, .int base, .int dep, .ref fr, .ref lv, .ref cl, x6, x7, x8, x9, x10, x11, x12]) (c1 : LxS H fr lv cl xs gs (dn.map (·.1)) (dn.map (·.2)) H') (c2 : (∀ f ∈ gs, f.ov ≠ some 17) ∧ gs.length ≤ j ∧ dn.length = j ∧ dn ++ lGo base dep ks (ks.drop j) j gs = lGo base dep ks ks 0 []) : LxI H a base dep lv cl ks j ls H'
theorem lawNow_ov {base : Nat} : ∀ {gs : List Frm}, (∀ f ∈ gs, f.ov ≠ some 17) → (lawNow base gs).2 ≠ some 17
  | [], _ => by simp [lawNow]
  | f :: gs, h => by
    rw [lawNow]; split
    · exact h f (by simp)
    · exact lawNow_ov fun x m => h x (List.mem_cons_of_mem _ m)
theorem lNext_ok {base dep : Nat} {ks : List Nat} {at_ k : Nat} {gs : List Frm} (h : ∀ f ∈ gs, f.ov ≠ some 17) : (∀ f ∈ lNext base dep ks at_ k gs, f.ov ≠ some 17) ∧ (lNext base dep ks at_ k gs).length ≤ gs.length + 1 := by
  unfold lNext
  split
  · refine ⟨fun f m => ?_, by simp⟩
    rcases List.mem_cons.mp m with rfl | m
    · simp only [lawFrame, emO]; split
      · split <;> simp
      · simp
    · exact h f m
  · split
    · refine ⟨fun f m => ?_, by simp⟩
      rcases List.mem_cons.mp m with rfl | m
      · simp [lawFrame]
      · exact h f m
    · split
      · unfold lawCut; split
        · refine ⟨fun f m => h f ((List.dropWhile_sublist _).subset (List.mem_of_mem_tail m)), ?_⟩
          have := (List.dropWhile_sublist (fun f : Frm => !f.iso) (l := gs)).length_le
          simp; lia
        · exact ⟨h, by simp⟩
      · split
        · cases gs with
          | nil => exact ⟨h, by simp [lawPop]⟩
          | cons f r =>
            rw [lawPop]; split
            · exact ⟨fun x m => h x (List.mem_cons_of_mem _ m), by simp; lia⟩
            · exact ⟨h, by simp⟩
        · exact ⟨h, by simp⟩
theorem spots_len : ∀ gs : List Frm, (spots gs).length ≤ gs.length
  | [] => by simp [spots]
  | f :: gs => by
    have := spots_len gs
    rw [spots]; split <;> simp <;> lia
theorem refs_take (xs : List Nat) (i : Nat) : (refs xs).take i = refs (xs.drop (xs.length - i)) := by
  simp only [refs]
  rw [List.take_reverse, List.length_map, List.map_drop]
theorem ovw {o : Option Nat} {k : Nat} (h : o ≠ some 17) : (if o.getD 17 = 17 then AV.str k else AV.str (o.getD 17)) = .str (o.getD k) := by
  cases o with
  | none => simp
  | some c =>
    have : c ≠ 17 := fun e => h (by rw [e])
    simp [this]
theorem lawCut_ov {gs : List Frm} (h : ∀ f ∈ gs, f.ov ≠ some 17) : ∀ f ∈ lawCut gs, f.ov ≠ some 17 := by
  unfold lawCut; split
  · exact fun f m => h f ((List.dropWhile_sublist _).subset (List.mem_of_mem_tail m))
  · exact h
@[irreducible] noncomputable def lxTail : List S := [(.ex (.bm .append (.loc 4) [(.loc 8)])), (.ex (.bm .append (.loc 5) [(.ite (.cmp .ne (.loc 9) (.lit (.str 17))) (.loc 9) (.loc 7))]))]
set_option maxHeartbeats 4000000 in
theorem emb_facts {k : Nat} (h : embs k = true) : ∃ c, firstT k = some c ∧ decide (c = 4) = decide (k = 11 ∨ k = 6) ∧ (valS (List.foldl (fun es kv => putS es kv.1 kv.2) [] ([6, 12].zip [AV.str 4, AV.str 2])) k).getD (.str 17) = .str ((emO k).getD 17) ∧ removed k = true := by
  simp only [embs, Bool.or_eq_true, decide_eq_true_eq] at h
  rcases or4 h with rfl | rfl | rfl | rfl
  · exact ⟨4, rfl, rfl, rfl, rfl⟩
  · exact ⟨2, rfl, rfl, rfl, rfl⟩
  · exact ⟨4, rfl, rfl, rfl, rfl⟩
  · exact ⟨2, rfl, rfl, rfl, rfl⟩
theorem r_law_explicit {a base dep : Nat} {ks : List Nat} (ha : H[a]? = some (.list (svs ks))) (hl : ks.length ≤ 100)
    (q : ∀ r lv cl H', Keep [] H H' → H'[r]? = some (.tup [.ref lv, .ref cl]) → H'[lv]? = some (.list ((lGo base dep ks ks 0 []).map (·.1))) → H'[cl]? = some (.list ((lGo base dep ks ks 0 []).map (·.2))) → Q (.ref r) H') :
    T (run (thePI sc) 200 (n + 3) 142 [.ref a, .int base, .int dep] H) Q := by
  refine T_fn (ls := [.ref a, .int base, .int dep, .unb, .unb, .unb, .unb, .unb, .unb, .unb, .unb, .unb, .unb]) rfl rfl ?_
  dsimp only [b__law_explicit]
  walk_at "ms"
  simp only [setAll, List.set_cons_succ, List.set_cons_zero]
  have hx : LxS H H.length (H ++ [AO.list []]).length (H ++ [AO.list []] ++ [AO.list []]).length [] [] [] [] (H ++ [AO.list []] ++ [AO.list []] ++ [AO.list []] ++ [AO.tup [.ref H.length, .ref (H ++ [AO.list []]).length, .ref (H ++ [AO.list []] ++ [AO.list []]).length]]) :=
    ⟨Keep.app.tr Keep.app |>.tr Keep.app |>.tr Keep.app, Nat.le_refl _, by simp, by simp, at_app (at_app (at_app at_new)), trivial, at_app (at_app at_new), at_app at_new⟩
  have N : LxN H.length (H ++ [AO.list []]).length (H ++ [AO.list []] ++ [AO.list []]).length := ⟨by simp, by simp, by simp⟩
  generalize (H ++ [AO.list []] ++ [AO.list []] ++ [AO.list []] ++ [AO.tup [.ref H.length, .ref (H ++ [AO.list []]).length, .ref (H ++ [AO.list []] ++ [AO.list []]).length]]) = H3 at *
  generalize (H ++ [AO.list []] ++ [AO.list []]).length = cl at *
  generalize (H ++ [AO.list []]).length = lv at *
  refine X_fr (LxI H a base dep lv cl ks) ?_
  walk_at "ms"
  refine w_enum (hx.keep.get _ _ (by simp) ha) ?_
  refine ⟨?_, ?_, ?_, ?_⟩
  · exact ⟨_, _, _, _, _, _, _, _, [], [], [], rfl, hx, by simp, by simp, rfl, rfl⟩
  · rintro j ls H' hj ⟨x6, x7, x8, x9, x10, x11, x12, fr, xs, gs, dn, rfl, hE, h0, h1, h2, h3⟩
    exact kept_at (hE.keep.get _ _ (by simp) ha)
  · rintro j it ls H' hj ⟨x6, x7, x8, x9, x10, x11, x12, fr, xs, gs, dn, rfl, hE, h0, h1, h2, h3⟩
    obtain ⟨k, hkj, rfl⟩ := enum_get hj
    refine ⟨rfl, ?_⟩
    have hjl := (List.getElem?_eq_some_iff.mp hkj).1
    rw [List.drop_eq_getElem_cons hjl, (List.getElem?_eq_some_iff.mp hkj).2, lGo] at h3
    obtain ⟨hn1, hn2⟩ := lNext_ok (base := base) (dep := dep) (ks := ks) (at_ := j) (k := k) h0
    have hlx := hE.ats.len
    -- how a turn ends
    have tail : ∀ (H1 : Hp) (fr1 : Nat) (xs1 : List Nat) (x10 x11 x12 o1 : AV) (w : Nat), o1 ≠ .unb → LxS H fr1 lv cl xs1 (lNext base dep ks j k gs) (dn.map (·.1)) (dn.map (·.2)) H1 → lOut base k gs = (o1, if w = 17 then .str k else .str w) →
        exs (thePI sc) (run (thePI sc) 200 (n + 2)) 200 lxTail [.ref a, .int base, .int dep, .ref fr1, .ref lv, .ref cl, .int j, .str k, o1, .str w, x10, x11, x12] H1 (Iv (LxI H a base dep lv cl ks (j + 1))) (Rv Q) := by
      intro H1 fr1 xs1 x10 x11 x12 o1 w hu hS ho
      have g1 := hS.lvs
      have g2 := hS.cls
      have g3 := N.ne
      have fin : ∀ o2 : AV, o2 = (if w = 17 then .str k else .str w) → LxI H a base dep lv cl ks (j + 1) [.ref a, .int base, .int dep, .ref fr1, .ref lv, .ref cl, .int j, .str k, o1, .str w, x10, x11, x12] ((H1.set lv (.list (dn.map (·.1) ++ [o1]))).set cl (.list (dn.map (·.2) ++ [o2]))) := by
        intro o2 e2
        refine ⟨_, _, _, _, _, _, _, fr1, xs1, lNext base dep ks j k gs, dn ++ [(o1, o2)], rfl, ?_, hn1, by lia, by simp [h2], ?_⟩
        · simpa using (hS.putLv N o1).putCl N o2
        · rw [← h3, ho, e2]; simp
      unfold lxTail
      walk_at "ms"
      refine ⟨fun h => ?_, fun h => ?_⟩
      · walk_at "ms"
        exact fin _ (by rw [if_neg (by simpa using h)])
      · walk_at "ms"
        exact fin _ (by rw [if_pos (by simpa using h)])
    simp only [setAll, List.set_cons_succ, List.set_cons_zero]
    with_unfolding_all show X (exs _ _ _ (_ :: _ :: lxTail) _ _) _ _
    walk_at "ms"
    refine r_law_now hE.frs hE.ats (by lia) ?_
    intro r H1 k1 hr
    have hE1 := hE.keep0 k1
    have g1 := hE1.frs
    walk_at "ms"
    refine ⟨fun he => ?_, fun he => ?_⟩
    · obtain ⟨c, f1, f2, f3, f4⟩ := emb_facts he
      have hE2 := hE1.keep0 (Keep.app (Z := [AO.tup [.str 11, .str 3, .str 6, .str 12]]))
      have hc : lNext base dep ks j k gs = lawFrame gs (lawNow base gs).1 (decide (k = 11 ∨ k = 6)) dep (emO k) false :: gs := by rw [lNext, if_pos he]
      rw [hc] at tail
      walk_at "ms"
      rw [f3]
      refine i_sign f1 ?_
      walk_at "ms"
      rw [f2]
      have hE3 := hE2.keep0 (Keep.app (Z := [AO.dictS (List.foldl (fun es kv => putS es kv.1 kv.2) [] ([6, 12].zip [AV.str 4, AV.str 2]))]))
      refine r_law_frame hE3.frs hE3.ats (by lia) ?_
      intro x H4 k4 hx4 hF
      have hE4 := hE3.keep0 k4
      have g4 := hE4.frs
      walk_at "ms"
      refine m_append g4 (by rw [refs_len]; lia) ?_
      walk_at "ms"
      exact tail _ _ _ _ _ _ _ _ (fun h => AV.noConfusion h) ((hE4.push hF).keep0 Keep.app) (by rw [lOut, if_pos f4]; rfl)
    · walk_at "ms"
      refine r_opens ?_
      walk_at "ms"
      have hE2 := (hE1.keep0 (Keep.app (Z := [AO.tup [.str 11, .str 3, .str 6, .str 12]]))).keep0 (Keep.app (Z := [AO.list [.str 7, .str 0, .str 8]]))
      have hcE : ¬ embs k = true := by rw [he]; decide
      generalize H1 ++ [AO.tup [AV.str 11, .str 3, .str 6, .str 12]] ++ [AO.list [AV.str 7, .str 0, .str 8]] = H5 at *
      refine ⟨fun ho => ?_, fun ho => ?_⟩
      · have hk : k = 7 ∨ k = 0 ∨ k = 8 := by
          simp only [opens, Bool.or_eq_true, decide_eq_true_eq] at ho; exact or3 ho
        have hc : lNext base dep ks j k gs = lawFrame gs (lawNow base gs).1 (isRight ks j) dep none true :: gs := by rw [lNext, if_neg hcE, if_pos ho]
        have hkd : ks[j]?.getD 0 = k := by rw [hkj]; rfl
        unfold isRight at hc
        rw [hkd] at hc
        have hw := ovw (k := k) (lawNow_ov (base := base) h0)
        have g2 := hE2.frs
        have ha5 := hE2.keep.get _ _ (by simp) ha
        have hlo : lOut base k gs = (.int (lawNow base gs).1, .str ((lawNow base gs).2.getD k)) := by
          rcases hk with rfl | rfl | rfl <;> rfl
        rw [← hw] at hlo
        rcases hk with rfl | rfl | rfl
        · rw [if_neg (by decide), show decide (7 = 0) = false from rfl] at hc
          rw [hc] at tail
          walk_at "mc"
          show T (run _ 200 (n + 2) 141 [.ref fr, .int ((lawNow base gs).1 : Nat), .bool false, .int dep, .str ((none : Option Nat).getD 17), .bool true] _) _
          have hE3 := hE2.keep0 (Keep.app (Z := [AO.tup [.str 4, .str 9]]))
          refine r_law_frame hE3.frs hE3.ats (by lia) ?_
          intro x H4 k4 hx4 hF
          have hE4 := hE3.keep0 k4
          walk_at "ms"
          refine m_append hE4.frs (by rw [refs_len]; lia) ?_
          walk_at "ms"
          exact tail _ _ _ _ _ _ _ _ (fun h => AV.noConfusion h) (hE4.push hF) hlo
        · rw [if_neg (by decide), show decide (0 = 0) = true from rfl] at hc
          rw [hc] at tail
          walk_at "mc"
          show T (run _ 200 (n + 2) 141 [.ref fr, .int ((lawNow base gs).1 : Nat), .bool true, .int dep, .str ((none : Option Nat).getD 17), .bool true] _) _
          have hE3 := hE2.keep0 (Keep.app (Z := [AO.tup [.str 4, .str 9]]))
          refine r_law_frame hE3.frs hE3.ats (by lia) ?_
          intro x H4 k4 hx4 hF
          have hE4 := hE3.keep0 k4
          walk_at "ms"
          refine m_append hE4.frs (by rw [refs_len]; lia) ?_
          walk_at "ms"
          exact tail _ _ _ _ _ _ _ _ (fun h => AV.noConfusion h) (hE4.push hF) hlo
        · rw [if_pos rfl] at hc
          rw [hc] at tail
          walk_at "mc"
          rw [show (j : Int) + 1 = ((j + 1 : Nat) : Int) by simp]
          refine r_law_first ha5 (by lia) ?_
          intro H6 k6
          have hE6 := hE2.keep0 k6
          have g6 := hE6.frs
          walk_at "ms"
          show T (run _ 200 (n + 2) 141 [.ref fr, .int ((lawNow base gs).1 : Nat), .bool _, .int dep, .str ((none : Option Nat).getD 17), .bool true] _) _
          have hE3 := hE6.keep0 (Keep.app (Z := [AO.tup [.str 4, .str 9]]))
          refine r_law_frame hE3.frs hE3.ats (by lia) ?_
          intro x H4 k4 hx4 hF
          have hE4 := hE3.keep0 k4
          walk_at "ms"
          refine m_append hE4.frs (by rw [refs_len]; lia) ?_
          walk_at "ms"
          exact tail _ _ _ _ _ _ _ _ (fun h => AV.noConfusion h) (hE4.push hF) hlo
      · have hcO : ¬ opens k = true := by rw [ho]; decide
        have g2 := hE2.frs
        walk_at "ms"
        refine ⟨fun h5 => ?_, fun h5 => ?_⟩
        · have h5 : k = 5 := of_decide_eq_true h5
          subst h5
          have hc : lNext base dep ks j 5 gs = lawCut gs := rfl
          rw [hc] at tail
          have hlo : lOut base 5 gs = (.int (lawNow base (lawCut gs)).1, .str ((lawNow base (lawCut gs)).2.getD 5)) := rfl
          rw [← ovw (lawNow_ov (base := base) (lawCut_ov h0))] at hlo
          have rest : ∀ (H6 : Hp) (fr6 : Nat) (ys : List Nat) (x10 x11 x12 o1 o2 : AV), LxS H fr6 lv cl ys (lawCut gs) (dn.map (·.1)) (dn.map (·.2)) H6 →
              exs (thePI sc) (run (thePI sc) 200 (n + 2)) 200 ((.asgT [8, 9] (.call 140 [(.loc 3), (.loc 1)])) :: lxTail) [.ref a, .int base, .int dep, .ref fr6, .ref lv, .ref cl, .int j, .str 5, o1, o2, x10, x11, x12] H6 (Iv (LxI H a base dep lv cl ks (j + 1))) (Rv Q) := by
            intro H6 fr6 ys x10 x11 x12 o1 o2 hE6
            have hly := hE6.ats.len
            have : (lawCut gs).length ≤ gs.length := by
              unfold lawCut; split
              · have := (List.dropWhile_sublist (fun f : Frm => !f.iso) (l := gs)).length_le
                simp; lia
              · exact Nat.le_refl _
            walk_at "ms"
            refine r_law_now hE6.frs hE6.ats (by lia) ?_
            intro r H7 k7 hr7
            have hE7 := hE6.keep0 k7
            walk_at "ms"
            exact tail _ _ _ _ _ _ _ _ (fun h => AV.noConfusion h) hE7 hlo
          refine r_spots hE2.frs hE2.ats (by lia) rfl ?_
          have hE6 := hE2.keep0 (Keep.app (Z := [AO.list (nvs (spots gs))]))
          have hE7 := hE6.keep0 (Keep.app (Z := [AO.list []]))
          have g6 := hE6.frs
          have gs1 : (H5 ++ [AO.list (nvs (spots gs))])[H5.length]? = some (AO.list (nvs (spots gs))) := at_new
          walk_at "ms"
          refine ⟨fun h6 => ?_, fun h6 => ?_⟩
          · have hne : spots gs ≠ [] := by
              intro e; rw [e] at h6; simp [nvs] at h6
            have hany : gs.any (fun f => f.iso) = true := by
              cases h : gs.any (fun f => f.iso) with
              | true => rfl
              | false => exact absurd (spots_nil.mpr h) hne
            obtain ⟨i, hi⟩ : ∃ i, (spots gs).getLast? = some i := ⟨_, List.getLast?_eq_some_getLast hne⟩
            obtain ⟨_, hd⟩ := spots_last hi
            have hil := spots_lt (List.mem_of_getLast? hi)
            have hcut : lawCut gs = gs.drop (gs.length - i) := by rw [lawCut, if_pos hany, hd]
            have hgl : (nvs (spots gs)).getLast? = some (.int (i : Int)) := by simp [nvs, hi]
            walk_at "ms"
            refine i_last (ob_ref (at_app gs1)) ?_ hgl ?_
            · rw [nvs_len]
              have := spots_len gs
              lia
            refine s_upto (ob_ref (at_app g6)) ⟨by lia, by rw [refs_len]; lia⟩ ?_
            rw [Int.toNat_natCast, refs_take]
            refine rest _ _ (xs.drop (xs.length - i)) _ _ _ _ _ ?_
            rw [hcut]
            have := hE7.ats.drop (xs.length - i)
            rw [← hlx]
            exact hE7.anew this
          · have hne : spots gs = [] := by
              simpa [nvs] using h6
            have hcut : lawCut gs = gs := by rw [lawCut, if_neg (by rw [spots_nil.mp hne]; decide)]
            walk_at "m"
            refine rest _ _ xs _ _ _ _ _ ?_
            rw [hcut]
            exact hE7
        · have h5 : ¬ k = 5 := of_decide_eq_false h5
          have hcN : lNext base dep ks j k gs = if k = 1 then lawPop gs else gs := by rw [lNext, if_neg hcE, if_neg hcO, if_neg h5]
          walk_at "mp"
          refine ⟨fun h6 => ?_, fun h6 => ?_⟩
          · have h6 : k = 1 ∨ k = 14 := by simpa using h6
            have hlo : lOut base k gs = (.none, if 14 = 17 then .str k else .str 14) := by
              rcases h6 with rfl | rfl <;> rfl
            walk_at "ms"
            refine T_and ?_
            walk_at "ms"
            refine ⟨fun h7 => ?_, fun h7 => ?_⟩
            · have h7 : k = 1 := of_decide_eq_true h7
              rw [if_pos h7] at hcN
              rw [hcN] at tail
              refine T_and ?_
              walk_at "ms"
              have hE3 := hE2.keep0 (Keep.app (Z := [AO.list []]))
              cases xs with
              | nil =>
                cases gs with
                | cons _ _ => exact hE2.ats.elim
                | nil =>
                  refine ⟨fun h8 => by simp [refs] at h8, fun h8 => ?_⟩
                  walk_at "ms"
                  exact tail _ _ _ _ _ _ _ _ (fun h => AV.noConfusion h) (hE3.keep0 Keep.app) hlo
              | cons x xs =>
                cases gs with
                | nil => exact hE2.ats.elim
                | cons f gs =>
                  have hF : (H5 ++ [AO.list []])[x]? = some (.tup [.int f.lv, .str (f.ov.getD 17), .bool f.iso, .bool f.void]) := hE3.ats.1
                  refine ⟨fun h8 => ?_, fun h8 => by simp [refs] at h8⟩
                  walk_at "ms"
                  have h1' := h1
                  simp only [List.length_cons] at h1' hlx
                  refine i_last (ob_ref hE3.frs) (by rw [refs_len]; simp; lia) (by rw [refs_cons]; exact List.getLast?_concat) ?_
                  walk_at "ms"
                  refine ⟨fun h9 => ?_, fun h9 => ?_⟩
                  · have h9 : f.iso = false := by simpa using h9
                    rw [lawPop, if_pos h9] at tail
                    walk_at "ms"
                    refine m_pop hE3.frs (by rw [refs_len]; simp; lia) (by rw [refs_cons]; exact List.getLast?_concat) ?_
                    walk_at "ms"
                    exact tail _ _ _ _ _ _ _ _ (fun h => AV.noConfusion h) (hE3.pop.keep0 Keep.app) hlo
                  · have h9 : ¬ f.iso = false := by simpa using h9
                    rw [lawPop, if_neg h9] at tail
                    walk_at "ms"
                    exact tail _ _ _ _ _ _ _ _ (fun h => AV.noConfusion h) (hE3.keep0 Keep.app) hlo
            · have h7 : ¬ k = 1 := of_decide_eq_false h7
              rw [if_neg h7] at hcN
              rw [hcN] at tail
              walk_at "ms"
              exact tail _ _ _ _ _ _ _ _ (fun h => AV.noConfusion h) (hE2.keep0 Keep.app) hlo
          · have h6 : ¬ k = 1 ∧ ¬ k = 14 := by simpa using h6
            rw [if_neg h6.1] at hcN
            rw [hcN] at tail
            walk_at "ms"
            refine ⟨fun h7 => ?_, fun h7 => ?_⟩
            · have h7 : k = 16 := of_decide_eq_true h7
              have hlo : lOut base k gs = (.int base, if 16 = 17 then .str k else .str 16) := by rw [h7]; rfl
              walk_at "ms"
              exact tail _ _ _ _ _ _ _ _ (fun h => AV.noConfusion h) (hE2.keep0 Keep.app) hlo
            · have h7 : ¬ k = 16 := of_decide_eq_false h7
              have hrm : removed k = false := by
                cases h : removed k with
                | false => rfl
                | true =>
                  rcases removed_cases k h with z | z | z
                  · exact absurd z.1 hcE
                  · exact absurd z.2 h6.1
                  · exact absurd z.2 h6.2
              have hlo : lOut base k gs = (.int (lawNow base gs).1, .str ((lawNow base gs).2.getD k)) := by
                rw [lOut, if_neg (by rw [hrm]; decide), if_neg h7, if_neg h5]
              rw [← ovw (lawNow_ov (base := base) h0)] at hlo
              walk_at "ms"
              exact tail _ _ _ _ _ _ _ _ (fun h => AV.noConfusion h) hE2 hlo
  · rintro ls H' ⟨x6, x7, x8, x9, x10, x11, x12, fr, xs, gs, dn, rfl, hE, h0, h1, h2, h3⟩
    rw [List.drop_of_length_le (by simp [svs])] at h3
    have g3 := hE.lvs
    have g4 := hE.cls
    walk_at "ms"
    rw [← h3] at q
    refine q _ lv cl _ hE.keep.more at_new ?_ ?_
    · simpa [lGo] using at_app g3
    · simpa [lGo] using at_app g4
end
end Mine
end
-- V18
section
set_option tactic.hygienic false
namespace Mine
noncomputable def toEnt (f : Frm) : Ent := ⟨f.lv, f.ov, f.iso⟩
noncomputable def nIso (l : List Frm) : Nat := (l.filter fun f => f.iso).length
noncomputable def anyIso (l : List Frm) : Bool := l.any fun f => f.iso
noncomputable def oeOf : List Frm → Nat
  | [] => 0
  | f :: Z => if (f.iso || anyIso Z) = true then oeOf Z else oeOf Z + 1
theorem nIso_pos {l : List Frm} : 0 < nIso l ↔ anyIso l = true := by
  induction l with
  | nil => simp [nIso, anyIso]
  | cons f l ih =>
    simp only [nIso, anyIso, List.filter_cons, List.any_cons] at ih ⊢
    cases h : f.iso
    · simpa using ih
    · simp
theorem nIso_zero {l : List Frm} (h : ¬ 0 < nIso l) : anyIso l = false := by
  cases e : anyIso l with
  | false => rfl
  | true => exact absurd (nIso_pos.mpr e) h
theorem oeOf_len : ∀ {Z : List Frm}, anyIso Z = false → oeOf Z = Z.length
  | [], _ => rfl
  | f :: Z, h => by
    simp only [anyIso, List.any_cons, Bool.or_eq_false_iff] at h
    rw [oeOf, if_neg (by simp [h.1, anyIso, h.2]), oeOf_len h.2]; rfl
theorem fur_fresh (lv : Nat) (r : Bool) : fur lv r = lawFresh lv r := by
  unfold fur lawFresh
  rcases Nat.mod_two_eq_zero_or_one lv with h | h
  · rw [h]; cases r <;> rfl
  · rw [h]; cases r <;> rfl
structure Sim (base : Nat) (st : Stk) (gs V Z : List Frm) : Prop where
  gs : gs = Z ++ V
  v : ∀ f ∈ V, f.void = false
  z : ∀ f ∈ Z, f.void = true
  es : st.es = V.map toEnt ++ [⟨base, none, false⟩]
  vi : st.vi = nIso V
  oi : st.oi = nIso Z
  oe : st.oe = oeOf Z
theorem lawNow_z {base : Nat} {V : List Frm} : ∀ {Z : List Frm}, (∀ f ∈ Z, f.void = true) → lawNow base (Z ++ V) = lawNow base V
  | [], _ => rfl
  | f :: Z, h => by
    rw [List.cons_append, lawNow, if_neg (by rw [h f (by simp)]; decide)]
    exact lawNow_z fun x m => h x (List.mem_cons_of_mem _ m)
section
variable {base dep : Nat} {st : Stk} {gs V Z : List Frm}
theorem Sim.now (h : Sim base st gs V Z) : lawNow base gs = ((top st).lv, (top st).ov) := by
  rw [h.gs, lawNow_z h.z]
  cases V with
  | nil => simp [lawNow, top, h.es]
  | cons f V => rw [lawNow, if_pos (h.v f (by simp))]; simp [top, h.es, toEnt]
theorem Sim.topVoid (h : Sim base st gs V Z) : topVoid gs = !Z.isEmpty := by
  rw [h.gs]
  cases Z with
  | nil => cases V with
    | nil => rfl
    | cons f V => simpa [Mine.topVoid] using h.v f (by simp)
  | cons f Z => simpa [Mine.topVoid] using h.z f (by simp)
theorem Sim.over (h : Sim base st gs V Z) : (decide (st.oi = 0) && decide (st.oe = 0)) = Z.isEmpty := by
  rw [h.oi, h.oe]
  cases Z with
  | nil => rfl
  | cons f Z =>
    by_cases h2 : 0 < nIso (f :: Z)
    · rw [decide_eq_false (by lia)]; rfl
    · rw [oeOf_len (nIso_zero h2)]; simp
theorem Sim.free (h : Sim base st gs V Z) (lv : Nat) : free dep lv st = (decide (lv ≤ dep) && Z.isEmpty) := by
  rw [Mine.free, Bool.and_assoc, h.over]
theorem sim_embed (h : Sim base st gs V Z) (r : Bool) (o : Option Nat) : ∃ V' Z', Sim base (cEmbed dep r o st) (lawFrame gs (lawNow base gs).1 r dep o false :: gs) V' Z' := by
  have hf := h.free (dep := dep) (lawFresh (top st).lv r)
  rw [h.now]
  unfold cEmbed
  rw [fur_fresh]
  by_cases hc : Mine.free dep (lawFresh (top st).lv r) st = true
  · rw [if_pos hc]
    rw [hc] at hf
    have hf' := hf.symm
    simp only [Bool.and_eq_true, decide_eq_true_eq, List.isEmpty_iff] at hf'
    obtain ⟨h1, rfl⟩ := hf'
    have hg := h.gs
    refine ⟨lawFrame gs (top st).lv r dep o false :: V, [], ⟨by simpa using hg, ?_, by simp, by rw [h.es]; rfl, by rw [h.vi]; simp [nIso, lawFrame], h.oi, h.oe⟩⟩
    intro f m
    rcases List.mem_cons.mp m with rfl | m
    · simp only [lawFrame, h.topVoid]; simp; lia
    · exact h.v f m
  · rw [if_neg hc]
    have hv : (lawFrame gs (top st).lv r dep o false).void = true := by
      have hf' : ¬ (decide (lawFresh (top st).lv r ≤ dep) && Z.isEmpty) = true := by rw [← hf]; exact hc
      simp only [lawFrame, h.topVoid, Bool.or_eq_true, decide_eq_true_eq, Bool.not_eq_true']
      simp only [Bool.and_eq_true, decide_eq_true_eq, not_and] at hf'
      by_cases h1 : lawFresh (top st).lv r ≤ dep
      · exact .inr (by simpa using hf' h1)
      · exact .inl (by lia)
    have hz : ∀ f ∈ lawFrame gs (top st).lv r dep o false :: Z, f.void = true := by
      intro f m
      rcases List.mem_cons.mp m with rfl | m
      · exact hv
      · exact h.z f m
    have hn : nIso (lawFrame gs (top st).lv r dep o false :: Z) = nIso Z := by simp [nIso, lawFrame]
    by_cases h0 : st.oi = 0
    · rw [if_pos h0]
      have ha : anyIso Z = false := nIso_zero (by rw [← h.oi]; lia)
      exact ⟨V, _ :: Z, ⟨by rw [List.cons_append, ← h.gs], h.v, hz, h.es, h.vi, by rw [hn]; exact h.oi, by rw [oeOf, if_neg (by simp [lawFrame, ha])]; show st.oe + 1 = _; rw [h.oe]⟩⟩
    · rw [if_neg h0]
      have ha : anyIso Z = true := nIso_pos.mp (by rw [← h.oi]; lia)
      exact ⟨V, _ :: Z, ⟨by rw [List.cons_append, ← h.gs], h.v, hz, h.es, h.vi, by rw [hn]; exact h.oi, by rw [oeOf, if_pos (by simp [ha])]; exact h.oe⟩⟩
theorem sim_iso (h : Sim base st gs V Z) (r : Bool) : ∃ V' Z', Sim base (cIso dep r st) (lawFrame gs (lawNow base gs).1 r dep none true :: gs) V' Z' := by
  have hf := h.free (dep := dep) (lawFresh (top st).lv r)
  rw [h.now]
  unfold cIso
  rw [fur_fresh]
  by_cases hc : Mine.free dep (lawFresh (top st).lv r) st = true
  · rw [if_pos hc]
    rw [hc] at hf
    have hf' := hf.symm
    simp only [Bool.and_eq_true, decide_eq_true_eq, List.isEmpty_iff] at hf'
    obtain ⟨h1, rfl⟩ := hf'
    have hg := h.gs
    refine ⟨lawFrame gs (top st).lv r dep none true :: V, [], ⟨by simpa using hg, ?_, by simp, by rw [h.es]; rfl, by show st.vi + 1 = _; rw [h.vi]; simp [nIso, lawFrame], h.oi, h.oe⟩⟩
    intro f m
    rcases List.mem_cons.mp m with rfl | m
    · simp only [lawFrame, h.topVoid]; simp; lia
    · exact h.v f m
  · rw [if_neg hc]
    have hv : (lawFrame gs (top st).lv r dep none true).void = true := by
      have hf' : ¬ (decide (lawFresh (top st).lv r ≤ dep) && Z.isEmpty) = true := by rw [← hf]; exact hc
      simp only [lawFrame, h.topVoid, Bool.or_eq_true, decide_eq_true_eq, Bool.not_eq_true']
      simp only [Bool.and_eq_true, decide_eq_true_eq, not_and] at hf'
      by_cases h1 : lawFresh (top st).lv r ≤ dep
      · exact .inr (by simpa using hf' h1)
      · exact .inl (by lia)
    have hz : ∀ f ∈ lawFrame gs (top st).lv r dep none true :: Z, f.void = true := by
      intro f m
      rcases List.mem_cons.mp m with rfl | m
      · exact hv
      · exact h.z f m
    have hn : nIso (lawFrame gs (top st).lv r dep none true :: Z) = nIso Z + 1 := by simp [nIso, lawFrame]
    exact ⟨V, _ :: Z, ⟨by rw [List.cons_append, ← h.gs], h.v, hz, h.es, h.vi, by rw [hn]; show st.oi + 1 = _; rw [h.oi], by rw [oeOf, if_pos (by simp [lawFrame])]; exact h.oe⟩⟩
theorem cut_z : ∀ {Z : List Frm} (V : List Frm), anyIso Z = true → ∃ Z2, ((Z ++ V).dropWhile fun f => !f.iso).tail = Z2 ++ V ∧ nIso Z = nIso Z2 + 1 ∧ oeOf Z = oeOf Z2 ∧ ∀ f ∈ Z2, f ∈ Z
  | f :: Z, V, h => by
    cases hi : f.iso with
    | true => exact ⟨Z, by simp [hi], by simp [nIso, hi], by simp [oeOf, hi], fun x m => List.mem_cons_of_mem _ m⟩
    | false =>
      have h' : anyIso Z = true := by simpa [anyIso, hi] using h
      obtain ⟨Z2, g1, g2, g3, g4⟩ := cut_z V h'
      exact ⟨Z2, by simpa [hi] using g1, by simpa [nIso, hi] using g2, by rw [oeOf, if_pos (by simp [h'])]; exact g3, fun x m => List.mem_cons_of_mem _ (g4 x m)⟩
theorem cut_no {V : List Frm} : ∀ {Z : List Frm}, anyIso Z = false → ((Z ++ V).dropWhile fun f => !f.iso) = (V.dropWhile fun f => !f.iso)
  | [], _ => rfl
  | f :: Z, h => by
    simp only [anyIso, List.any_cons, Bool.or_eq_false_iff] at h
    rw [List.cons_append, List.dropWhile_cons, if_pos (by simp [h.1])]
    exact cut_no h.2
theorem cut_v (base : Nat) : ∀ {V : List Frm}, anyIso V = true → ∃ V2, ((V.dropWhile fun f => !f.iso).tail = V2) ∧ (((V.map toEnt ++ [(⟨base, none, false⟩ : Ent)]).dropWhile fun e : Ent => !e.iso).tail = V2.map toEnt ++ [(⟨base, none, false⟩ : Ent)]) ∧ nIso V = nIso V2 + 1 ∧ ∀ f ∈ V2, f ∈ V
  | f :: V, h => by
    cases hi : f.iso with
    | true => exact ⟨V, by simp [hi], by simp [toEnt, hi], by simp [nIso, hi], fun x m => List.mem_cons_of_mem _ m⟩
    | false =>
      obtain ⟨V2, g1, g2, g3, g4⟩ := cut_v base (V := V) (by simpa [anyIso, hi] using h)
      exact ⟨V2, by simpa [hi] using g1, by simpa [toEnt, hi] using g2, by simpa [nIso, hi] using g3, fun x m => List.mem_cons_of_mem _ (g4 x m)⟩
theorem anyIso_append (Z V : List Frm) : anyIso (Z ++ V) = (anyIso Z || anyIso V) := by simp [anyIso]
theorem sim_endIso (h : Sim base st gs V Z) : ∃ V' Z', Sim base (cEndIso st) (lawCut gs) V' Z' := by
  unfold cEndIso lawCut
  rw [show (gs.any fun f => f.iso) = anyIso gs from rfl, h.gs, anyIso_append]
  by_cases h0 : 0 < st.oi
  · rw [if_pos h0]
    have ha : anyIso Z = true := nIso_pos.mp (by rw [← h.oi]; exact h0)
    rw [if_pos (by simp [ha])]
    obtain ⟨Z2, g1, g2, g3, g4⟩ := cut_z V ha
    exact ⟨V, Z2, ⟨g1, h.v, fun f m => h.z f (g4 f m), h.es, h.vi, by show st.oi - 1 = _; rw [h.oi, g2]; lia, by show st.oe = _; rw [h.oe, g3]⟩⟩
  · rw [if_neg h0]
    have ha : anyIso Z = false := nIso_zero (by rw [← h.oi]; exact h0)
    by_cases h1 : 0 < st.vi
    · rw [if_pos h1]
      have hb : anyIso V = true := nIso_pos.mp (by rw [← h.vi]; exact h1)
      rw [if_pos (by simp [hb]), cut_no ha]
      obtain ⟨V2, g1, g2, g3, g4⟩ := cut_v base hb
      refine ⟨V2, [], ⟨by simpa using g1, fun f m => h.v f (g4 f m), by simp, ?_, by show st.vi - 1 = _; rw [h.vi, g3]; lia, ?_, rfl⟩⟩
      · show (st.es.dropWhile _).tail = _
        rw [h.es]; exact g2
      · show st.oi = _; rw [h.oi]; have : nIso Z = 0 := by rw [← h.oi]; lia
        rw [this]; rfl
    · rw [if_neg h1]
      have hb : anyIso V = false := nIso_zero (by rw [← h.vi]; exact h1)
      rw [if_neg (by simp [ha, hb])]
      exact ⟨V, Z, ⟨rfl, h.v, h.z, h.es, h.vi, h.oi, h.oe⟩⟩
theorem sim_endEmb (h : Sim base st gs V Z) : ∃ V' Z', Sim base (cEndEmb st) (lawPop gs) V' Z' := by
  unfold cEndEmb
  rw [h.gs]
  by_cases h0 : 0 < st.oi
  · rw [if_pos h0]
    have ha : anyIso Z = true := nIso_pos.mp (by rw [← h.oi]; exact h0)
    cases Z with
    | nil => cases ha
    | cons f Z =>
      rw [List.cons_append, lawPop]
      by_cases hi : f.iso = false
      · rw [if_pos hi]
        have ha' : anyIso Z = true := by simpa [anyIso, hi] using ha
        exact ⟨V, Z, ⟨rfl, h.v, fun x m => h.z x (List.mem_cons_of_mem _ m), h.es, h.vi, by rw [h.oi]; simp [nIso, hi], by rw [h.oe, oeOf, if_pos (by simp [ha'])]⟩⟩
      · rw [if_neg hi]
        exact ⟨V, f :: Z, ⟨rfl, h.v, h.z, h.es, h.vi, h.oi, h.oe⟩⟩
  · rw [if_neg h0]
    have ha : anyIso Z = false := nIso_zero (by rw [← h.oi]; exact h0)
    have hoe := h.oe
    rw [oeOf_len ha] at hoe
    cases Z with
    | cons f Z =>
      have hi : f.iso = false := by
        simp only [anyIso, List.any_cons, Bool.or_eq_false_iff] at ha; exact ha.1
      have ha' : anyIso Z = false := by
        simp only [anyIso, List.any_cons, Bool.or_eq_false_iff] at ha; exact ha.2
      rw [if_pos (by rw [hoe]; simp), List.cons_append, lawPop, if_pos hi]
      exact ⟨V, Z, ⟨rfl, h.v, fun x m => h.z x (List.mem_cons_of_mem _ m), h.es, h.vi, by show st.oi = _; rw [h.oi]; simp [nIso, hi], by show st.oe - 1 = _; rw [hoe, oeOf_len ha']; simp⟩⟩
    | nil =>
      rw [if_neg (by rw [hoe]; simp), List.nil_append]
      cases V with
      | nil =>
        rw [if_neg (by rw [h.es]; simp)]
        exact ⟨[], [], ⟨rfl, by simp, by simp, h.es, h.vi, h.oi, h.oe⟩⟩
      | cons f V =>
        have ht : (top st).iso = f.iso := by simp [top, h.es, toEnt]
        rw [lawPop]
        by_cases hi : f.iso = false
        · rw [if_pos hi, if_pos (by rw [ht, hi, h.es]; simp)]
          exact ⟨V, [], ⟨rfl, fun x m => h.v x (List.mem_cons_of_mem _ m), by simp, by show st.es.tail = _; rw [h.es]; rfl, by show st.vi = _; rw [h.vi]; simp [nIso, hi], h.oi, h.oe⟩⟩
        · rw [if_neg hi, if_neg (by rw [ht]; simp [hi])]
          exact ⟨f :: V, [], ⟨rfl, h.v, by simp, h.es, h.vi, h.oi, h.oe⟩⟩
theorem sim_next (ks : List Nat) (at_ k : Nat) (h : Sim base st gs V Z) : ∃ V' Z', Sim base (cNext dep ks at_ k st) (lNext base dep ks at_ k gs) V' Z' := by
  unfold cNext lNext
  by_cases he : embs k = true
  · rw [if_pos he, if_pos he]; exact sim_embed h _ _
  · rw [if_neg he, if_neg he]
    by_cases ho : opens k = true
    · obtain ⟨h5, h16, _⟩ := opens_ne ho
      have h1 : k ≠ 1 := by rintro rfl; cases ho
      rw [if_neg h1, if_neg h5, if_pos ho, if_pos ho]
      exact sim_iso h _
    · rw [if_neg ho, if_neg ho]
      by_cases h1 : k = 1
      · subst h1; rw [if_pos rfl, if_neg (by decide), if_pos rfl]; exact sim_endEmb h
      · rw [if_neg h1, if_neg h1]
        by_cases h5 : k = 5
        · rw [if_pos h5, if_pos h5]; exact sim_endIso h
        · rw [if_neg h5, if_neg h5]; exact ⟨V, Z, h⟩
theorem sim_out (k : Nat) (h : Sim base st gs V Z) : cOut base k st = lOut base k gs := by
  unfold cOut lOut
  split
  · rfl
  · split
    · rfl
    · by_cases h5 : k = 5
      · rw [if_pos h5, if_pos h5]
        obtain ⟨V', Z', h'⟩ := sim_endIso h
        rw [h'.now]
      · rw [if_neg h5, if_neg h5, h.now]
end
theorem go_eq (base dep : Nat) (ks : List Nat) : ∀ (r : List Nat) (at_ : Nat) (st : Stk) (gs V Z : List Frm), Sim base st gs V Z → cGo base dep ks r at_ st = lGo base dep ks r at_ gs
  | [], _, _, _, _, _, _ => rfl
  | k :: r, at_, st, gs, V, Z, h => by
    obtain ⟨V', Z', h'⟩ := sim_next (dep := dep) ks at_ k h
    rw [cGo, lGo, sim_out k h, go_eq base dep ks r (at_ + 1) _ _ V' Z' h']
theorem explicit_eq (base dep : Nat) (ks : List Nat) : cGo base dep ks ks 0 ⟨[⟨base, none, false⟩], 0, 0, 0⟩ = lGo base dep ks ks 0 [] :=
  go_eq base dep ks ks 0 _ [] [] [] ⟨rfl, by simp, by simp, rfl, rfl, rfl, rfl⟩
end Mine
end
-- V19
section
set_option tactic.hygienic false
namespace Mine
theorem i_dictL {sc : List Int} {H : Hp} {L : AV → Prop} {u : AV} {es : List (Nat × AV)} {n : Nat} {v : AV} (h : obj (thePI sc) H u = some (.dictS es)) (hv : lk es n = some v) (q : L v) : ∃ r, evIdx (thePI sc) u (.str n) H = some r ∧ L r :=
  i_dictS h (by rw [valS_lk]; exact hv) q
end Mine
end
open Mine
local macro_rules | `(tactic| walk_at "m") => do wkRules #[] ["d_setS:hl", "i_dictL:hr"]
section
namespace Mine
noncomputable def ivs (l : List Int) : List AV := l.map .int
theorem ivs_len (l : List Int) : (ivs l).length = l.length := by simp [ivs]
structure Deck (H : Hp) (dk c : Nat) (cells : List Int) (at_ : Nat) : Prop where
  d : H[dk]? = some (.dictS [(135, .ref c), (136, .int at_)])
  c : H[c]? = some (.list (ivs cells))
theorem Deck.keep {H H' : Hp} {Y : List Nat} {dk c at_ : Nat} {cells : List Int} (h : Deck H dk c cells at_) (k : Keep Y H H') (h1 : dk ∉ Y) (h2 : c ∉ Y) : Deck H' dk c cells at_ := ⟨k.get _ _ h1 h.d, k.get _ _ h2 h.c⟩
theorem fmod_rng {a b : Int} (h : 0 < b) : 0 ≤ Int.fmod a b ∧ Int.fmod a b < b := by
  rw [Int.fmod_eq_emod_of_nonneg _ (by omega)]
  exact ⟨Int.emod_nonneg _ (by omega), Int.emod_lt_of_pos _ h⟩
section
variable {sc : List Int} {n : Nat} {H : Hp} {Q : AV → Hp → Prop}
theorem r_deck (hl : sc.length ≤ 63) (q : ∀ dk c H' cells, Keep [] H H' → Deck H' dk c cells 0 → cells.length ≤ 40 → H.length ≤ dk → H.length ≤ c → Q (.ref dk) H') : T (run (thePI sc) 200 (n + 1) 137 [.st 5] H) Q := by
  refine T_fn (ls := [.st 5]) rfl rfl ?_
  dsimp only [b__law_deck]
  walk_at "ms"
  refine T_comp (cs := []) rfl ?_
  walk_at "ms"
  refine s_upto (xs := sc.map .int) rfl ⟨by decide, by simp; omega⟩ ?_
  walk_at "ms"
  refine w_seqL at_new ⟨by simp; omega, ?_⟩
  rw [show (40 : Int).toNat = 40 from rfl]
  refine compL_rule (fun j acc H' => H' = H ++ [AO.list ((sc.map AV.int).take 40)] ∧ acc = ivs (((sc.take 40).take j).map fun c => Int.fmod c 1000000007)) cstep_go _ 0 [] _ _ ⟨rfl, by simp [ivs]⟩ ?_ ?_ ?_
  · rintro j acc H' hj ⟨rfl, _⟩; exact kept_at at_new
  · rintro j it acc H' hj ⟨rfl, rfl⟩
    simp only [List.getElem?_map, ← List.map_take, Option.map_eq_some_iff] at hj
    obtain ⟨_, ⟨x, hx, rfl⟩, rfl⟩ := hj
    refine ⟨rfl, ?_⟩
    walk_at "ms"
    refine ⟨rfl, ?_⟩
    rw [List.take_add_one (l := List.take 40 sc), Nat.zero_add, hx]
    simp only [ivs, List.map_append, Option.toList_some, List.map_cons, List.map_nil]
  · rintro ws H' ⟨rfl, h⟩
    simp only [List.nil_append] at h
    rw [h]
    walk_at "ms"
    refine q _ _ _ _ (Keep.app.tr Keep.app |>.tr Keep.app) ⟨at_new, at_app at_new⟩ ?_ ?_ ?_
    · simp; omega
    · simp
    · simp
theorem r_draw {dk c at_ : Nat} {cells : List Int} {b : Int} (hd : Deck H dk c cells at_) (hl : cells.length ≤ 40) (ha : at_ ≤ 1000) (hb : 0 < b)
    (q : ∀ v H', 0 ≤ v → v < b → Keep [dk] H H' → Deck H' dk c cells (at_ + 1) → Q (.int v) H') : T (run (thePI sc) 200 (n + 1) 138 [.ref dk, .int b] H) Q := by
  have h1 := hd.d
  have h2 := hd.c
  have hne : dk ≠ c := by rintro rfl; rw [h1] at h2; cases h2
  have hbn : b ≠ 0 := by omega
  refine T_fn (ls := [.ref dk, .int b, .unb, .unb]) rfl rfl ?_
  dsimp only [b__law_draw]
  have hcl := ivs_len cells
  have hD : Deck (List.set (H ++ [AO.tup [.int at_, .ref c]]) dk (AO.dictS (putS [(135, .ref c), (136, .int at_)] 136 (.int (at_ + 1))))) dk c cells (at_ + 1) :=
    ⟨at_set (at_app h1), at_ne hne (at_app h2)⟩
  have k : Keep [dk] H (List.set (H ++ [AO.tup [.int at_, .ref c]]) dk (AO.dictS (putS [(135, .ref c), (136, .int at_)] 136 (.int (at_ + 1))))) := Keep.app.put (.inl (by simp))
  have g1 := hD.d
  have g2 := hD.c
  walk_at "ms"
  refine Br.mk (fun h => ?_) (fun h => ?_)
  · have h : at_ < cells.length := by simp [ivs_len] at h; omega
    walk_at "ms"
    refine i_listN (ob_ref g2) (by omega) (show (ivs cells)[at_]? = some (.int cells[at_]) by simp [ivs, h]) ?_
    walk_at "ms"
    refine b_mod hbn ?_
    exact ⟨q _ _ (fmod_rng hb).1 (fmod_rng hb).2 k hD⟩
  · have h : ¬ at_ < cells.length := by simp [ivs_len] at h; omega
    walk_at "ms"
    refine Br.mk (fun h2 => ?_) (fun h2 => ?_)
    · walk_at "ms"
      refine b_mul (by simp [small]; omega) ?_
      walk_at "ms"
      refine b_mod hbn ?_
      exact ⟨q _ _ (fmod_rng hb).1 (fmod_rng hb).2 k.more (hD.keep (Y := []) Keep.app (by simp) (by simp))⟩
    · have hc0 : 0 < cells.length := by
        cases cells with
        | nil => simp [ivs] at h2
        | cons _ _ => simp
      walk_at "ms"
      refine b_mod (by omega) ?_
      have e1 : Int.fmod (at_ : Int) ((ivs cells).length : Int) = ((at_ % cells.length : Nat) : Int) := by
        rw [ivs_len, Int.ofNat_fmod]
      rw [e1]
      have hlt := Nat.mod_lt at_ hc0
      refine i_listN (ob_ref (at_app g2)) (by omega) (show (ivs cells)[at_ % cells.length]? = some (.int cells[at_ % cells.length]) by simp [ivs, hlt]) ?_
      walk_at "ms"
      refine b_fdiv (by omega) (by omega) ?_
      walk_at "ms"
      refine b_mul (by simp [small]; omega) ?_
      walk_at "ms"
      refine b_mod hbn ?_
      exact ⟨q _ _ (fmod_rng hb).1 (fmod_rng hb).2 k.more (hD.keep (Y := []) Keep.app (by simp) (by simp))⟩
end
end Mine
end
-- V20
section
set_option tactic.hygienic false
namespace Mine
theorem nvs_get {S : List Nat} {i s : Nat} (h : S[i]? = some s) : (nvs S)[i]? = some (.int (s : Int)) := by simp [nvs, h]
theorem svs_get {S : List Nat} {i s : Nat} (h : S[i]? = some s) : (svs S)[i]? = some (.str s) := by simp [svs, h]
theorem fdiv2 (n : Nat) : Int.fdiv (n : Int) 2 = ((n / 2 : Nat) : Int) := by rw [Int.fdiv_eq_ediv_of_nonneg _ (by decide)]; rfl
section
variable {sc : List Int} {n : Nat} {H : Hp} {Q : AV → Hp → Prop}
theorem r_place {a c : Nat} {S : List Nat} (ha : H[a]? = some (.list (nvs S))) (hs : S.Pairwise (· < ·)) (hl : S.length ≤ 150)
    (q : ∀ p : Nat, p ≤ S.length → (∀ i s : Nat, S[i]? = some s → i < p → s ≤ c) → (∀ i s : Nat, S[i]? = some s → p ≤ i → c < s) → Q (.int ((p : Int) - 1)) H) : T (run (thePI sc) 200 (n + 1) 63 [.ref a, .int c] H) Q := by
  refine T_fn (ls := [.ref a, .int c, .unb, .unb, .unb]) rfl rfl ?_
  dsimp only [b_place_by_half]
  walk_at "ms"
  rw [nvs_len]
  refine X_wh (fun m ls H' => ∃ (lo hi : Nat) (x : AV), ls = [.ref a, .int c, .int lo, .int hi, x] ∧ H' = H ∧ lo ≤ hi ∧ hi ≤ S.length ∧ m = hi - lo ∧ (∀ i s : Nat, S[i]? = some s → i < lo → s ≤ c) ∧ (∀ i s : Nat, S[i]? = some s → hi ≤ i → c < s)) S.length (by lia)
    ⟨0, S.length, _, rfl, rfl, by lia, by lia, by lia, by intro i s _ h; lia, by intro i s e h; have := (List.getElem?_eq_some_iff.mp e).1; lia⟩ ?_
  rintro m ls H' ⟨lo, hi, x, rfl, rfl, h1, h2, rfl, h3, h4⟩
  walk_at "ms"
  refine Br.mk (fun h => ?_) (fun h => ?_)
  · have h : lo < hi := by simpa using h
    walk_at "ms"
    rw [show (lo : Int) + hi = ((lo + hi : Nat) : Int) by simp, fdiv2]
    have hm : (lo + hi) / 2 < S.length := by lia
    have hm1 : lo ≤ (lo + hi) / 2 := by lia
    have hm2 : (lo + hi) / 2 < hi := by lia
    have hg : S[(lo + hi) / 2]? = some S[(lo + hi) / 2] := List.getElem?_eq_getElem hm
    generalize (lo + hi) / 2 = mid at *
    refine i_listN (ob_ref ha) (by rw [nvs_len]; lia) (nvs_get hg) ?_
    walk_at "ms"
    have hs' := List.pairwise_iff_getElem.mp hs
    refine Br.mk (fun h5 => ?_) (fun h5 => ?_)
    · have h5 : S[mid] ≤ c := by simpa using h5
      walk_at "ms"
      refine ⟨hi - (mid + 1), by lia, mid + 1, hi, _, rfl, rfl, by lia, h2, rfl, ?_, h4⟩
      intro i s e hi'
      obtain ⟨hil, rfl⟩ := List.getElem?_eq_some_iff.mp e
      by_cases hq : i = mid
      · subst hq; exact h5
      · have := hs' i mid hil hm (by lia); lia
    · have h5 : c < S[mid] := by simpa using h5
      walk_at "ms"
      refine ⟨mid - lo, by lia, lo, mid, _, rfl, rfl, by lia, by lia, rfl, h3, ?_⟩
      intro i s e hi'
      obtain ⟨hil, rfl⟩ := List.getElem?_eq_some_iff.mp e
      by_cases hq : i = mid
      · subst hq; exact h5
      · have := hs' mid i hm hil (by lia); lia
  · have h : ¬ lo < hi := by simpa using h
    obtain rfl : lo = hi := by lia
    walk_at "ms"
    exact q lo h2 h3 h4
theorem r_like {a b : Nat} (q : Q (.bool (decide (a = b))) H) : T (run (thePI sc) 200 (n + 1) 65 [.str a, .str b] H) Q := by
  refine T_fn (ls := [.str a, .str b]) rfl rfl ?_
  dsimp only [b_range_are_like]
  walk_at "mp"
  rw [show decide (false = false) = true from rfl, Bool.and_true]
  exact q
end
structure RmAt (H : Hp) (m md st vl : Nat) (l : List (Nat × Nat)) : Prop where
  i : H[m]? = some (.inst 132 md)
  a : H[md]? = some (.attrs [(66, .str 2), (67, .ref st), (68, .ref vl)])
  s : H[st]? = some (.list (nvs (l.map (·.1))))
  v : H[vl]? = some (.list (svs (l.map (·.2))))
structure Good (l : List (Nat × Nat)) (c0 : Nat) : Prop where
  srt : (l.map (·.1)).Pairwise (· < ·)
  hd : ∃ v r, l = (0, v) :: r
  le : ∀ p ∈ l, p.1 ≤ c0
  last : ∃ s r, l = r ++ [(s, 2)]
noncomputable def lkp (l : List (Nat × Nat)) (x : Nat) : Nat := l.foldl (fun acc p => if p.1 ≤ x then p.2 else acc) 0
theorem lkp_snoc (l : List (Nat × Nat)) (s v x : Nat) : lkp (l ++ [(s, v)]) x = if s ≤ x then v else lkp l x := by simp [lkp, List.foldl_append]
theorem lkp_over (l : List (Nat × Nat)) (x : Nat) : ∀ m : List (Nat × Nat), (∀ p ∈ m, x < p.1) → lkp (l ++ m) x = lkp l x := by
  intro m
  unfold lkp
  rw [List.foldl_append]
  generalize List.foldl _ 0 l = acc
  induction m generalizing acc with
  | nil => intro _; rfl
  | cons p m ih =>
    intro h
    rw [List.foldl_cons, if_neg (by have := h p (by simp); lia)]
    exact ih _ fun q hq => h q (List.mem_cons_of_mem _ hq)
theorem lkp_at {l : List (Nat × Nat)} {x p s v : Nat} (hp : l[p]? = some (s, v)) (h1 : s ≤ x) (h2 : ∀ i s' v', l[i]? = some (s', v') → p < i → x < s') : lkp l x = v := by
  have hl := (List.getElem?_eq_some_iff.mp hp).1
  have e : l = l.take p ++ [(s, v)] ++ l.drop (p + 1) := by
    rw [← (List.getElem?_eq_some_iff.mp hp).2]; simp
  rw [e, lkp_over, lkp_snoc, if_pos h1]
  rintro ⟨s', v'⟩ m
  obtain ⟨i, hi⟩ := List.mem_iff_getElem?.mp m
  rw [List.getElem?_drop] at hi
  exact h2 _ _ _ hi (by lia)
section
variable {sc : List Int} {n : Nat} {H : Hp} {Q : AV → Hp → Prop} {m md st vl c0 : Nat} {l : List (Nat × Nat)}
theorem r_rm_get {c : Nat} (hR : RmAt H m md st vl l) (hG : Good l c0) (hl : l.length ≤ 150) (q : Q (.str (lkp l c)) H) : T (run (thePI sc) 200 (n + 2) 70 [.ref m, .int c] H) Q := by
  have h1 := hR.i
  have h2 := hR.a
  refine T_fn (ls := [.ref m, .int c]) rfl rfl ?_
  dsimp only [b_RangeMap_get]
  walk_at "ms"
  refine r_place hR.s hG.srt (by simpa using hl) ?_
  intro p hp h3 h4
  obtain ⟨v0, r0, hd⟩ := hG.hd
  have hp0 : 0 < p := by
    cases p with
    | succ p => lia
    | zero => have := h4 0 0 (by rw [hd]; rfl) (Nat.le_refl _); lia
  simp only [List.length_map] at hp
  have hpl : p - 1 < l.length := by lia
  have hg : l[p - 1]? = some l[p - 1] := List.getElem?_eq_getElem hpl
  have hv : lkp l c = (l[p - 1]).2 := by
    refine lkp_at (p := p - 1) (s := (l[p - 1]).1) hg ?_ ?_
    · exact h3 (p - 1) _ (by simp [hg]) (by lia)
    · intro i s' v' e hi
      exact h4 i s' (by simp [e]) (by lia)
  refine i_listI (j := p - 1) (ob_ref hR.v) (by rw [svs_len]; simpa using by lia) (by lia) (svs_get (s := (l[p - 1]).2) (by simp [hg])) ?_
  rw [← hv]
  exact ⟨q⟩
end
end Mine
end
-- V21
section
set_option tactic.hygienic false
namespace Mine
noncomputable def newl (base : List (Nat × Nat)) (b c v : Nat) : List (Nat × Nat) := base ++ ((if b = v then [] else [(c, v)]) ++ (if v = 2 then [] else [(c + 1, 2)]))
structure Cut (l : List (Nat × Nat)) (c : Nat) (base : List (Nat × Nat)) (b : Nat) : Prop where
  l : l = base ∧ b = 2 ∨ l = base ++ [(c, 2)]
  last : ∃ r s, base = r ++ [(s, b)]
  lt : ∀ p ∈ base, p.1 < c
  hd : ∃ v r, base = (0, v) :: r
  srt : (base.map (·.1)).Pairwise (· < ·)
theorem cut_of {l : List (Nat × Nat)} {c p : Nat} (hG : Good l c) (hc : 1 ≤ c) (h1 : p ≤ l.length) (h2 : ∀ i s : Nat, (l.map (·.1))[i]? = some s → i < p → s ≤ c - 1) (h3 : ∀ i s : Nat, (l.map (·.1))[i]? = some s → p ≤ i → c - 1 < s) :
    ∃ b, Cut l c (l.take p) b ∧ 1 ≤ p ∧ ∃ s, l[p - 1]? = some (s, b) := by
  obtain ⟨v0, r0, hd⟩ := hG.hd
  have hp0 : 0 < p := by
    cases p with
    | succ p => omega
    | zero => have := h3 0 0 (by rw [hd]; rfl) (Nat.le_refl _); omega
  have hpl : p - 1 < l.length := by omega
  have hb : l.take p = l.take (p - 1) ++ [l[p - 1]] := by
    obtain ⟨q, rfl⟩ : ∃ q, p = q + 1 := ⟨p - 1, by omega⟩
    rw [List.take_add_one, List.getElem?_eq_getElem (by omega)]; simp
  refine ⟨(l[p - 1]).2, ⟨?_, ⟨l.take (p - 1), (l[p - 1]).1, hb⟩, ?_, ?_, ?_⟩, hp0, (l[p - 1]).1, by rw [List.getElem?_eq_getElem hpl]⟩
  · obtain ⟨s, r, hl⟩ := hG.last
    have hln : l.length = r.length + 1 := by rw [hl]; simp
    by_cases hq : p = l.length
    · refine .inl ⟨by rw [hq]; simp, ?_⟩
      have : l[p - 1]? = some (s, 2) := by rw [hl, show p - 1 = r.length by omega]; simp
      rw [List.getElem?_eq_getElem hpl] at this
      cases h : l[p - 1]; rw [h] at this; cases this; rfl
    · have hpp : p < l.length := by omega
      have hs := List.pairwise_iff_getElem.mp hG.srt
      have hp1 := hG.le _ (List.getElem_mem hpp)
      have hp2 := h3 p (l[p]).1 (by simp [hpp]) (Nat.le_refl _)
      have hlast : p + 1 = l.length := by
        by_cases hq2 : p + 1 = l.length
        · exact hq2
        · exfalso
          have hp3 : p + 1 < l.length := by omega
          have := hs p (p + 1) (by simpa using hpp) (by simpa using hp3) (by omega)
          simp only [List.getElem_map] at this
          have := hG.le _ (List.getElem_mem hp3)
          omega
      refine .inr ?_
      have e : l[p]? = some (s, 2) := by rw [hl, show p = r.length by omega]; simp
      have e2 : l = l.take p ++ [l[p]] := by
        have := List.take_add_one (l := l) (i := p)
        rw [hlast, List.take_length, List.getElem?_eq_getElem hpp] at this
        simpa using this
      rw [List.getElem?_eq_getElem hpp] at e
      have e3 : l[p] = (s, 2) := by simpa using e
      rw [e3] at hp1 hp2 e2
      have : s = c := by simp at hp1 hp2; omega
      rw [this] at e2
      exact e2
  · intro q hq
    obtain ⟨i, hi⟩ := List.mem_iff_getElem?.mp hq
    have hil := (List.getElem?_eq_some_iff.mp hi).1
    simp at hil
    rw [List.getElem?_take_of_lt (by omega)] at hi
    have := h2 i q.1 (by simp [hi]) (by omega)
    omega
  · rw [hd]
    obtain ⟨q, rfl⟩ : ∃ q, p = q + 1 := ⟨p - 1, by omega⟩
    exact ⟨v0, r0.take q, rfl⟩
  · rw [List.map_take]; exact hG.srt.sublist (List.take_sublist ..)
theorem newl_good {l base : List (Nat × Nat)} {b c v : Nat} (h : Cut l c base b) : Good (newl base b c v) (c + 1) := by
  obtain ⟨hl, ⟨r, s, hr⟩, hlt, ⟨v0, r0, hd⟩, hs⟩ := h
  refine ⟨?_, ⟨v0, _, by rw [newl, hd]; rfl⟩, ?_, ?_⟩
  · rw [newl, List.map_append, List.pairwise_append]
    refine ⟨hs, ?_, ?_⟩
    · split <;> split <;> simp
    · intro x hx y hy
      obtain ⟨p, hp, rfl⟩ := List.mem_map.mp hx
      have := hlt p hp
      have : c ≤ y := by
        split at hy <;> split at hy <;> simp at hy <;> omega
      omega
  · intro p hp
    rw [newl, List.mem_append] at hp
    rcases hp with hp | hp
    · have := hlt p hp; omega
    · split at hp <;> split at hp <;> simp at hp
      · rw [hp]; simp
      · rw [hp]; simp
      · rcases hp with rfl | rfl <;> simp
  · by_cases hv : v = 2
    · subst hv
      by_cases hb : b = 2
      · subst hb; exact ⟨s, r, by simp [newl, hr]⟩
      · exact ⟨c, base, by simp [newl, hb]⟩
    · refine ⟨c + 1, base ++ (if b = v then [] else [(c, v)]), by simp [newl, hv]⟩
theorem newl_lkp {l base : List (Nat × Nat)} {b c v : Nat} (h : Cut l c base b) (x : Nat) : lkp (newl base b c v) x = if x = c then v else lkp l x := by
  obtain ⟨hl, ⟨r, s, hr⟩, hlt, _, _⟩ := h
  have hsc : s < c := hlt (s, b) (by rw [hr]; simp)
  have hbx : c ≤ x → lkp base x = b := fun hx => by rw [hr, lkp_snoc, if_pos (by omega)]
  have hlx : lkp l x = if c ≤ x then 2 else lkp base x := by
    rcases hl with ⟨rfl, rfl⟩ | hl
    · split
      · rename_i hx; exact hbx hx
      · rfl
    · rw [hl, lkp_snoc]
  rw [hlx]
  unfold newl
  by_cases hb : b = v
  · rw [if_pos hb, List.nil_append]
    by_cases hv : v = 2
    · rw [if_pos hv, List.append_nil]
      by_cases hx : c ≤ x
      · rw [hbx hx, hb, if_pos hx]; split
        · rfl
        · exact hv
      · rw [if_neg (by omega), if_neg hx]
    · rw [if_neg hv, lkp_snoc]
      by_cases hx : c + 1 ≤ x
      · rw [if_pos hx, if_neg (by omega), if_pos (by omega)]
      · rw [if_neg hx]
        by_cases hxc : x = c
        · rw [if_pos hxc, hbx (by omega), hb]
        · rw [if_neg hxc, if_neg (by omega)]
  · rw [if_neg hb]
    by_cases hv : v = 2
    · rw [if_pos hv, List.append_nil, lkp_snoc]
      by_cases hx : c ≤ x
      · rw [if_pos hx, if_pos hx]; split
        · rfl
        · exact hv
      · rw [if_neg hx, if_neg (by omega), if_neg hx]
    · rw [if_neg hv, ← List.append_assoc, lkp_snoc, lkp_snoc]
      by_cases hx : c + 1 ≤ x
      · rw [if_pos hx, if_neg (by omega), if_pos (by omega)]
      · rw [if_neg hx]
        by_cases hxc : x = c
        · rw [if_pos (by omega), if_pos hxc]
        · rw [if_neg (by omega), if_neg hxc, if_neg (by omega)]
section
variable {sc : List Int} {n : Nat} {H : Hp} {Q : AV → Hp → Prop} {m md st vl : Nat} {l : List (Nat × Nat)}
theorem RmAt.keep {H' : Hp} {Y : List Nat} (h : RmAt H m md st vl l) (k : Keep Y H H') (h1 : m ∉ Y) (h2 : md ∉ Y) (h3 : st ∉ Y) (h4 : vl ∉ Y) : RmAt H' m md st vl l := ⟨k.get _ _ h1 h.i, k.get _ _ h2 h.a, k.get _ _ h3 h.s, k.get _ _ h4 h.v⟩
theorem RmAt.keep0 {H' : Hp} (h : RmAt H m md st vl l) (k : Keep [] H H') : RmAt H' m md st vl l := h.keep k (by simp) (by simp) (by simp) (by simp)
@[irreducible] noncomputable def rmTail : List S := [(.setA (.loc 0) 67 (.bin .add (.bin .add (.upto (.attr (.loc 0) 67) (.loc 4)) (.loc 7)) (.from (.attr (.loc 0) 67) (.loc 5)))),
  (.setA (.loc 0) 68 (.bin .add (.bin .add (.upto (.attr (.loc 0) 68) (.loc 4)) (.loc 8)) (.from (.attr (.loc 0) 68) (.loc 5))))]
theorem r_cat {F : Fun} {ls : List AV} {at_ k a s2 p e : Nat} {es : List (Nat × AV)} {xs ys : List AV} (h0 : ls[0]? = some (.ref m)) (h4 : ls[4]? = some (.int (p : Int))) (h5 : ls[5]? = some (.int (e : Int))) (hk : ls[k]? = some (.ref s2)) (g1 : H[m]? = some (.inst 132 md)) (g2 : H[md]? = some (.attrs es)) (g3 : lk es at_ = some (.ref a))
    (ha : H[a]? = some (.list xs)) (hs : H[s2]? = some (.list ys)) (hx : xs.length ≤ 1000) (hy : ys.length ≤ 1000) (q : ∀ r H', Keep [] H H' → H'[r]? = some (.list (xs.take p ++ ys ++ xs.drop e)) → Q (.ref r) H') :
    ev (thePI sc) F (.bin .add (.bin .add (.upto (.attr (.loc 0) at_) (.loc 4)) (.loc k)) (.from (.attr (.loc 0) at_) (.loc 5))) ls H Q := by
  refine locQ_o h0 (by simp) (a_get g1 g2 g3 ?_)
  refine locQ_o h4 (by simp) (s_upto (ob_ref ha) ⟨by omega, by omega⟩ ?_)
  rw [Int.toNat_natCast]
  refine locQ_o hk (by simp) (b_addL (ob_ref at_new) (ob_ref (at_app hs)) (by simp; omega) ?_)
  refine locQ_o h0 (by simp) (a_get (at_app (at_app g1)) (at_app (at_app g2)) g3 ?_)
  refine locQ_o h5 (by simp) (s_from (ob_ref (at_app (at_app ha))) ⟨by omega, by omega⟩ ?_)
  rw [Int.toNat_natCast]
  refine b_addL (ob_ref (at_app at_new)) (ob_ref at_new) (by simp; omega) ?_
  exact q _ _ (((Keep.app.tr Keep.app).tr Keep.app).tr Keep.app) at_new
theorem r_rm_put {c v : Nat} (hR : RmAt H m md st vl l) (hG : Good l c) (hc : 1 ≤ c) (hc2 : c ≤ 1000) (hl : l.length ≤ 100)
    (q : ∀ H' st' vl' l', Keep [md] H H' → RmAt H' m md st' vl' l' → Good l' (c + 1) → (∀ x, lkp l' x = if x = c then v else lkp l x) → l'.length ≤ l.length + 2 → Q .none H') : T (run (thePI sc) 200 (n + 2) 72 [.ref m, .int c, .int c, .str v] H) Q := by
  have h1 := hR.i
  have h2 := hR.a
  have h3 := hR.s
  have h4 := hR.v
  refine T_fn (ls := [.ref m, .int c, .int c, .str v, .unb, .unb, .unb, .unb, .unb]) rfl rfl ?_
  dsimp only [b_RangeMap_put]
  walk_at "ms"
  refine Br.of_f (by simp) ?_
  walk_at "ms"
  rw [show (c : Int) - 1 = ((c - 1 : Nat) : Int) by omega]
  refine r_place h3 hG.srt (by simpa using by omega) ?_
  intro p hp hp1 hp2
  rw [List.length_map] at hp
  obtain ⟨b, hC, hp0, sb, hb⟩ := cut_of hG hc hp hp1 hp2
  walk_at "ms"
  rw [show (c : Int) + 1 = ((c + 1 : Nat) : Int) by omega]
  refine r_place h3 hG.srt (by simpa using by omega) ?_
  intro p2 hq hq1 hq2
  rw [List.length_map] at hq
  have hp2 : p2 = l.length := by
    by_cases h : p2 = l.length
    · exact h
    · have hlt : p2 < l.length := by omega
      have := hq2 p2 (l[p2]).1 (by simp [hlt]) (Nat.le_refl _)
      have := hG.le _ (List.getElem_mem hlt)
      omega
  subst hp2
  obtain ⟨sl, r, hlast⟩ := hG.last
  have hlr : l.length = r.length + 1 := by rw [hlast]; simp
  have hll : l[l.length - 1]? = some (sl, 2) := by
    rw [show l.length - 1 = r.length by omega]
    rw [hlast]; simp
  walk_at "ms"
  refine i_listI (j := l.length - 1) (ob_ref h4) (by rw [svs_len]; simpa using by omega) (by omega) (svs_get (s := 2) (by simp [hll])) ?_
  have rest2 : ∀ (H2 : Hp) (s2 v2 : Nat) (mid : List (Nat × Nat)), Keep [] H H2 → H2[s2]? = some (.list (nvs (mid.map (·.1)))) → H2[v2]? = some (.list (svs (mid.map (·.2)))) → mid.length ≤ 2 → l.take p ++ mid = newl (l.take p) b c v →
      exs (thePI sc) (run (thePI sc) 200 (n + 1)) 200 rmTail [.ref m, .int c, .int c, .str v, .int p, .int l.length, .str 2, .ref s2, .ref v2] H2 (Iv fun _ H' => Q .none H') (Rv Q) := by
    intro H2 s2 v2 mid k2 hs2 hv2 hmid he
    have hR2 := hR.keep0 k2
    unfold rmTail
    refine (?_ : ev _ _ (.bin _ _ _) _ _ _)
    refine r_cat (by rfl) (by rfl) (by rfl) (by rfl) hR2.i hR2.a (by rfl) hR2.s hs2 (by rw [nvs_len]; simpa using by omega) (by rw [nvs_len]; simpa using by omega) ?_
    intro r3 H3 k3 hr3
    have hR3 := hR2.keep0 k3
    have hv3 := k3.get _ _ (by simp) hv2
    have g1 := hR3.i
    have g2 := hR3.a
    walk_at "m"
    walk_at "m"
    have n1 : md ≠ m := by rintro rfl; rw [g1] at g2; cases g2
    have n2 : md ≠ vl := by rintro rfl; rw [hR3.v] at g2; cases g2
    have n3 : md ≠ v2 := by rintro rfl; rw [hv3] at g2; cases g2
    have n4 : md ≠ r3 := by rintro rfl; rw [hr3] at g2; cases g2
    have g3 : (H3.set md (.attrs (putS [(66, .str 2), (67, .ref st), (68, .ref vl)] 67 (.ref r3))))[md]? = some (.attrs [(66, .str 2), (67, .ref r3), (68, .ref vl)]) := at_set g2
    refine (?_ : ev _ _ (.bin _ _ _) _ _ _)
    refine r_cat (by rfl) (by rfl) (by rfl) (by rfl) (at_ne n1 g1) g3 (by rfl) (at_ne n2 hR3.v) (at_ne n3 hv3) (by rw [svs_len]; simpa using by omega) (by rw [svs_len]; simpa using by omega) ?_
    intro r4 H4 k4 hr4
    have g4 := k4.get _ _ (by simp) (at_ne (o' := .attrs (putS [(66, .str 2), (67, .ref st), (68, .ref vl)] 67 (.ref r3))) n1 g1)
    have g5 := k4.get _ _ (by simp) g3
    have g6 := k4.get _ _ (by simp) (at_ne (o' := .attrs (putS [(66, .str 2), (67, .ref st), (68, .ref vl)] 67 (.ref r3))) n4 hr3)
    have n5 : md ≠ r4 := by rintro rfl; rw [hr4] at g5; cases g5
    walk_at "ms"
    refine q _ r3 r4 (l.take p ++ mid) ((((k2.tr k3).nil.put (.inl (by simp))).tr k4.nil).put (.inl (by simp))) ⟨at_ne n1 g4, at_set g5, ?_, ?_⟩ ?_ ?_ ?_
    · refine (at_ne n4 g6).trans ?_
      rw [List.drop_of_length_le (by simp [nvs_len]), List.append_nil, List.map_append, nvs_append, List.map_take]
      simp [nvs, List.map_take]
    · refine (at_ne n5 hr4).trans ?_
      rw [List.drop_of_length_le (by simp [svs_len]), List.append_nil, List.map_append, svs_append, List.map_take]
      simp [svs, List.map_take]
    · rw [he]; exact newl_good hC
    · intro x; rw [he]; exact newl_lkp hC x
    · simp; omega
  have rest1 : ∀ (H1 : Hp) (a1 a2 : Nat) (A : List (Nat × Nat)), Keep [] H H1 → H1[a1]? = some (.list (nvs (((c, v) :: A).map (·.1)))) → H1[a2]? = some (.list (svs (((c, v) :: A).map (·.2)))) → A = (if v = 2 then [] else [(c + 1, 2)]) →
      exs (thePI sc) (run (thePI sc) 200 (n + 1)) 200 ((.iff (.and (.cmp .gt (.loc 4) (.lit (.int 0))) (.call 65 [(.idx (.attr (.loc 0) 68) (.bin .sub (.loc 4) (.lit (.int 1)))), (.loc 3)])) [(.asgT [7, 8] (.tup [(.from (.loc 7) (.lit (.int 1))), (.from (.loc 8) (.lit (.int 1)))]))] []) :: rmTail)
        [.ref m, .int c, .int c, .str v, .int p, .int l.length, .str 2, .ref a1, .ref a2] H1 (Iv fun _ H' => Q .none H') (Rv Q) := by
    intro H1 a1 a2 A k1 ha1 ha2 hA
    have hA1 : A.length ≤ 1 := by rw [hA]; split <;> simp
    have hR1 := hR.keep0 k1
    have g1 := hR1.i
    have g2 := hR1.a
    walk_at "ms"
    refine T_and ?_
    walk_at "ms"
    refine Br.of_t (by simp; omega) ?_
    walk_at "ms"
    refine i_listI (j := p - 1) (ob_ref hR1.v) (by rw [svs_len]; simpa using by omega) (by omega) (svs_get (s := b) (by simp [hb])) ?_
    walk_at "ms"
    refine r_like ?_
    walk_at "ms"
    refine Br.mk (fun h => ?_) (fun h => ?_)
    · have h : b = v := of_decide_eq_true h
      walk_at "ms"
      refine s_from (ob_ref ha1) ⟨by decide, by simp [nvs_len]; omega⟩ ?_
      walk_at "ms"
      refine s_from (ob_ref (at_app ha2)) ⟨by decide, by simp [svs_len]; omega⟩ ?_
      walk_at "ms"
      refine rest2 _ _ _ A (((k1.tr Keep.app).tr Keep.app).tr Keep.app) (at_app (at_app at_new)) (at_app at_new) (by omega) ?_
      rw [newl, if_pos h, List.nil_append, ← hA]
    · have h : ¬ b = v := of_decide_eq_false h
      walk_at "ms"
      refine rest2 _ _ _ ((c, v) :: A) k1 ha1 ha2 (by simp; omega) ?_
      rw [newl, if_neg h, ← hA]; rfl
  rw [show (p : Int) - 1 + 1 = (p : Int) by omega, show (l.length : Int) - 1 + 1 = (l.length : Int) by omega]
  walk_at "ms"
  simp only [setAll, List.set_cons_succ, List.set_cons_zero]
  have ne12 : H.length ≠ (H ++ [AO.list [.int (c : Int)]]).length := by simp
  have a1 : (H ++ [AO.list [.int (c : Int)]] ++ [AO.list [.str v]] ++ [AO.tup [.ref H.length, .ref (H ++ [AO.list [.int (c : Int)]]).length]])[H.length]? = some (.list (nvs [c])) := at_app (at_app at_new)
  have a2 : (H ++ [AO.list [.int (c : Int)]] ++ [AO.list [.str v]] ++ [AO.tup [.ref H.length, .ref (H ++ [AO.list [.int (c : Int)]]).length]])[(H ++ [AO.list [.int (c : Int)]]).length]? = some (.list (svs [v])) := at_app at_new
  have k0 : Keep [] H (H ++ [AO.list [.int (c : Int)]] ++ [AO.list [.str v]] ++ [AO.tup [.ref H.length, .ref (H ++ [AO.list [.int (c : Int)]]).length]]) := (Keep.app.tr Keep.app).tr Keep.app
  have hle1 : H.length ≤ (H ++ [AO.list [.int (c : Int)]]).length := by simp
  generalize (H ++ [AO.list [.int (c : Int)]] ++ [AO.list [.str v]] ++ [AO.tup [.ref H.length, .ref (H ++ [AO.list [.int (c : Int)]]).length]]) = H1 at *
  generalize (H ++ [AO.list [.int (c : Int)]]).length = s2 at *
  have hle0 : H.length ≤ H.length := Nat.le_refl _
  generalize hs1 : H.length = s1 at ne12 a1 hle0 ⊢
  refine T_and ?_
  refine (c_lt ?_ : C _ _)
  refine (?_ : Br _ _ _)
  refine Br.of_t (decide_eq_true (by omega)) ?_
  walk_at "ms"
  refine r_like ?_
  walk_at "ms"
  refine Br.mk (fun h => ?_) (fun h => ?_)
  · have hv : ¬ v = 2 := by
      intro e; rw [e] at h; simp at h
    have app : X (exs (thePI sc) (run (thePI sc) 200 (n + 1)) 200 [(.ex (.bm .append (.loc 7) [(.bin .add (.loc 2) (.lit (.int 1)))])), (.ex (.bm .append (.loc 8) [(.loc 6)]))] [.ref m, .int c, .int c, .str v, .int p, .int l.length, .str 2, .ref s1, .ref s2] H1)
        (fun ls1 H2 => ls1 = [.ref m, .int c, .int c, .str v, .int p, .int l.length, .str 2, .ref s1, .ref s2] ∧ H2 = (H1.set s1 (.list (nvs [c] ++ [.int ((c : Int) + 1)]))).set s2 (.list (svs [v] ++ [.str 2]))) (Rv Q) := by
      walk_at "ms"
      exact ⟨rfl, rfl⟩
    refine (X.mono app ?_ (fun _ _ h => h)).go
    rintro ls1 H2 ⟨rfl, rfl⟩
    with_unfolding_all exact rest1 _ _ _ [(c + 1, 2)] ((k0.put (.inr (by omega))).put (.inr (by omega))) (at_ne (Ne.symm ne12) (at_set a1)) (at_set (at_ne ne12 a2)) (by rw [if_neg hv])
  · have hv : v = 2 := by
      by_cases e : v = 2
      · exact e
      · exfalso; simp [Ne.symm e] at h
    with_unfolding_all exact rest1 _ _ _ [] k0 a1 a2 (by rw [if_pos hv])
end
end Mine
end
-- V22
section
set_option tactic.hygienic false
namespace Mine
theorem lk_append (es : List (Nat × AV)) (k a : Nat) (v : AV) (h : k ≠ a) : lk (es ++ [(k, v)]) a = lk es a := by
  induction es with
  | nil => simp [lk, h]
  | cons x es ih =>
    obtain ⟨k', v'⟩ := x
    rw [List.cons_append, lk, lk, ih]
theorem lk_putS {es : List (Nat × AV)} {k a : Nat} {v : AV} (h : k ≠ a) : lk (putS es k v) a = lk es a := by
  unfold putS
  split
  · rename_i h2
    clear h2
    induction es with
    | nil => rfl
    | cons x es ih =>
      obtain ⟨k', v'⟩ := x
      rw [List.map_cons]
      by_cases hk : k' = k
      · subst hk; simp only [if_true, lk, if_neg h, ih]
      · simp only [hk, if_false, lk, ih]
  · exact lk_append es k a v h
theorem putS_len (es : List (Nat × AV)) (k : Nat) (v : AV) : (putS es k v).length ≤ es.length + 1 := by
  unfold putS; split <;> simp
/-- what stood ahead of n0 stands, and all lists -/
structure KeepD (n0 : Nat) (H H' : Hp) : Prop where
  len : H.length ≤ H'.length
  get : ∀ i o, H[i]? = some o → (i < n0 ∨ ∃ xs, o = .list xs) → H'[i]? = some o
theorem KeepD.of {n0 : Nat} {H H' : Hp} (k : Keep [] H H') : KeepD n0 H H' := ⟨k.len, fun i o h _ => k.get i o (by simp) h⟩
theorem KeepD.tr {n0 : Nat} {H H1 H2 : Hp} (a : KeepD n0 H H1) (b : KeepD n0 H1 H2) : KeepD n0 H H2 := ⟨Nat.le_trans a.len b.len, fun i o h q => b.get i o (a.get i o h q) q⟩
theorem KeepD.refl {n0 : Nat} {H : Hp} : KeepD n0 H H := ⟨Nat.le_refl _, fun _ _ h _ => h⟩
theorem KeepD.set {n0 a : Nat} {H H' : Hp} {o : AO} (k : Keep [a] H H') (h : n0 ≤ a) (ha : H[a]? = some o) (hn : ∀ xs, o ≠ .list xs) : KeepD n0 H H' :=
  ⟨k.len, fun i o' e q => k.get i o' (by
    intro m; simp at m; subst m
    rcases q with q | ⟨xs, rfl⟩
    · lia
    · rw [ha] at e; cases e; exact hn xs rfl) e⟩
section
variable {sc : List Int} {n : Nat} {H : Hp} {Q : AV → Hp → Prop}
theorem evs_lits {F : Fun} {ls : List AV} : ∀ (names : List Nat) {Q : QL}, Q (svs names) H → evs (thePI sc) F (names.map fun k => E.lit (.str k)) ls H Q
  | [], _, q => q
  | k :: r, Q, q => evs_lits r (Q := kCons2 (.str k) Q) q
theorem r_fill {f : Nat} {x : AV} {es : List (Nat × AV)} {e : E} {A : List AV → Hp → Prop} {R : AV → Hp → Prop} (names : List Nat) (hn : ∀ k ∈ names, k ≠ 19)
    (he : ∀ ls H (Q : AV → Hp → Prop), (∀ v H', Keep [] H H' → Q v H') → ev (thePI sc) (run (thePI sc) 200 n) e ls H Q) (h1 : H[f]? = some (.dictS es)) (h2 : lk es 19 = some (.str 2)) (h3 : es.length + names.length ≤ 1000)
    (q : ∀ x H' es', Keep [f] H H' → H'[f]? = some (.dictS es') → lk es' 19 = some (.str 2) → es'.length ≤ es.length + names.length → A [.ref f, x] H') :
    ex (thePI sc) (run (thePI sc) 200 n) 200 (.fr [1] .seq [(.tup (names.map fun k => E.lit (.str k)))] [(.setI (.loc 0) (.loc 1) e)]) [.ref f, x] H A R := by
  refine X_fr (fun j ls H' => ∃ x es', ls = [.ref f, x] ∧ Keep [f] H H' ∧ H'[f]? = some (.dictS es') ∧ lk es' 19 = some (.str 2) ∧ es'.length ≤ es.length + j ∧ H'[H.length]? = some (.tup (svs names))) ?_
  refine evs_lits names ?_
  refine w_seqT at_new ⟨?_, ?_, ?_, ?_⟩
  · exact ⟨x, es, rfl, Keep.app, at_app h1, h2, by lia, at_new⟩
  · rintro j ls H' hj ⟨x, es', rfl, _, _, _, _, g⟩; exact kept_at g
  · rintro j it ls H' hj ⟨x, es', rfl, k, g1, g2, g3, g4⟩
    obtain ⟨nm, hnm, rfl⟩ := seq_get hj
    have hnj := (List.getElem?_eq_some_iff.mp hnm).1
    have hne := hn nm (List.mem_of_getElem? hnm)
    refine ⟨rfl, ?_⟩
    simp only [setAll, List.set_cons_succ, List.set_cons_zero]
    refine ⟨he _ _ _ ?_⟩
    intro v H1 k1
    have g5 := k1.get _ _ (by simp) g1
    have g6 := k1.get _ _ (by simp) g4
    refine d_setS g5 (by lia) ?_
    have hf : f ≠ H.length := by have := at_lt h1; lia
    refine (?_ : Iv _ _ _)
    refine ⟨_, _, rfl, (k.tr k1.nil).put (.inl (by simp)), at_set g5, by rw [lk_putS hne]; exact g2, ?_, at_ne hf g6⟩
    have := putS_len es' nm v; lia
  · rintro ls H' ⟨x, es', rfl, k, g1, g2, g3, _⟩
    simp only [List.length_map, svs_len] at g3
    exact q x H' es' k g1 g2 g3
theorem r_defaults (q : ∀ f es H', Keep [] H H' → H.length ≤ f → H'[f]? = some (.dictS es) → lk es 19 = some (.str 2) → Q (.ref f) H') : T (run (thePI sc) 200 (n + 1) 122 [] H) Q := by
  refine T_fn (ls := [.unb, .unb]) rfl rfl ?_
  dsimp only [b_data_defaults]
  walk_at "ms"
  simp only [List.set_cons_zero]
  have e8 : (List.foldl (fun es kv => putS es kv.1 kv.2) [] ([73, 74, 19, 75, 76, 77, 78, 79].zip [AV.str 80, AV.int 0, AV.str 2, AV.str 81, AV.str 82, AV.str 83, AV.str 84, AV.str 85])).length ≤ 8 := by decide
  have e9 : lk (List.foldl (fun es kv => putS es kv.1 kv.2) [] ([73, 74, 19, 75, 76, 77, 78, 79].zip [AV.str 80, AV.int 0, AV.str 2, AV.str 81, AV.str 82, AV.str 83, AV.str 84, AV.str 85])) 19 = some (.str 2) := by decide
  generalize List.foldl (fun es kv => putS es kv.1 kv.2) [] ([73, 74, 19, 75, 76, 77, 78, 79].zip [AV.str 80, AV.int 0, AV.str 2, AV.str 81, AV.str 82, AV.str 83, AV.str 84, AV.str 85]) = es0 at *
  have k0 : Keep [] H (H ++ [AO.dictS es0]) := Keep.app
  have g0 : (H ++ [AO.dictS es0])[H.length]? = some (.dictS es0) := at_new
  generalize H ++ [AO.dictS es0] = H0 at *
  have hf : H.length ≤ H.length := Nat.le_refl _
  refine r_fill [86, 87, 88] (by decide) (fun ls H Q q => q _ _ Keep.refl) g0 e9 (by simp; lia) ?_
  intro x1 H1 es1 k1 g1 g2 g3
  simp only [List.length_cons, List.length_nil] at g3
  refine r_fill [90, 91, 92, 93, 94, 95, 96, 97, 98, 99, 100, 101, 102] (by decide) (fun ls H Q q => q _ _ Keep.refl) g1 g2 (by simp; lia) ?_
  intro x2 H2 es2 k2 g4 g5 g6
  simp only [List.length_cons, List.length_nil] at g6
  refine r_fill [103, 104, 105, 106, 107, 108, 109, 110, 111, 112, 113, 114, 115] (by decide) (fun ls H Q q => q _ _ Keep.refl) g4 g5 (by simp; lia) ?_
  intro x3 H3 es3 k3 g7 g8 g9
  simp only [List.length_cons, List.length_nil] at g9
  refine r_fill [116, 117, 118, 119] (by decide) (fun ls H Q q => q _ _ Keep.app) g7 g8 (by simp; lia) ?_
  intro x4 H4 es4 k4 g10 g11 g12
  simp only [List.length_cons, List.length_nil] at g12
  walk_at "ms"
  refine q _ (putS es4 120 _) _ (((((k0.trans k1 ?_).trans k2 ?_).trans k3 ?_).trans k4 ?_).tr Keep.app |>.tr Keep.app |>.put (.inr hf)) hf (at_set (at_app (at_app g10))) (by rw [lk_putS (by decide)]; exact g11)
  all_goals (intro z hz; simp at hz; subst hz; exact .inr hf)
theorem r_rm_new (q : ∀ m md st vl H', Keep [] H H' → H.length ≤ m → H.length ≤ md → RmAt H' m md st vl [(0, 2)] → Q (.ref m) H') : T (run (thePI sc) 200 (n + 1) 132 [.str 2] H) Q := by
  refine T_cls (ls := [.ref (H.length + 1), .str 2]) rfl rfl rfl rfl ?_
  dsimp only [b_RangeMap___init__]
  walk_at "ms"
  have hle : H.length ≤ H.length := Nat.le_refl _
  refine q _ H.length _ _ _ ((((Keep.app.put (.inr hle)).more.put (.inr hle)).more).put (.inr hle)) (Nat.le_succ _) hle ⟨by walk_at "h", at_setE ⟨_, by walk_at "h"⟩, at_ne (by simp) (at_app (at_ne (by simp) at_new)), at_ne (by simp) at_new⟩
end
theorem not1 {a b : Nat} (h : a ≠ b) : a ∉ [b] := fun m => h (List.mem_singleton.mp m)
inductive DtM (n0 : Nat) (H : Hp) (dt m md st vl : Nat) (l : List (Nat × Nat)) : Prop
  | mk (dd defs maps p w : Nat) (es : List (Nat × AV)) (h1 : H[dt]? = some (.inst 146 dd)) (h2 : H[dd]? = some (.attrs [(123, .ref defs), (124, .ref maps), (125, .ref p), (126, .ref w)])) (h3 : H[defs]? = some (.dictS es)) (h4 : lk es 19 = some (.str 2)) (h5 : n0 ≤ maps) (h6 : maps ≠ defs ∧ n0 ≤ defs) (h7 : n0 ≤ md) (h8 : H[maps]? = some (.dictS [(19, .ref m)])) (h9 : RmAt H m md st vl l) : DtM n0 H dt m md st vl l
inductive DtAt (n0 : Nat) (H : Hp) (dt : Nat) (l : List (Nat × Nat)) : Prop
  | no (dd defs maps p w : Nat) (es : List (Nat × AV)) (h1 : H[dt]? = some (.inst 146 dd)) (h2 : H[dd]? = some (.attrs [(123, .ref defs), (124, .ref maps), (125, .ref p), (126, .ref w)])) (h3 : H[defs]? = some (.dictS es)) (h4 : lk es 19 = some (.str 2)) (h5 : n0 ≤ maps) (h6 : maps ≠ defs ∧ n0 ≤ defs) (h7 : n0 ≤ H.length) (h8 : H[maps]? = some (.dictS [])) (h9 : l = [(0, 2)]) : DtAt n0 H dt l
  | yes (m md st vl : Nat) (h : DtM n0 H dt m md st vl l) : DtAt n0 H dt l
theorem DtM.keep0 {n0 : Nat} {H H' : Hp} {dt m md st vl : Nat} {l : List (Nat × Nat)} (h : DtM n0 H dt m md st vl l) (k : Keep [] H H') : DtM n0 H' dt m md st vl l := by
  obtain ⟨dd, defs, maps, p, w, es, h1, h2, h3, h4, h5, h6, h7, h8, h9⟩ := h
  exact ⟨dd, defs, maps, p, w, es, k.get _ _ (by simp) h1, k.get _ _ (by simp) h2, k.get _ _ (by simp) h3, h4, h5, h6, h7, k.get _ _ (by simp) h8, h9.keep0 k⟩
theorem DtAt.keep0 {n0 : Nat} {H H' : Hp} {dt : Nat} {l : List (Nat × Nat)} (h : DtAt n0 H dt l) (k : Keep [] H H') : DtAt n0 H' dt l := by
  rcases h with ⟨dd, defs, maps, p, w, es, h1, h2, h3, h4, h5, h6, h7, h8, h9⟩ | ⟨m, md, st, vl, h⟩
  · exact .no dd defs maps p w es (k.get _ _ (by simp) h1) (k.get _ _ (by simp) h2) (k.get _ _ (by simp) h3) h4 h5 h6 (Nat.le_trans h7 k.len) (k.get _ _ (by simp) h8) h9
  · exact .yes m md st vl (h.keep0 k)
theorem DtM.keepDk {n0 dk : Nat} {H H' : Hp} {dt m md st vl : Nat} {l : List (Nat × Nat)} {e0 : List (Nat × AV)} (h : DtM n0 H dt m md st vl l) (k : Keep [dk] H H') (hd : H[dk]? = some (.dictS e0)) (hlt : dk < n0) : DtM n0 H' dt m md st vl l := by
  obtain ⟨dd, defs, maps, p, w, es, h1, h2, h3, h4, h5, h6, h7, h8, h9⟩ := h
  have n1 : dt ≠ dk := by rintro rfl; rw [h1] at hd; cases hd
  have n2 : dd ≠ dk := by rintro rfl; rw [h2] at hd; cases hd
  have n3 : defs ≠ dk := by have := h6.2; lia
  have n4 : maps ≠ dk := by lia
  have n5 : m ≠ dk := by rintro rfl; rw [h9.i] at hd; cases hd
  have n6 : md ≠ dk := by rintro rfl; rw [h9.a] at hd; cases hd
  have n7 : st ≠ dk := by rintro rfl; rw [h9.s] at hd; cases hd
  have n8 : vl ≠ dk := by rintro rfl; rw [h9.v] at hd; cases hd
  exact ⟨dd, defs, maps, p, w, es, k.get _ _ (not1 n1) h1, k.get _ _ (not1 n2) h2, k.get _ _ (not1 n3) h3, h4, h5, h6, h7, k.get _ _ (not1 n4) h8, h9.keep k (not1 n5) (not1 n6) (not1 n7) (not1 n8)⟩
theorem DtAt.keepDk {n0 dk : Nat} {H H' : Hp} {dt : Nat} {l : List (Nat × Nat)} {e0 : List (Nat × AV)} (h : DtAt n0 H dt l) (k : Keep [dk] H H') (hd : H[dk]? = some (.dictS e0)) (hlt : dk < n0) : DtAt n0 H' dt l := by
  rcases h with ⟨dd, defs, maps, p, w, es, h1, h2, h3, h4, h5, h6, h7, h8, h9⟩ | ⟨m, md, st, vl, h⟩
  · have n1 : dt ≠ dk := by rintro rfl; rw [h1] at hd; cases hd
    have n2 : dd ≠ dk := by rintro rfl; rw [h2] at hd; cases hd
    have n3 : defs ≠ dk := by have := h6.2; lia
    have n4 : maps ≠ dk := by lia
    exact .no dd defs maps p w es (k.get _ _ (not1 n1) h1) (k.get _ _ (not1 n2) h2) (k.get _ _ (not1 n3) h3) h4 h5 h6 (Nat.le_trans h7 k.len) (k.get _ _ (not1 n4) h8) h9
  · exact .yes m md st vl (h.keepDk k hd hlt)
theorem good0 : Good [(0, 2)] 0 := ⟨by simp, ⟨2, [], rfl⟩, by simp, ⟨0, [], rfl⟩⟩
theorem Good.mono {l : List (Nat × Nat)} {a b : Nat} (h : Good l a) (hab : a ≤ b) : Good l b := ⟨h.srt, h.hd, fun p m => Nat.le_trans (h.le p m) hab, h.last⟩
section
variable {sc : List Int} {n : Nat} {H : Hp} {Q : AV → Hp → Prop} {n0 dt : Nat} {l : List (Nat × Nat)}
theorem r_data_new (q : ∀ dt H', Keep [] H H' → DtAt H.length H' dt [(0, 2)] → Q (.ref dt) H') : T (run (thePI sc) 200 (n + 2) 146 [] H) Q := by
  refine T_cls (ls := [.ref (H.length + 1)]) rfl rfl rfl rfl ?_
  dsimp only [b_Data___init__]
  walk_at "ms"
  have k0 : Keep [] H (H ++ [AO.attrs [], AO.inst 146 H.length]) := Keep.app
  have g1 : (H ++ [AO.attrs [], AO.inst 146 H.length])[H.length + 1]? = some (.inst 146 H.length) := at_new2
  have g2 : (H ++ [AO.attrs [], AO.inst 146 H.length])[H.length]? = some (.attrs []) := at_new
  generalize H ++ [AO.attrs [], AO.inst 146 H.length] = H0 at *
  refine r_defaults ?_
  intro f es H1 k1 hf g3 g4
  have g5 := k1.get _ _ (by simp) g1
  have g6 := k1.get _ _ (by simp) g2
  have k01 := k0.tr k1
  have hle : H.length ≤ H.length := Nat.le_refl _
  have hlt := at_lt g5
  have hlt0 := at_lt g1
  have hfl : f < H1.length := at_lt g3
  have hfn : H.length ≠ f := by lia
  walk_at "ms"
  refine q _ _ ((((((k01.put (.inr hle)).more.put (.inr hle)).more.put (.inr hle)).more.put (.inr hle))) ) (.no H.length f _ _ _ es (by walk_at "h") (at_setE ⟨_, by walk_at "h"⟩) (by walk_at "h") g4 ?_ ⟨?_, by lia⟩ ?_ (at_ne ?_ (at_app (at_ne ?_ (at_app (at_ne ?_ at_new))))) rfl)
  all_goals (simp only [List.length_set, List.length_append, List.length_cons, List.length_nil]; lia)
theorem r_map_of (hD : DtAt n0 H dt l) (q : ∀ m md st vl H', KeepD n0 H H' → DtM n0 H' dt m md st vl l → Q (.ref m) H') : T (run (thePI sc) 200 (n + 2) 133 [.ref dt, .str 19] H) Q := by
  refine T_fn (ls := [.ref dt, .str 19]) rfl rfl ?_
  dsimp only [b_Data_map_of]
  rcases hD with ⟨dd, defs, maps, p, w, es, h1, h2, h3, h4, h5, h6, h7, h8, rfl⟩ | ⟨m, md, st, vl, h⟩
  · walk_at "ms"
    rw [valS_lk, h4]
    refine r_rm_new ?_
    intro m md st vl H1 k1 hm hmd hR
    have g1 := k1.get _ _ (by simp) h1
    have g2 := k1.get _ _ (by simp) h2
    have g3 := k1.get _ _ (by simp) h3
    have g8 := k1.get _ _ (by simp) h8
    have n1 : maps ≠ dt := by rintro rfl; rw [g1] at g8; cases g8
    have n2 : maps ≠ dd := by rintro rfl; rw [g2] at g8; cases g8
    walk_at "ms"
    refine q m md st vl _ ((KeepD.of k1).tr (KeepD.set (a := maps) (Keep.set (by simp)) h5 g8 (by simp))) ⟨dd, defs, maps, p, w, es, at_ne n1 g1, at_ne n2 g2, at_ne h6.1 g3, h4, h5, h6, by lia, at_set g8, ?_⟩
    have n3 : maps ≠ m := by rintro rfl; rw [hR.i] at g8; cases g8
    have n4 : maps ≠ md := by rintro rfl; rw [hR.a] at g8; cases g8
    have n5 : maps ≠ st := by rintro rfl; rw [hR.s] at g8; cases g8
    have n6 : maps ≠ vl := by rintro rfl; rw [hR.v] at g8; cases g8
    exact hR.keep (Y := [maps]) (Keep.set (by simp)) (by simp; exact Ne.symm n3) (by simp; exact Ne.symm n4) (by simp; exact Ne.symm n5) (by simp; exact Ne.symm n6)
  · have h0 := h
    obtain ⟨dd, defs, maps, p, w, es, h1, h2, h3, h4, h5, h6, h7, h8, h9⟩ := h0
    walk_at "ms"
    exact q m md st vl _ KeepD.refl h
theorem r_data_put {c v : Nat} (hD : DtAt n0 H dt l) (hG : Good l c) (hc : 1 ≤ c) (hc2 : c ≤ 1000) (hl : l.length ≤ 100)
    (q : ∀ H' l', KeepD n0 H H' → DtAt n0 H' dt l' → Good l' (c + 1) → (∀ x, lkp l' x = if x = c then v else lkp l x) → l'.length ≤ l.length + 2 → Q .none H') : T (run (thePI sc) 200 (n + 3) 130 [.ref dt, .str 19, .int c, .int c, .str v] H) Q := by
  refine T_fn (ls := [.ref dt, .str 19, .int c, .int c, .str v]) rfl rfl ?_
  dsimp only [b_Data_put]
  have hd : ∃ dd at_, H[dt]? = some (.inst 146 dd) ∧ H[dd]? = some (.attrs at_) ∧ lk at_ 129 = none := by
    rcases hD with ⟨dd, defs, maps, p, w, es, h1, h2, _⟩ | ⟨m, md, st, vl, dd, defs, maps, p, w, es, h1, h2, _⟩
    · exact ⟨_, _, h1, h2, rfl⟩
    · exact ⟨_, _, h1, h2, rfl⟩
  obtain ⟨dd, at_, h1, h2, h3⟩ := hd
  refine X_go (a_meth h1 h2 (by rw [valS_lk]; exact h3) (by rfl) ?_)
  walk_at "ms"
  refine r_map_of hD ?_
  intro m md st vl H1 k1 hM
  obtain ⟨dd, defs, maps, p, w, es, h1, h2, h3, h4, h5, h6, h7, h8, h9⟩ := hM
  have g1 := h9.i
  have g2 := h9.a
  walk_at "ms"
  refine r_rm_put h9 hG hc hc2 hl ?_
  intro H2 st' vl' l' k2 hR hG' hlk hln
  walk_at "ms"
  have n1 : dt ≠ md := by rintro rfl; rw [h1] at g2; cases g2
  have n2 : dd ≠ md := by rintro rfl; rw [h2] at g2; cases g2
  have n3 : defs ≠ md := by rintro rfl; rw [h3] at g2; cases g2
  have n4 : maps ≠ md := by rintro rfl; rw [h8] at g2; cases g2
  exact q H2 l' (k1.tr (KeepD.set k2 h7 g2 (by simp))) (.yes m md st' vl' ⟨dd, defs, maps, p, w, es, k2.get _ _ (not1 n1) h1, k2.get _ _ (not1 n2) h2, k2.get _ _ (not1 n3) h3, h4, h5, h6, h7, k2.get _ _ (not1 n4) h8, hR⟩) hG' hlk hln
theorem r_data_get {c c0 : Nat} (hD : DtAt n0 H dt l) (hG : Good l c0) (hl : l.length ≤ 150) (q : Q (.str (lkp l c)) H) : T (run (thePI sc) 200 (n + 3) 131 [.ref dt, .str 19, .int c] H) Q := by
  refine T_fn (ls := [.ref dt, .str 19, .int c]) rfl rfl ?_
  dsimp only [b_Data_get]
  rcases hD with ⟨dd, defs, maps, p, w, es, h1, h2, h3, h4, h5, h6, h7, h8, rfl⟩ | ⟨m, md, st, vl, h⟩
  · walk_at "ms"
    rw [valS_lk, h4]
    exact q
  · obtain ⟨dd, defs, maps, p, w, es, h1, h2, h3, h4, h5, h6, h7, h8, h9⟩ := h
    have g1 := h9.i
    have g2 := h9.a
    walk_at "ms"
    exact r_rm_get h9 hG hl ⟨q⟩
end
end Mine
end
-- V23
section
set_option tactic.hygienic false
namespace Mine
noncomputable def baseOf (ks : List Nat) (w : Nat) : Nat := if w = 30 then 0 else if w = 31 then 1 else match fs false ks 0 with
  | none => if w = 32 then 1 else 0
  | some k => if k = 2 then 0 else 1
theorem seqn_get {ks : List Nat} {j : Nat} {it : List AV} (h : ((nvs ks).map fun x => [x])[j]? = some it) : ∃ k, ks[j]? = some k ∧ it = [.int (k : Nat)] := by
  simp only [nvs, List.getElem?_map, Option.map_map, Option.map_eq_some_iff] at h
  obtain ⟨k, h1, rfl⟩ := h
  exact ⟨k, h1, rfl⟩
section
variable {sc : List Int} {n : Nat} {H : Hp} {Q : AV → Hp → Prop} {n0 dt c0 : Nat} {l : List (Nat × Nat)}
theorem r_bidi_kinds {tx : Nat} {cs : List Nat} (ht : H[tx]? = some (.list (nvs cs))) (hc : cs.length ≤ 1000) (hD : DtAt n0 H dt l) (hG : Good l c0) (hl : l.length ≤ 150)
    (q : ∀ r H', Keep [] H H' → H'[r]? = some (.list (svs (cs.map (lkp l)))) → Q (.ref r) H') : T (run (thePI sc) 200 (n + 4) 21 [.ref tx, .ref dt] H) Q := by
  refine T_fn (ls := [.ref tx, .ref dt]) rfl rfl ?_
  dsimp only [b_bidi_kinds]
  have hd : ∃ dd at_, H[dt]? = some (.inst 146 dd) ∧ H[dd]? = some (.attrs at_) ∧ lk at_ 20 = none := by
    rcases hD with ⟨dd, defs, maps, p, w, es, h1, h2, _⟩ | ⟨m, md, st, vl, dd, defs, maps, p, w, es, h1, h2, _⟩
    · exact ⟨_, _, h1, h2, rfl⟩
    · exact ⟨_, _, h1, h2, rfl⟩
  obtain ⟨dd, at_, h1, h2, h3⟩ := hd
  walk_at "ms"
  refine T_comp (cs := [.ref dt]) rfl ?_
  walk_at "ms"
  refine w_seqL ht ⟨by simp [nvs_len]; lia, ?_⟩
  refine compL_rule (fun j acc H' => H' = H ∧ acc = svs ((cs.take j).map (lkp l))) cstep_go _ 0 [] H _ ⟨rfl, by simp [svs]⟩ ?_ ?_ ?_
  · rintro j acc H' hj ⟨rfl, _⟩; exact kept_at ht
  · rintro j it acc H' hj ⟨rfl, rfl⟩
    obtain ⟨c, hcj, rfl⟩ := seqn_get hj
    refine ⟨rfl, ?_⟩
    refine a_meth h1 h2 (by rw [valS_lk]; exact h3) (by rfl) ?_
    walk_at "ms"
    refine r_data_get hD hG hl ?_
    walk_at "ms"
    refine ⟨rfl, ?_⟩
    rw [Nat.zero_add, List.take_add_one, hcj]
    simp [svs]
  · rintro ws H' ⟨rfl, h⟩
    simp only [List.nil_append, List.length_map, nvs_len, Nat.zero_add, List.take_length] at h
    rw [h]
    exact ⟨q _ _ Keep.app at_new⟩
theorem r_bidi_base {a w : Nat} {ks : List Nat} (ha : H[a]? = some (.list (svs ks))) (hl : ks.length ≤ 100) (q : ∀ H', Keep [] H H' → Q (.int (baseOf ks w)) H') : T (run (thePI sc) 200 (n + 2) 27 [.ref a, .str w] H) Q := by
  refine T_fn (ls := [.ref a, .str w, .unb]) rfl rfl ?_
  dsimp only [b_bidi_base]
  walk_at "mp"
  refine Br.mk (fun h => ?_) (fun h => ?_)
  · have h : w = 30 ∨ w = 31 := by simpa using h
    walk_at "ms"
    refine Br.mk (fun h2 => ?_) (fun h2 => ?_)
    · walk_at "ms"
      have := q H Keep.refl
      rw [baseOf, if_pos (of_decide_eq_true h2)] at this
      exact this
    · walk_at "ms"
      have h2 := of_decide_eq_false h2
      have := q H Keep.refl
      rw [baseOf, if_neg h2, if_pos (by lia)] at this
      exact this
  · have h : ¬ w = 30 ∧ ¬ w = 31 := by simpa using h
    walk_at "ms"
    refine r_isolate_pairs ha (by lia) ?_
    intro pr H1 hpr k1 hp
    have ha1 := k1.get _ _ (by simp) ha
    walk_at "ms"
    rw [svs_len]
    refine r_first_strong (b := false) (bg := 0) ha1 hp (by lia) (pairsOk_mach ks) (by lia) (by simp [EndOk]) ?_
    have q1 := q H1 k1
    rw [baseOf, if_neg h.1, if_neg h.2] at q1
    rw [List.drop_zero]
    cases hf : fs false ks 0 with
    | none =>
      rw [hf] at q1
      have q1 : Q (.int ((if w = 32 then 1 else 0 : Nat) : Int)) H1 := q1
      walk_at "ms"
      refine Br.mk (fun h2 => ?_) (fun h2 => ?_)
      · rw [if_pos (of_decide_eq_true h2)] at q1
        walk_at "ms"
        exact q1
      · rw [if_neg (of_decide_eq_false h2)] at q1
        walk_at "ms"
        exact q1
    | some k =>
      rw [hf] at q1
      have q1 : Q (.int ((if k = 2 then 0 else 1 : Nat) : Int)) H1 := q1
      walk_at "ms"
      simp only [Option.some.injEq]
      refine Br.mk (fun h2 => ?_) (fun h2 => ?_)
      · rw [if_pos (of_decide_eq_true h2)] at q1
        walk_at "ms"
        exact q1
      · rw [if_neg (of_decide_eq_false h2)] at q1
        walk_at "ms"
        exact q1
theorem r_base_level {tx w : Nat} {cs : List Nat} (ht : H[tx]? = some (.list (nvs cs))) (hc : cs.length ≤ 100) (hD : DtAt n0 H dt l) (hG : Good l c0) (hl : l.length ≤ 150)
    (q : ∀ H', Keep [] H H' → Q (.int (baseOf (cs.map (lkp l)) w)) H') : T (run (thePI sc) 200 (n + 5) 29 [.ref tx, .ref dt, .str w] H) Q := by
  refine T_fn (ls := [.ref tx, .ref dt, .str w]) rfl rfl ?_
  dsimp only [b_base_level]
  walk_at "ms"
  refine r_bidi_kinds ht (by lia) hD hG hl ?_
  intro r H1 k1 hr
  walk_at "ms"
  refine r_bidi_base hr (by simpa using hc) ?_
  intro H2 k2
  exact ⟨q _ (k1.tr k2)⟩
theorem r_base_level2 {tx : Nat} {cs : List Nat} (ht : H[tx]? = some (.list (nvs cs))) (hc : cs.length ≤ 100) (hD : DtAt n0 H dt l) (hG : Good l c0) (hl : l.length ≤ 150)
    (q : ∀ H', Keep [] H H' → Q (.int (baseOf (cs.map (lkp l)) 28)) H') : T (run (thePI sc) 200 (n + 5) 29 [.ref tx, .ref dt] H) Q := by
  refine T_fn (ls := [.ref tx, .ref dt, .str 28]) rfl rfl ?_
  dsimp only [b_base_level]
  walk_at "ms"
  refine r_bidi_kinds ht (by lia) hD hG hl ?_
  intro r H1 k1 hr
  walk_at "ms"
  refine r_bidi_base hr (by simpa using hc) ?_
  intro H2 k2
  exact ⟨q _ (k1.tr k2)⟩
end
theorem fs_strong {b : Bool} : ∀ {r : List Nat} {d k : Nat}, fs b r d = some k → strong k = true
  | [], _, _, h => by cases h
  | x :: r, d, k, h => by
    rw [fs_cons] at h
    split at h
    · cases h
    · split at h
      · exact fs_strong h
      · split at h
        · exact fs_strong h
        · split at h
          · rename_i h2; cases h; exact h2.2
          · exact fs_strong h
theorem fs_sep {b : Bool} {m : List Nat} : ∀ {r : List Nat} {d : Nat}, 16 ∈ r → fs b (r ++ m) d = fs b r d
  | x :: r, d, h => by
    rw [List.cons_append, fs_cons, fs_cons]
    by_cases hx : x = 16
    · rw [if_pos (.inl hx), if_pos (.inl hx)]
    · have h' : 16 ∈ r := by
        rcases List.mem_cons.mp h with h | h
        · exact absurd h.symm hx
        · exact h
      rw [fs_sep h', fs_sep h', fs_sep h']
theorem base_auto (ks : List Nat) : (baseOf ks 28 : Int) = if rightsO (fs false ks 0) = true then 1 else 0 := by
  unfold baseOf
  rw [if_neg (by decide), if_neg (by decide)]
  cases h : fs false ks 0 with
  | none => rfl
  | some k =>
    have := fs_strong h
    simp only [strong, Bool.or_eq_true, decide_eq_true_eq] at this
    rcases this with (rfl | rfl) | rfl <;> rfl
theorem base_autortl (ks : List Nat) : (baseOf ks 32 : Int) = if (!decide (fs false ks 0 = some 2)) = true then 1 else 0 := by
  unfold baseOf
  rw [if_neg (by decide), if_neg (by decide)]
  cases h : fs false ks 0 with
  | none => rfl
  | some k =>
    by_cases hk : k = 2
    · subst hk; rfl
    · simp [hk]
end Mine
end
-- V24
section
set_option tactic.hygienic false
namespace Mine
def plain (v : AV) : Prop := v = .none ∨ (∃ i, v = .int i) ∨ ∃ k, v = .str k
theorem eqL_self : ∀ {xs : List AV}, (∀ x ∈ xs, plain x) → eqL xs xs = some true
  | [], _ => rfl
  | x :: xs, h => by
    have h1 : eqAt x x = some true := by
      
      rcases h x (.head _) with rfl | ⟨i, rfl⟩ | ⟨k, rfl⟩
      · rfl
      · exact eqAt_int i
      · exact eqAt_str k
    rw [eqL, h1, eqL_self fun y m => h y (List.mem_cons_of_mem _ m)]; rfl
section
variable {sc : List Int} {H : Hp} {K : Bool → Prop}
theorem eq_tups {u v : AV} {a b c d : Nat} {xs ys : List AV} (h1 : obj (thePI sc) H u = some (.tup [.ref a, .ref b])) (h2 : obj (thePI sc) H v = some (.tup [.ref c, .ref d])) (ha : H[a]? = some (.list xs)) (hb : H[b]? = some (.list ys)) (hc : H[c]? = some (.list xs)) (hd : H[d]? = some (.list ys))
    (px : ∀ x ∈ xs, plain x) (py : ∀ x ∈ ys, plain x) : eq2 (thePI sc) H u v = some true := by
  have ha' : obj (thePI sc) H (.ref a) = some (.list xs) := ha
  have hb' : obj (thePI sc) H (.ref b) = some (.list ys) := hb
  have hc' : obj (thePI sc) H (.ref c) = some (.list xs) := hc
  have hd' : obj (thePI sc) H (.ref d) = some (.list ys) := hd
  rw [eq2_tup h1 h2, eq2L, eq2L, eq1_list ha' hc', eq1_list hb' hd', if_pos rfl, if_pos rfl, eqL_self px, eqL_self py]
  rfl
theorem c_eqT {u v : AV} (h : eq2 (thePI sc) H u v = some true) (q : K true) : C (evCmp (thePI sc) .eq u v H) K := ⟨true, h, q⟩
theorem c_neT {u v : AV} (h : eq2 (thePI sc) H u v = some true) (q : K false) : C (evCmp (thePI sc) .ne u v H) K := ⟨false, by simp only [evCmp, h]; rfl, q⟩
theorem eq_dicts {u v : AV} {es fs : List (Int × AV)} (h1 : obj (thePI sc) H u = some (.dictI es)) (h2 : obj (thePI sc) H v = some (.dictI fs)) (h : eqDict es fs = some true) : eq2 (thePI sc) H u v = some true :=
  (eq2_dict h1 h2).trans h
end
theorem cOut_plain (base k : Nat) (st : Stk) : plain (cOut base k st).1 ∧ plain (cOut base k st).2 := by
  unfold cOut
  split
  · exact ⟨.inl rfl, .inr (.inr ⟨_, rfl⟩)⟩
  · split
    · exact ⟨.inr (.inl ⟨_, rfl⟩), .inr (.inr ⟨_, rfl⟩)⟩
    · exact ⟨.inr (.inl ⟨_, rfl⟩), .inr (.inr ⟨_, rfl⟩)⟩
theorem cGo_plain (base dep : Nat) (ks : List Nat) : ∀ (r : List Nat) (at_ : Nat) (st : Stk), (∀ x ∈ (cGo base dep ks r at_ st).map (·.1), plain x) ∧ (∀ x ∈ (cGo base dep ks r at_ st).map (·.2), plain x)
  | [], _, _ => by simp [cGo]
  | k :: r, at_, st => by
    obtain ⟨h1, h2⟩ := cGo_plain base dep ks r (at_ + 1) (cNext dep ks at_ k st)
    obtain ⟨h3, h4⟩ := cOut_plain base k st
    rw [cGo, List.map_cons, List.map_cons]
    refine ⟨fun x m => ?_, fun x m => ?_⟩
    · rcases List.mem_cons.mp m with rfl | m
      · exact h3
      · exact h1 x m
    · rcases List.mem_cons.mp m with rfl | m
      · exact h4
      · exact h2 x m
section
variable {sc : List Int} {n : Nat} {H : Hp} {Q : AV → Hp → Prop}
/-- the explicit levels of the code and of the law, side by side -/
theorem r_explicit3 {a base dep : Nat} {ks : List Nat} (ha : H[a]? = some (.list (svs ks))) (hl : ks.length ≤ 100)
    (q : ∀ r lv cl H', Keep [] H H' → H'[r]? = some (.tup [.ref lv, .ref cl]) → H'[lv]? = some (.list ((lGo base dep ks ks 0 []).map (·.1))) → H'[cl]? = some (.list ((lGo base dep ks ks 0 []).map (·.2))) → Q (.ref r) H') : T (run (thePI sc) 200 (n + 4) 62 [.ref a, .int base, .int dep] H) Q := by
  refine T_fn (ls := [.ref a, .int base, .int dep, .unb, .unb, .unb, .unb, .unb, .unb, .unb, .unb, .unb]) rfl rfl ?_
  refine r_explicit0 (base := base) (dep := dep) ha hl ?_
  rw [explicit_eq]
  exact q
theorem r_explicit2 {a base : Nat} {ks : List Nat} (ha : H[a]? = some (.list (svs ks))) (hl : ks.length ≤ 100)
    (q : ∀ r lv cl H', Keep [] H H' → H'[r]? = some (.tup [.ref lv, .ref cl]) → H'[lv]? = some (.list ((lGo base 125 ks ks 0 []).map (·.1))) → H'[cl]? = some (.list ((lGo base 125 ks ks 0 []).map (·.2))) → Q (.ref r) H') : T (run (thePI sc) 200 (n + 4) 62 [.ref a, .int base] H) Q := by
  refine T_fn (ls := [.ref a, .int base, .int ((125 : Nat) : Int), .unb, .unb, .unb, .unb, .unb, .unb, .unb, .unb, .unb]) rfl rfl ?_
  refine r_explicit0 (base := base) (dep := 125) ha hl ?_
  rw [explicit_eq]
  exact q
theorem lGo_plain (base dep : Nat) (ks : List Nat) : (∀ x ∈ (lGo base dep ks ks 0 []).map (·.1), plain x) ∧ (∀ x ∈ (lGo base dep ks ks 0 []).map (·.2), plain x) := by
  rw [← explicit_eq]; exact cGo_plain base dep ks ks 0 _
theorem lGo_len (base dep : Nat) (ks : List Nat) : ∀ (r : List Nat) (at_ : Nat) (gs : List Frm), (lGo base dep ks r at_ gs).length = r.length
  | [], _, _ => rfl
  | k :: r, at_, gs => by rw [lGo, List.length_cons, lGo_len base dep ks r]; rfl
theorem r_deep_right {dk c at_ : Nat} {cells : List Int} (hd : Deck H dk c cells at_) (hl : cells.length ≤ 40) (ha : at_ ≤ 100) (q : ∀ H', Q (.bool true) H') : T (run (thePI sc) 200 (n + 5) 144 [.ref dk] H) Q := by
  refine T_fn (ls := [.ref dk, .unb, .unb, .unb, .unb]) rfl rfl ?_
  dsimp only [b__law_deep_right]
  walk_at "ms"
  refine r_draw hd hl (by lia) (by decide) ?_
  intro v1 H1 h1 h2 k1 hd1
  obtain ⟨base, rfl⟩ : ∃ b : Nat, v1 = (b : Int) := ⟨v1.toNat, by lia⟩
  walk_at "ms"
  refine r_draw (hd1.keep (Y := []) Keep.app (by simp) (by simp)) hl (by lia) (by decide) ?_
  intro v2 H2 h3 h4 k2 hd2
  have g1 : H2[H1.length]? = some (.list [.str 11, .str 7]) := k2.get _ _ (by have := at_lt hd1.d; simp; lia) at_new
  refine s_from (ob_ref g1) ⟨h3, by simp⟩ ?_
  walk_at "ms"
  refine s_upto (ob_ref at_new) ⟨by decide, by simp; lia⟩ ?_
  walk_at "ms"
  have hx : ∃ x : Nat, (x = 11 ∨ x = 7) ∧ List.take (1 : Int).toNat (List.drop v2.toNat [AV.str 11, .str 7]) = [.str x] := by
    have : v2 = 0 ∨ v2 = 1 := by lia
    rcases this with rfl | rfl
    · exact ⟨11, .inl rfl, rfl⟩
    · exact ⟨7, .inr rfl, rfl⟩
  obtain ⟨x, hx, hxe⟩ := hx
  rw [hxe]
  refine r_draw ((hd2.keep (Y := []) Keep.app (by simp) (by simp)).keep (Y := []) Keep.app (by simp) (by simp)) hl (by lia) (by decide) ?_
  intro v3 H3 h5 h6 k3 hd3
  obtain ⟨m, rfl⟩ : ∃ b : Nat, v3 = (b : Int) := ⟨v3.toNat, by lia⟩
  walk_at "ms"
  have g2 : H3[(H2 ++ [AO.list (List.drop v2.toNat [AV.str 11, .str 7])]).length]? = some (.list [.str x]) := k3.get _ _ (by have := at_lt hd2.d; simp; lia) at_new
  refine b_mulL (ob_ref g2) ⟨by lia, by lia⟩ ?_
  rw [show (60 + (m : Int)).toNat = 60 + m by lia]
  walk_at "ms"
  refine b_addL (ob_ref (at_app at_new)) (ob_ref at_new) (by simp; lia) ?_
  have e1 : List.replicate (60 + m) (AV.str x) ++ [.str 2, .str 5, .str 4] = svs (List.replicate (60 + m) x ++ [2, 5, 4]) := by simp [svs]
  rw [e1]
  have hln : (List.replicate (60 + m) x ++ [2, 5, 4]).length ≤ 70 := by simp; lia
  generalize List.replicate (60 + m) x ++ [2, 5, 4] = ks at hln ⊢
  have gk : (H3 ++ [AO.list (List.replicate (60 + m) (AV.str x))] ++ [AO.list [AV.str 2, .str 5, .str 4]] ++ [AO.list (svs ks)])[(H3 ++ [AO.list (List.replicate (60 + m) (AV.str x))] ++ [AO.list [AV.str 2, .str 5, .str 4]]).length]? = some (.list (svs ks)) := at_new
  generalize H3 ++ [AO.list (List.replicate (60 + m) (AV.str x))] ++ [AO.list [AV.str 2, .str 5, .str 4]] ++ [AO.list (svs ks)] = H4 at gk ⊢
  generalize (H3 ++ [AO.list (List.replicate (60 + m) (AV.str x))] ++ [AO.list [AV.str 2, .str 5, .str 4]]).length = a at gk ⊢
  simp only [List.set_cons_succ, List.set_cons_zero]
  walk_at "ms"
  refine r_explicit2 (base := base) (at_new (o := .list (svs ks))) (by lia) ?_
  intro r lv cl H5 k5 hr hlv hcl
  have gk5 := k5.get _ _ (by simp) (at_app gk)
  have hll := lGo_len base 125 ks ks 0 []
  walk_at "ms"
  refine r_law_explicit (base := base) (dep := 125) (at_app (at_app (at_app gk5))) (by lia) ?_
  intro r2 lv2 cl2 H6 k6 hr2 hlv2 hcl2
  obtain ⟨p1, p2⟩ := lGo_plain base 125 ks
  refine c_eqT (eq_tups (ob_ref (k6.get _ _ (by simp) at_new)) (ob_ref hr2) (k6.get _ _ (by simp) (at_app (at_app at_new))) (k6.get _ _ (by simp) (at_app at_new)) hlv2 hcl2 p1 p2) ?_
  walk_at "ms"
  exact q _
end
end Mine
end
-- V25
section
set_option tactic.hygienic false
namespace Mine
theorem c_neOS {sc : List Int} {H : Hp} {K : Bool → Prop} {o : Option Nat} {k : Nat} (q : K (!decide (o = some k))) : C (evCmp (thePI sc) .ne (oS o) (.str k) H) K := by
  cases o with
  | none => exact ⟨true, rfl, by simpa using q⟩
  | some j => exact ⟨!decide (j = k), rfl, by simpa using q⟩
theorem allStr_svs (ks : List Nat) : allStr (svs ks) = true := by
  simp [allStr, svs]
theorem any_svs {ks : List Nat} {k : Nat} : ((svs ks).any fun x => x = .str k) = true ↔ k ∈ ks := by
  simp [svs]
theorem svs_lit17 : List.take (16 : Int).toNat [(AV.str 0), (.str 1), (.str 2), (.str 3), (.str 4), (.str 5), (.str 6), (.str 7), (.str 8), (.str 9), (.str 10), (.str 11), (.str 12), (.str 13), (.str 14), (.str 15), (.str 5)] ++ [.str 16] = svs (List.range 17) := rfl
theorem idx17 : ∀ k : Nat, k ≤ 16 → ((svs (List.range 17)).findIdx? fun x => x = .str k) = some k := by
  have : ∀ k ∈ List.range 17, ((svs (List.range 17)).findIdx? fun x => x = .str k) = some k := by decide
  intro k hk
  exact this k (List.mem_range.mpr (by lia))
theorem KeepD.deck {n0 : Nat} {H H' : Hp} {dk c at_ : Nat} {cells : List Int} (k : KeepD n0 H H') (h : Deck H dk c cells at_) (hd : dk < n0) : Deck H' dk c cells at_ := ⟨k.get _ _ h.d (.inl hd), k.get _ _ h.c (.inr ⟨_, rfl⟩)⟩
end Mine
end
open Mine
local macro_rules | `(tactic| walk_at "m") => do wkRules #[] ["c_neOS"]
section
namespace Mine
@[irreducible] noncomputable def law3 : List S := [(.asgT [10, 11] (.tup [(.call 146 []), (.bin .add (.upto (.glob 145) (.lit (.int 16))) (.list [(.lit (.str 16))]))])),
  (.fr [12, 13] .enum [(.loc 11)] [(.iff (.or (.cmp .inn (.loc 13) (.loc 2)) (.cmp .eq (.loc 13) (.lit (.str 4)))) [(.ex (.um 128 (.loc 10) [(.lit (.str 19)), (.bin .add (.lit (.int 100)) (.loc 12)), (.bin .add (.lit (.int 100)) (.loc 12)), (.loc 13)]))] [])]),
  (.asgT [14, 15] (.tup [(.comp [11] .seq [(.loc 2)] 1 [] (.bin .add (.lit (.int 100)) (.bm .index (.loc 0) [(.loc 1)]))), (.call 139 [(.loc 2), (.lit (.int 0)), (.lit (.bool false))])])),
  (.asg 9 (.dictS [30, 31, 28, 32] [(.lit (.int 0)), (.lit (.int 1)), (.prim .int [(.cmp .inn (.loc 15) (.tup [(.lit (.str 4)), (.lit (.str 9))]))]), (.prim .int [(.cmp .ne (.loc 15) (.lit (.str 2)))])])),
  (.asg 16 (.idx (.list [(.lit (.str 28)), (.lit (.str 32)), (.lit (.str 30)), (.lit (.str 31))]) (.call 138 [(.loc 1), (.lit (.int 4))]))),
  (.iff (.and (.cmp .inn (.lit (.str 16)) (.loc 2)) (.cmp .ne (.call 29 [(.bin .add (.loc 14) (.list [(.bin .add (.lit (.int 100)) (.bm .index (.loc 11) [(.lit (.str 4))]))])), (.loc 10), (.lit (.str 28))]) (.idx (.loc 9) (.lit (.str 28))))) [(.ret (.lit (.bool false)))] []),
  (.ret (.and (.cmp .eq (.call 29 [(.loc 14), (.loc 10), (.loc 16)]) (.idx (.loc 9) (.loc 16))) (.cmp .eq (.call 29 [(.loc 14), (.loc 10)]) (.idx (.loc 9) (.lit (.str 28))))))]
section
variable {sc : List Int} {n : Nat} {H : Hp} {Q : AV → Hp → Prop}
/-- the text's codes -/
theorem r_text {ls : List AV} {a kn : Nat} {ks : List Nat} (h2 : ls[2]? = some (.ref a)) (h11 : ls[11]? = some (.ref kn)) (ha : H[a]? = some (.list (svs ks))) (hk : H[kn]? = some (.list (svs (List.range 17)))) (hl : ks.length ≤ 100) (h16 : ∀ k ∈ ks, k ≤ 16)
    (q : Q (.ref H.length) (H ++ [.list (nvs (ks.map fun k => 100 + k))])) : ev (thePI sc) (run (thePI sc) 200 n) (.comp [11] .seq [(.loc 2)] 1 [] (.bin .add (.lit (.int 100)) (.bm .index (.loc 0) [(.loc 1)]))) ls H Q := by
  refine T_comp (cs := [.ref kn]) (by rw [List.mapM_cons, h11]; rfl) ?_
  refine locQ_o h2 (by simp) ?_
  refine w_seqL ha ⟨by simp [svs_len]; lia, ?_⟩
  refine compL_rule (fun j acc H' => H' = H ∧ acc = nvs ((ks.take j).map fun k => 100 + k)) cstep_go _ 0 [] H _ ⟨rfl, by simp [nvs]⟩ ?_ ?_ ?_
  · rintro j acc H' hj ⟨rfl, _⟩; exact kept_at ha
  · rintro j it acc H' hj ⟨rfl, rfl⟩
    obtain ⟨k, hkj, rfl⟩ := seq_get hj
    refine ⟨rfl, ?_⟩
    walk_at "ms"
    refine m_index (ob_ref hk) (by rw [allStr_svs]; rfl) (idx17 k (h16 k (List.mem_of_getElem? hkj))) ?_
    walk_at "ms"
    refine ⟨rfl, ?_⟩
    rw [Nat.zero_add, List.take_add_one, hkj]
    simp [nvs]
  · rintro ws H' ⟨rfl, h⟩
    simp only [List.nil_append, List.length_map, svs_len, Nat.zero_add, List.take_length] at h
    rw [h]
    exact q
inductive KnI (H2 : Hp) (n0 dt : Nat) (ks : List Nat) (j : Nat) (H' : Hp) : Prop
  | mk (l : List (Nat × Nat)) (c0 : KeepD n0 H2 H') (c1 : DtAt n0 H' dt l) (c2 : Good l (100 + j)) (c3 : l.length ≤ 1 + 2 * j) (c4 : ∀ k, lkp l (100 + k) = if k < j ∧ (k ∈ ks ∨ k = 4) then k else 2) : KnI H2 n0 dt ks j H'
theorem r_law3 {dk c at_ a : Nat} {cells : List Int} {base dep : AV} {ks : List Nat} {y5 y6 y7 y8 y9 y10 y11 y12 y13 y14 y15 y16 : AV} (hd : Deck H dk c cells at_) (hl : cells.length ≤ 40) (hat : at_ ≤ 100) (ha : H[a]? = some (.list (svs ks))) (hk : ks.length ≤ 20) (h16 : ∀ k ∈ ks, k ≤ 16) (q : ∀ H', Q (.bool true) H') :
    X (exs (thePI sc) (run (thePI sc) 200 (n + 6)) 200 law3 [.st 5, .ref dk, .ref a, base, dep, y5, y6, y7, y8, y9, y10, y11, y12, y13, y14, y15, y16] H) (Iv fun _ H' => Q .none H') (Rv Q) := by
  unfold law3
  -- the database and the known classes
  have s1 : ex (thePI sc) (run (thePI sc) 200 (n + 6)) 200 (.asgT [10, 11] (.tup [(.call 146 []), (.bin .add (.upto (.glob 145) (.lit (.int 16))) (.list [(.lit (.str 16))]))])) [.st 5, .ref dk, .ref a, base, dep, y5, y6, y7, y8, y9, y10, y11, y12, y13, y14, y15, y16] H
      (fun ls1 H1 => ∃ dt kn, ls1 = [.st 5, .ref dk, .ref a, base, dep, y5, y6, y7, y8, y9, .ref dt, .ref kn, y12, y13, y14, y15, y16] ∧ Keep [] H H1 ∧ DtAt H.length H1 dt [(0, 2)] ∧ H1[kn]? = some (.list (svs (List.range 17)))) (Rv Q) := by
    walk_at "ms"
    refine r_data_new ?_
    intro dt H1 k1 hD1
    walk_at "ms"
    refine s_upto (xs := [(.str 0), (.str 1), (.str 2), (.str 3), (.str 4), (.str 5), (.str 6), (.str 7), (.str 8), (.str 9), (.str 10), (.str 11), (.str 12), (.str 13), (.str 14), (.str 15), (.str 5)]) rfl ⟨by decide, by decide⟩ ?_
    walk_at "ms"
    refine b_addL (ob_ref (at_app at_new)) (ob_ref at_new) (by decide) ?_
    rw [svs_lit17]
    walk_at "ms"
    exact ⟨dt, _, rfl, k1.tr Keep.app |>.tr Keep.app |>.tr Keep.app |>.tr Keep.app, (((hD1.keep0 Keep.app).keep0 Keep.app).keep0 Keep.app).keep0 Keep.app, at_app at_new⟩
  refine X_go (ex_mono s1 ?_)
  rintro ls1 H1 ⟨dt, kn, rfl, k1, hD1, hkn⟩
  have ha1 := k1.get _ _ (by simp) ha
  have hd1 := hd.keep k1 (by simp) (by simp)
  have hdlt := at_lt hd.d
  -- the classes are laid
  have s2 : ex (thePI sc) (run (thePI sc) 200 (n + 6)) 200 (.fr [12, 13] .enum [(.loc 11)] [(.iff (.or (.cmp .inn (.loc 13) (.loc 2)) (.cmp .eq (.loc 13) (.lit (.str 4)))) [(.ex (.um 128 (.loc 10) [(.lit (.str 19)), (.bin .add (.lit (.int 100)) (.loc 12)), (.bin .add (.lit (.int 100)) (.loc 12)), (.loc 13)]))] [])]) [.st 5, .ref dk, .ref a, base, dep, y5, y6, y7, y8, y9, .ref dt, .ref kn, y12, y13, y14, y15, y16] H1
      (fun ls2 H2 => ∃ z12 z13, ls2 = [.st 5, .ref dk, .ref a, base, dep, y5, y6, y7, y8, y9, .ref dt, .ref kn, z12, z13, y14, y15, y16] ∧ KnI H1 H.length dt ks 17 H2) (Rv Q) := by
    refine X_fr (fun j ls H' => ∃ z12 z13, ls = [.st 5, .ref dk, .ref a, base, dep, y5, y6, y7, y8, y9, .ref dt, .ref kn, z12, z13, y14, y15, y16] ∧ KnI H1 H.length dt ks j H') ?_
    walk_at "ms"
    refine w_enum hkn ?_
    refine ⟨?_, ?_, ?_, ?_⟩
    · exact ⟨_, _, rfl, [(0, 2)], KeepD.refl, hD1, good0.mono (by lia), by simp, fun k => by simp [lkp]⟩
    · rintro j ls H' hj ⟨z12, z13, rfl, l, kD, _⟩
      exact kept_at (kD.get _ _ hkn (.inr ⟨_, rfl⟩))
    · rintro j it ls H' hj ⟨z12, z13, rfl, l, kD, hD, hG, hll, hlk⟩
      obtain ⟨k, hkj, rfl⟩ := enum_get hj
      have hj17 : j < 17 := by have := (List.getElem?_eq_some_iff.mp hkj).1; simpa using this
      obtain rfl : k = j := by rw [List.getElem?_range hj17] at hkj; cases hkj; rfl
      refine ⟨rfl, ?_⟩
      have haH := kD.get _ _ ha1 (.inr ⟨_, rfl⟩)
      simp only [setAll, List.set_cons_succ, List.set_cons_zero]
      walk_at "n"
      walk_at "n"
      refine T_or' ?_
      walk_at "n"
      refine c_inL (ob_ref haH) (allStr_svs ks) ?_
      walk_at "mp"
      have hmem : (((svs ks).any fun x => x = .str k) || decide (k = 4)) = decide (k ∈ ks ∨ k = 4) := by
        rw [Bool.decide_or]; congr 1
        by_cases h : k ∈ ks
        · rw [decide_eq_true h]; exact any_svs.mpr h
        · rw [decide_eq_false h]
          cases e : (svs ks).any fun x => x = .str k with
          | false => rfl
          | true => exact absurd (any_svs.mp e) h
      rw [hmem]
      refine Br.mk (fun h => ?_) (fun h => ?_)
      · have h := of_decide_eq_true h
        have hdd : ∃ dd at_, H'[dt]? = some (.inst 146 dd) ∧ H'[dd]? = some (.attrs at_) ∧ lk at_ 128 = none := by
          rcases hD with ⟨dd, defs, maps, p, w, es, h1, h2, _⟩ | ⟨m, md, st, vl, dd, defs, maps, p, w, es, h1, h2, _⟩
          · exact ⟨_, _, h1, h2, rfl⟩
          · exact ⟨_, _, h1, h2, rfl⟩
        obtain ⟨dd, at_, g1, g2, g3⟩ := hdd
        refine a_meth g1 g2 (by rw [valS_lk]; exact g3) (by rfl) ?_
        walk_at "ms"
        rw [show (100 : Int) + (k : Int) = ((100 + k : Nat) : Int) by lia]
        refine r_data_put hD hG (by lia) (by lia) (by lia) ?_
        intro H2 l' kD2 hD2 hG2 hlk2 hll2
        walk_at "ms"
        refine ⟨_, _, rfl, l', kD.tr kD2, hD2, hG2, by lia, fun x => ?_⟩
        rw [hlk2, hlk x]
        by_cases hx : x = k
        · subst hx; rw [if_pos rfl, if_pos ⟨by lia, h⟩]
        · rw [if_neg (by lia)]
          by_cases hx2 : x < k ∧ (x ∈ ks ∨ x = 4)
          · rw [if_pos hx2, if_pos ⟨by lia, hx2.2⟩]
          · rw [if_neg hx2, if_neg (fun q => hx2 ⟨by lia, q.2⟩)]
      · have h := of_decide_eq_false h
        walk_at "ms"
        refine ⟨_, _, rfl, l, kD, hD, hG.mono (by lia), by lia, fun x => ?_⟩
        rw [hlk x]
        by_cases hx : x = k
        · subst hx; rw [if_neg (by lia), if_neg (fun q => h q.2)]
        · by_cases hx2 : x < k ∧ (x ∈ ks ∨ x = 4)
          · rw [if_pos hx2, if_pos ⟨by lia, hx2.2⟩]
          · rw [if_neg hx2, if_neg (fun q => hx2 ⟨by lia, q.2⟩)]
    · rintro ls H' ⟨z12, z13, rfl, h⟩
      simp only [List.length_map, List.length_zipIdx, svs_len, List.length_range] at h
      exact ⟨_, _, rfl, h⟩
  refine ex_mono s2 ?_
  rintro ls2 H2 ⟨z12, z13, rfl, l, kD, hD2, hG2, hll, hlk⟩
  have ha2 := kD.get _ _ ha1 (.inr ⟨_, rfl⟩)
  have hkn2 := kD.get _ _ hkn (.inr ⟨_, rfl⟩)
  have hd2 := kD.deck hd1 hdlt
  have hlk' : ∀ k, k ≤ 16 → (k ∈ ks ∨ k = 4) → lkp l (100 + k) = k := fun k h1 h2 => by rw [hlk, if_pos ⟨by lia, h2⟩]
  have hmap : ∀ m : List Nat, (∀ k ∈ m, k ≤ 16 ∧ (k ∈ ks ∨ k = 4)) → (m.map fun k => 100 + k).map (lkp l) = m := fun m hm => by
    rw [List.map_map]
    conv => rhs; rw [← List.map_id m]
    exact List.map_congr_left fun k hk => hlk' k (hm k hk).1 (hm k hk).2
  have hm1 := hmap ks fun k h => ⟨h16 k h, .inl h⟩
  have hm2 : ((ks.map fun k => 100 + k) ++ [104]).map (lkp l) = ks ++ [4] := by
    rw [List.map_append, hm1]
    congr 1
    simpa using hlk' 4 (by decide) (.inr rfl)
  -- the text
  have s3 : ex (thePI sc) (run (thePI sc) 200 (n + 6)) 200 (.asgT [14, 15] (.tup [(.comp [11] .seq [(.loc 2)] 1 [] (.bin .add (.lit (.int 100)) (.bm .index (.loc 0) [(.loc 1)]))), (.call 139 [(.loc 2), (.lit (.int 0)), (.lit (.bool false))])])) [.st 5, .ref dk, .ref a, base, dep, y5, y6, y7, y8, y9, .ref dt, .ref kn, z12, z13, y14, y15, y16] H2
      (fun ls3 H3 => ∃ tx, ls3 = [.st 5, .ref dk, .ref a, base, dep, y5, y6, y7, y8, y9, .ref dt, .ref kn, z12, z13, .ref tx, oS (fs false ks 0), y16] ∧ Keep [] H2 H3 ∧ H3[tx]? = some (.list (nvs (ks.map fun k => 100 + k)))) (Rv Q) := by
    refine r_text (by rfl) (by rfl) ha2 hkn2 (by lia) h16 ?_
    walk_at "ms"
    refine r_law_first (bg := 0) (at_app ha2) (by lia) ?_
    intro H3 k3
    rw [List.drop_zero]
    walk_at "ms"
    exact ⟨_, rfl, (Keep.app.tr k3).more, at_app (k3.get _ _ (by simp) at_new)⟩
  refine ex_mono s3 ?_
  rintro ls3 H3 ⟨tx, rfl, k3, htx⟩
  have ha3 := k3.get _ _ (by simp) ha2
  have hkn3 := k3.get _ _ (by simp) hkn2
  have hd3 := hd2.keep k3 (by simp) (by simp)
  have hD3 := hD2.keep0 k3
  clear s1 s2 s3
  have hA := base_auto ks
  have hB := base_autortl ks
  -- what is due
  have s4 : ex (thePI sc) (run (thePI sc) 200 (n + 6)) 200 (.asg 9 (.dictS [30, 31, 28, 32] [(.lit (.int 0)), (.lit (.int 1)), (.prim .int [(.cmp .inn (.loc 15) (.tup [(.lit (.str 4)), (.lit (.str 9))]))]), (.prim .int [(.cmp .ne (.loc 15) (.lit (.str 2)))])])) [.st 5, .ref dk, .ref a, base, dep, y5, y6, y7, y8, y9, .ref dt, .ref kn, z12, z13, .ref tx, oS (fs false ks 0), y16] H3
      (fun ls4 H4 => ∃ du, ls4 = [.st 5, .ref dk, .ref a, base, dep, y5, y6, y7, y8, .ref du, .ref dt, .ref kn, z12, z13, .ref tx, oS (fs false ks 0), y16] ∧ Keep [] H3 H4 ∧ H3.length ≤ du ∧ H4[du]? = some (.dictS [(30, .int 0), (31, .int 1), (28, .int (baseOf ks 28)), (32, .int (baseOf ks 32))])) (Rv Q) := by
    walk_at "ms"
    rw [← hA, ← hB]
    exact ⟨_, rfl, Keep.app.tr Keep.app, by simp, at_new⟩
  refine ex_mono s4 ?_
  rintro ls4 H4 ⟨du, rfl, k4, hdu0, hdu⟩
  have ha4 := k4.get _ _ (by simp) ha3
  have hkn4 := k4.get _ _ (by simp) hkn3
  have htx4 := k4.get _ _ (by simp) htx
  have hd4 := hd3.keep k4 (by simp) (by simp)
  have hD4 := hD3.keep0 k4
  have hlen1 := k1.len
  have hlen2 := kD.len
  have hlen3 := k3.len
  clear s4
  -- the word
  have s5 : ex (thePI sc) (run (thePI sc) 200 (n + 6)) 200 (.asg 16 (.idx (.list [(.lit (.str 28)), (.lit (.str 32)), (.lit (.str 30)), (.lit (.str 31))]) (.call 138 [(.loc 1), (.lit (.int 4))]))) [.st 5, .ref dk, .ref a, base, dep, y5, y6, y7, y8, .ref du, .ref dt, .ref kn, z12, z13, .ref tx, oS (fs false ks 0), y16] H4
      (fun ls5 H5 => ∃ w, ls5 = [.st 5, .ref dk, .ref a, base, dep, y5, y6, y7, y8, .ref du, .ref dt, .ref kn, z12, z13, .ref tx, oS (fs false ks 0), .str w] ∧ Keep [dk] H4 H5 ∧ (w = 28 ∨ w = 32 ∨ w = 30 ∨ w = 31)) (Rv Q) := by
    walk_at "ms"
    refine r_draw (hd4.keep (Y := []) Keep.app (by simp) (by simp)) hl (by lia) (by decide) ?_
    intro v H5 h1 h2 k5 hd5
    have hdk4 := at_lt hd4.d
    have g : H5[H4.length]? = some (.list [.str 28, .str 32, .str 30, .str 31]) := k5.get _ _ (by simp; lia) at_new
    have hv : ∃ w : Nat, ([AV.str 28, .str 32, .str 30, .str 31])[v.toNat]? = some (.str w) ∧ (w = 28 ∨ w = 32 ∨ w = 30 ∨ w = 31) := by
      have : v = 0 ∨ v = 1 ∨ v = 2 ∨ v = 3 := int4 h1 h2
      rcases this with rfl | rfl | rfl | rfl
      · exact ⟨28, rfl, by lia⟩
      · exact ⟨32, rfl, by lia⟩
      · exact ⟨30, rfl, by lia⟩
      · exact ⟨31, rfl, by lia⟩
    obtain ⟨w, hw, hw4⟩ := hv
    walk_at "ms"
    refine i_listI (j := v.toNat) (ob_ref g) (by decide) (by lia) hw ?_
    walk_at "ms"
    exact ⟨w, rfl, Keep.app.tr k5, hw4⟩
  refine ex_mono s5 ?_
  rintro ls5 H5 ⟨w, rfl, k5, hw⟩
  have na : a ≠ dk := by rintro rfl; have e := hd4.d; rw [ha4] at e; cases e
  have nkn : kn ≠ dk := by rintro rfl; have e := hd4.d; rw [hkn4] at e; cases e
  have ntx : tx ≠ dk := by rintro rfl; have e := hd4.d; rw [htx4] at e; cases e
  have ndu : du ≠ dk := by lia
  have ha5 := k5.get _ _ (by simpa using na) ha4
  have hkn5 := k5.get _ _ (by simpa using nkn) hkn4
  have htx5 := k5.get _ _ (by simpa using ntx) htx4
  have hdu5 := k5.get _ _ (by simpa using ndu) hdu
  have hD5 := hD4.keepDk k5 hd4.d hdlt
  clear s5
  have hll2 : l.length ≤ 150 := by lia
  -- a paragraph behind the first
  have s6 : ex (thePI sc) (run (thePI sc) 200 (n + 6)) 200 (.iff (.and (.cmp .inn (.lit (.str 16)) (.loc 2)) (.cmp .ne (.call 29 [(.bin .add (.loc 14) (.list [(.bin .add (.lit (.int 100)) (.bm .index (.loc 11) [(.lit (.str 4))]))])), (.loc 10), (.lit (.str 28))]) (.idx (.loc 9) (.lit (.str 28))))) [(.ret (.lit (.bool false)))] []) [.st 5, .ref dk, .ref a, base, dep, y5, y6, y7, y8, .ref du, .ref dt, .ref kn, z12, z13, .ref tx, oS (fs false ks 0), .str w] H5
      (fun ls6 H6 => ls6 = [.st 5, .ref dk, .ref a, base, dep, y5, y6, y7, y8, .ref du, .ref dt, .ref kn, z12, z13, .ref tx, oS (fs false ks 0), .str w] ∧ Keep [] H5 H6) (Rv Q) := by
    walk_at "n"
    refine T_and ?_
    walk_at "n"
    refine c_inL (ob_ref ha5) (allStr_svs ks) ?_
    walk_at "n"
    refine Br.mk (fun h => ?_) (fun h => ?_)
    · have h : 16 ∈ ks := any_svs.mp h
      walk_at "ms"
      refine m_index (ob_ref hkn5) (by rw [allStr_svs]; rfl) (idx17 4 (by decide)) ?_
      walk_at "ms"
      refine b_addL (ob_ref (at_app htx5)) (ob_ref at_new) (by rw [nvs_len]; simp; lia) ?_
      rw [show nvs (ks.map fun k => 100 + k) ++ [AV.int (100 + ((4 : Nat) : Int))] = nvs ((ks.map fun k => 100 + k) ++ [104]) by rw [nvs_append]; rfl]
      walk_at "ms"
      refine r_base_level at_new (by simp; lia) ((hD5.keep0 Keep.app).keep0 Keep.app) hG2 hll2 ?_
      intro H6 k6
      rw [hm2]
      have hs : baseOf (ks ++ [4]) 28 = baseOf ks 28 := by
        unfold baseOf
        rw [fs_sep h]
      rw [hs]
      have hdu6 := k6.get _ _ (by simp) (at_app (Z := [AO.list (nvs ((ks.map fun k => 100 + k) ++ [104]))]) (at_app (Z := [AO.list [AV.int (100 + ((4 : Nat) : Int))]]) hdu5))
      walk_at "ms"
      refine Br.of_f (by simp) ?_
      walk_at "ms"
      exact ⟨rfl, (Keep.app.tr Keep.app).tr k6⟩
    · walk_at "ms"
      exact ⟨rfl, Keep.refl⟩
  refine ex_mono s6 ?_
  rintro ls6 H6 ⟨rfl, k6⟩
  clear s6
  have htx6 := k6.get _ _ (by simp) htx5
  have hdu6 := k6.get _ _ (by simp) hdu5
  have hD6 := hD5.keep0 k6
  -- the end
  have hfin : ∀ H', Keep [] H6 H' → ev (thePI sc) (run (thePI sc) 200 (n + 6)) (.cmp .eq (.call 29 [(.loc 14), (.loc 10)]) (.idx (.loc 9) (.lit (.str 28)))) [.st 5, .ref dk, .ref a, base, dep, y5, y6, y7, y8, .ref du, .ref dt, .ref kn, z12, z13, .ref tx, oS (fs false ks 0), .str w] H' (Rv Q) := by
    intro H' k'
    have htx' := k'.get _ _ (by simp) htx6
    walk_at "ms"
    refine r_base_level2 htx' (by simp; lia) (hD6.keep0 k') hG2 hll2 ?_
    intro H'' k''
    rw [hm1]
    have hdu'' := k''.get _ _ (by simp) (k'.get _ _ (by simp) hdu6)
    walk_at "ms"
    rw [decide_eq_true rfl]
    exact q _
  walk_at "n"
  refine T_and ?_
  walk_at "ms"
  refine r_base_level htx6 (by simp; lia) hD6 hG2 hll2 ?_
  intro H7 k7
  rw [hm1]
  have hdu7 := k7.get _ _ (by simp) hdu6
  have hfin7 := hfin H7 k7
  walk_at "ms"
  rcases hw with rfl | rfl | rfl | rfl
  · refine i_dictL (ob_ref hdu7) rfl ?_
    walk_at "n"
    refine c_eqI ?_
    walk_at "n"
    refine Br.of_t (by simp) hfin7
  · refine i_dictL (ob_ref hdu7) rfl ?_
    walk_at "n"
    refine c_eqI ?_
    walk_at "n"
    refine Br.of_t (by simp) hfin7
  · refine i_dictL (ob_ref hdu7) rfl ?_
    walk_at "n"
    refine c_eqI ?_
    walk_at "n"
    refine Br.of_t (by simp [baseOf]) hfin7
  · refine i_dictL (ob_ref hdu7) rfl ?_
    walk_at "n"
    refine c_eqI ?_
    walk_at "n"
    refine Br.of_t (by simp [baseOf]) hfin7
end
end Mine
end
-- V26
section
set_option tactic.hygienic false
namespace Mine
/-- the places rs hold pairs, one for each of kvs -/
noncomputable def PrsAt (H : Hp) : List Nat → List (Int × AV) → Prop
  | [], [] => True
  | r :: rs, kv :: kvs => H[r]? = some (.tup [.int kv.1, kv.2]) ∧ PrsAt H rs kvs
  | _, _ => False
theorem PrsAt.keep {H H' : Hp} (k : Keep [] H H') : ∀ {rs : List Nat} {kvs : List (Int × AV)}, PrsAt H rs kvs → PrsAt H' rs kvs
  | [], [], _ => trivial
  | _ :: _, _ :: _, h => ⟨k.get _ _ (by simp) h.1, PrsAt.keep k h.2⟩
  | [], _ :: _, h => h.elim
  | _ :: _, [], h => h.elim
theorem PrsAt.append {H : Hp} : ∀ {rs rs2 : List Nat} {kvs kvs2 : List (Int × AV)}, PrsAt H rs kvs → PrsAt H rs2 kvs2 → PrsAt H (rs ++ rs2) (kvs ++ kvs2)
  | [], _, [], _, _, h2 => h2
  | _ :: _, _, _ :: _, _, h, h2 => ⟨h.1, PrsAt.append h.2 h2⟩
  | [], _, _ :: _, _, h, _ => h.elim
  | _ :: _, _, [], _, h, _ => h.elim
theorem mapM_pairs {sc : List Int} {H : Hp} : ∀ {rs : List Nat} {kvs : List (Int × AV)}, PrsAt H rs kvs → (rs.map AV.ref).mapM (pairOf (thePI sc) H) = some kvs
  | [], [], _ => rfl
  | r :: rs, (k, v) :: kvs, h => by
    have e : pairOf (thePI sc) H (.ref r) = some (k, v) := by
      have h1 : obj (thePI sc) H (.ref r) = some (.tup [.int k, v]) := h.1
      simp only [pairOf, h1]
    rw [List.map_cons, List.mapM_cons, e, mapM_pairs h.2]; rfl
  | [], _ :: _, h => h.elim
  | _ :: _, [], h => h.elim
theorem prs_tups (Z : Hp) : ∀ (es : List (Int × AV)) (H : Hp), PrsAt (H ++ (pairTups es ++ Z)) ((List.range es.length).map fun j => H.length + j) es
  | [], _ => trivial
  | kv :: es, H => by
    have h := prs_tups Z es (H ++ [.tup [.int kv.1, kv.2]])
    rw [List.length_cons, List.range_succ_eq_map, List.map_cons, List.map_map]
    refine ⟨by simp [pairTups], ?_⟩
    have e1 : H ++ [AO.tup [.int kv.1, kv.2]] ++ (pairTups es ++ Z) = H ++ (pairTups (kv :: es) ++ Z) := by simp [pairTups]
    have e2 : ((List.range es.length).map fun j => (H ++ [AO.tup [.int kv.1, kv.2]]).length + j) = (List.range es.length).map ((fun j => H.length + j) ∘ Nat.succ) := by
      refine List.map_congr_left fun j _ => ?_
      simp; lia
    rw [e1, e2] at h
    exact h
section
variable {sc : List Int} {n : Nat} {H : Hp} {Q : AV → Hp → Prop}
theorem p_items {u : AV} {es : List (Int × AV)} (h : obj (thePI sc) H u = some (.dictI es)) (hl : es.length ≤ 1000000)
    (q : ∀ r rs H', Keep [] H H' → H'[r]? = some (.list (rs.map .ref)) → PrsAt H' rs es → rs.length = es.length → Q (.ref r) H') : TO (evPr (thePI sc) .items [u] H) Q := by
  refine ⟨.ref (H.length + es.length), H ++ (pairTups es ++ [.list ((List.range es.length).map fun j => .ref (H.length + j))]), (by simp only [evPr, evItems, h, hl, if_true]), ?_⟩
  refine q _ ((List.range es.length).map fun j => H.length + j) _ Keep.app ?_ (prs_tups _ es H) (by simp)
  rw [← List.append_assoc, List.map_map, show H.length + es.length = (H ++ pairTups es).length by simp [pairTups]]
  exact at_new
theorem p_dictL {u : AV} {rs : List Nat} {kvs : List (Int × AV)} (h : obj (thePI sc) H u = some (.list (rs.map .ref))) (hp : PrsAt H rs kvs) (hl : rs.length ≤ 1000000)
    (q : Q (.ref H.length) (H ++ [.dictI (kvs.foldl (fun es kv => putI es kv.1 kv.2) [])])) : TO (evPr (thePI sc) .dict [u] H) Q := by
  refine ⟨_, _, ?_, q⟩
  have hl2 : (rs.map AV.ref).length ≤ 1000000 := by simpa using hl
  simp only [evPr, evDict, h, mapM_pairs hp, hl2, if_true]
/-- the pairs of the second half -/
theorem r_shift {ls : List AV} {pr more : Nat} {es : List (Int × AV)} (h8 : ls[8]? = some (.int (more : Int))) (h7 : ls[7]? = some (.ref pr)) (hp : H[pr]? = some (.dictI es)) (hn : (es.map (·.1)).Nodup) (hi : ∀ kv ∈ es, ∃ i, kv.2 = .int i) (hl : es.length ≤ 1000)
    (q : ∀ r rs H', Keep [] H H' → H'[r]? = some (.list (rs.map .ref)) → PrsAt H' rs (es.map (shI more)) → rs.length = es.length → Q (.ref r) H') :
    ev (thePI sc) (run (thePI sc) 200 n) (.comp [8, 7] .keys [(.loc 7)] 1 [] (.tup [(.bin .addi (.loc 2) (.loc 0)), (.bin .addi (.idx (.loc 1) (.loc 2)) (.loc 0))])) ls H Q := by
  refine T_comp (cs := [.int (more : Int), .ref pr]) (show [8, 7].mapM (fun i => ls[i]?) = some _ by simp [h8, h7]) ?_
  refine locQ_o h7 (by simp) ?_
  refine w_keys hp ⟨by simp; lia, ?_⟩
  refine compL_rule (fun j acc H' => Keep [] H H' ∧ ∃ rs : List Nat, acc = rs.map .ref ∧ PrsAt H' rs ((es.take j).map (shI more)) ∧ rs.length = j) cstep_go _ 0 [] H _ ⟨Keep.refl, [], rfl, by simp [PrsAt], rfl⟩ ?_ ?_ ?_
  · rintro j acc H' hj ⟨k, _⟩; exact kept_at (k.get _ _ (by simp) hp)
  · rintro j it acc H' hj ⟨k, rs, rfl, hP, hrs⟩
    simp only [List.getElem?_map, Option.map_eq_some_iff] at hj
    obtain ⟨⟨ky, vl⟩, hkv, rfl⟩ := hj
    obtain ⟨i, hv⟩ := hi _ (List.mem_of_getElem? hkv)
    obtain rfl : vl = .int i := hv
    have hp' := k.get _ _ (by simp) hp
    have hval := valI_mem hn (List.mem_of_getElem? hkv)
    refine ⟨rfl, ?_⟩
    walk_at "ms"
    refine i_dictI (ob_ref hp') hval ?_
    walk_at "ms"
    refine ⟨k.more, rs ++ [H'.length], by simp, ?_, by simp; lia⟩
    rw [Nat.zero_add, List.take_add_one, hkv, List.map_append]
    rw [Nat.zero_add] at hP
    exact (hP.keep Keep.app).append ⟨at_new, trivial⟩
  · rintro ws H' ⟨k, rs, hw, hP, hrs⟩
    simp only [List.nil_append, List.length_map, Nat.zero_add, List.take_length] at hw hP hrs
    subst hw
    exact q _ rs _ k.more at_new (hP.keep Keep.app) hrs
end
theorem mach_len : ∀ (ks : List Nat) (p : Nat) (V : List Nat), (mach ks p V).length ≤ ks.length
  | [], _, _ => by simp [mach]
  | k :: r, p, V => by
    have h1 := mach_len r (p + 1) (p :: V)
    have h2 := mach_len r (p + 1) V
    have h3 := mach_len r (p + 1) V.tail
    have h4 := mach_len r (p + 1) []
    rw [mach_cons]
    split
    · simp; lia
    · split
      · simp; lia
      · split <;> simp <;> lia
theorem lps_len : ∀ (ks : List Nat) (p : Nat), (lps ks p).length ≤ ks.length
  | [], _ => by simp [lps]
  | k :: r, p => by
    have h1 := lps_len r (p + 1)
    have h2 := lps1_len k r p
    simp [lps]; lia
theorem expand_len : ∀ l : List (Nat × Nat), (expand l).length = 2 * l.length
  | [] => rfl
  | x :: l => by
    have := expand_len l
    simp only [expand, List.flatMap_cons, List.length_append, List.length_cons] at this ⊢
    rw [this]; simp [exp1]; lia
@[irreducible] noncomputable def law2 : List S := [(.asgT [5, 6] (.call 62 [(.prim .list [(.loc 2)]), (.loc 3), (.loc 4)])),
  (.iff (.cmp .ne (.tup [(.prim .list [(.loc 5)]), (.prim .list [(.loc 6)])]) (.call 142 [(.loc 2), (.loc 3), (.loc 4)])) [(.ret (.lit (.bool false)))] []),
  (.asgT [7, 8] (.tup [(.call 143 [(.loc 2)]), (.bin .add (.prim .len [(.loc 2)]) (.lit (.int 1)))])),
  (.asg 9 (.prim .dict [(.bin .add (.prim .items [(.loc 7)]) (.comp [8, 7] .keys [(.loc 7)] 1 [] (.tup [(.bin .addi (.loc 2) (.loc 0)), (.bin .addi (.idx (.loc 1) (.loc 2)) (.loc 0))])))])),
  (.iff (.or (.cmp .ne (.prim .dict [(.call 24 [(.bin .add (.bin .add (.loc 2) (.list [(.lit (.str 16))])) (.loc 2))])]) (.loc 9)) (.cmp .ne (.prim .dict [(.call 24 [(.prim .list [(.loc 2)])])]) (.loc 7))) [(.ret (.lit (.bool false)))] [])]
section
variable {sc : List Int} {n : Nat} {H : Hp} {Q : AV → Hp → Prop}
theorem r_law2 {dk a base dep : Nat} {ks : List Nat} {y5 y6 y7 y8 y9 y10 y11 y12 y13 y14 y15 y16 : AV} (ha : H[a]? = some (.list (svs ks))) (hk : ks.length ≤ 20) (hb : okB ks) :
    exs (thePI sc) (run (thePI sc) 200 (n + 5)) 200 law2 [.st 5, .ref dk, .ref a, .int base, .int dep, y5, y6, y7, y8, y9, y10, y11, y12, y13, y14, y15, y16] H
      (fun ls' H' => ∃ z5 z6 z7 z8 z9, ls' = [.st 5, .ref dk, .ref a, .int base, .int dep, z5, z6, z7, z8, z9, y10, y11, y12, y13, y14, y15, y16] ∧ Keep [] H H') (Rv Q) := by
  unfold law2
  have hml := mach_len ks 0 []
  have hll := lps_len ks 0
  have hel := expand_len (lps ks 0)
  -- the levels
  walk_at "ms"
  refine r_explicit3 (base := base) (dep := dep) at_new (by lia) ?_
  intro r lv cl H1 k1 hr hlv hcl
  have ha1 := k1.get _ _ (by simp) (at_app (Z := [AO.list (svs ks)]) ha)
  have hgl := lGo_len base dep ks ks 0 []
  walk_at "ms"
  refine r_law_explicit (base := base) (dep := dep) (at_app (at_app (at_app ha1))) (by lia) ?_
  intro r2 lv2 cl2 H2 k2 hr2 hlv2 hcl2
  obtain ⟨p1, p2⟩ := lGo_plain base dep ks
  refine c_neT (eq_tups (ob_ref (k2.get _ _ (by simp) at_new)) (ob_ref hr2) (k2.get _ _ (by simp) (at_app (at_app at_new))) (k2.get _ _ (by simp) (at_app at_new)) hlv2 hcl2 p1 p2) ?_
  have ha2 := k2.get _ _ (by simp) (at_app (Z := [AO.tup [.ref H1.length, .ref (H1 ++ [AO.list ((lGo base dep ks ks 0 []).map (·.1))]).length]]) (at_app (Z := [AO.list ((lGo base dep ks ks 0 []).map (·.2))]) (at_app (Z := [AO.list ((lGo base dep ks ks 0 []).map (·.1))]) ha1)))
  have kk2 : Keep [] H H2 := ((Keep.app.tr k1).tr ((Keep.app.tr Keep.app).tr Keep.app)).tr k2
  walk_at "ms"
  -- the pairs
  refine r_law_pairs ha2 (by lia) ?_
  intro f H3 k3 hf0 hf
  have ha3 := k3.get _ _ (by simp) ha2
  rw [dictGo_expand (lps_flat hb)] at hf
  walk_at "ms"
  simp only [setAll, List.set_cons_succ, List.set_cons_zero]
  rw [svs_len, show (ks.length : Int) + 1 = ((ks.length + 1 : Nat) : Int) by simp]
  walk_at "ms"
  refine p_items (ob_ref (at_app hf)) (by lia) ?_
  intro r3 rs3 H4 k4 hr3 hP3 hl3
  have hf4 := k4.get _ _ (by simp) (at_app (Z := [AO.tup [.ref f, .int ((ks.length + 1 : Nat) : Int)]]) hf)
  walk_at "ms"
  refine r_shift (more := ks.length + 1) (by rfl) (by rfl) hf4 (by rw [expand_keys]; exact natInt_nodup (lps_flat hb)) expand_int (by lia) ?_
  intro r4 rs4 H5 k5 hr4 hP4 hl4
  refine b_addL (ob_ref (k5.get _ _ (by simp) hr3)) (ob_ref hr4) (by simp; lia) ?_
  rw [← List.map_append]
  walk_at "ms"
  refine p_dictL (ob_ref at_new) (((hP3.keep k5).append hP4).keep Keep.app) (by simp; lia) ?_
  rw [due_fold hb]
  have kk5 : Keep [] H3 H5 := (Keep.app.tr k4).tr k5
  have hf5 := k5.get _ _ (by simp) hf4
  have ha5 := kk5.get _ _ (by simp) ha3
  have kk : Keep [] H H5 := (kk2.tr k3).tr kk5
  -- the code's pairs
  have g1 : ∃ du H6, H6 = H5 ++ [AO.list (List.map AV.ref (rs3 ++ rs4))] ++ [AO.dictI (expand (due ks))] ∧ du = (H5 ++ [AO.list (List.map AV.ref (rs3 ++ rs4))]).length := ⟨_, _, rfl, rfl⟩
  obtain ⟨du, H6, e6, edu⟩ := g1
  rw [← e6, ← edu]
  have k6 : Keep [] H5 H6 := by rw [e6]; exact Keep.app.tr Keep.app
  have hdu : H6[du]? = some (.dictI (expand (due ks))) := by rw [e6, edu]; exact at_new
  have hf6 := k6.get _ _ (by simp) hf5
  have ha6 := k6.get _ _ (by simp) ha5
  clear e6 edu
  walk_at "n"
  refine T_or ?_
  walk_at "ms"
  refine b_addL (ob_ref (at_app ha6)) (ob_ref at_new) (by rw [svs_len]; simp; lia) ?_
  rw [show svs ks ++ [AV.str 16] = svs (ks ++ [16]) by simp [svs]]
  walk_at "ms"
  refine b_addL (ob_ref at_new) (ob_ref (at_app (at_app ha6))) (by rw [svs_len, svs_len]; simp; lia) ?_
  rw [← svs_append]
  walk_at "ms"
  refine r_isolate_pairs at_new (by simp; lia) ?_
  intro r5 H7 hr5 k7 hd7
  have hml2 := mach_len (ks ++ [16] ++ ks) 0 []
  have hdl2 := dictGo_len [] (mach (ks ++ [16] ++ ks) 0 [])
  have hln : (ks ++ [16] ++ ks).length ≤ 50 := by simp; lia
  walk_at "m"
  refine p_dictI (ob_ref hd7) (by simp only [List.length_nil] at hdl2; lia) ?_
  have kk7 : Keep [] H6 H7 := ((Keep.app.tr Keep.app).tr Keep.app).tr k7
  have hdu7 := kk7.get _ _ (by simp) hdu
  have hf7 := kk7.get _ _ (by simp) hf6
  have ha7 := kk7.get _ _ (by simp) ha6
  walk_at "ms"
  refine c_neT (eq_dicts (ob_ref at_new) (ob_ref (at_app hdu7)) (eq_due hb)) ?_
  walk_at "ms"
  refine r_isolate_pairs at_new (by lia) ?_
  intro r6 H8 hr6 k8 hd8
  have hdl3 := dictGo_len [] (mach ks 0 [])
  walk_at "m"
  refine p_dictI (ob_ref hd8) (by simp only [List.length_nil] at hdl3; lia) ?_
  have kk8 : Keep [] H7 H8 := (Keep.app.tr Keep.app).tr k8
  have hf8 := kk8.get _ _ (by simp) hf7
  walk_at "ms"
  have hq := eq_pairs hb
  rw [dictGo_expand (lps_flat hb)] at hq
  refine c_neT (eq_dicts (ob_ref at_new) (ob_ref (at_app hf8)) hq) ?_
  walk_at "ms"
  exact ⟨_, _, _, _, _, rfl, (((kk.tr k6).tr kk7).tr kk8).tr Keep.app⟩
end
end Mine
end
-- V27
section
set_option tactic.hygienic false
namespace Mine
theorem exs_append {P : PI} {W d : Nat} {A : QL} {R : QV} {b : List S} : ∀ {a : List S} {ls : List AV} {H : Hp}, exs P (run P W d) W a ls H (kSeq (exs P (run P W d) W b) A R) R → exs P (run P W d) W (a ++ b) ls H A R
  | [], _, _, h => h
  | s :: a, ls, H, h => ex_mono (s := s) (A := kSeq (exs P (run P W d) W a) (kSeq (exs P (run P W d) W b) A R) R) h fun _ _ h => exs_append (a := a) h
noncomputable def law1 : List S := [(.asg 1 (.call 137 [(.loc 0)])),
  (.iff (.cmp .eq (.call 138 [(.loc 1), (.lit (.int 16))]) (.lit (.int 11))) [(.ret (.call 144 [(.loc 1)]))] []),
  (.asg 2 (.comp [1] .rng [(.call 138 [(.loc 1), (.lit (.int 12))])] 1 [] (.idx (.glob 145) (.call 138 [(.loc 0), (.lit (.int 17))])))),
  (.asgT [3, 4] (.tup [(.call 138 [(.loc 1), (.lit (.int 2))]), (.idx (.list [(.lit (.int 1)), (.lit (.int 2)), (.lit (.int 3)), (.lit (.int 4)), (.lit (.int 5)), (.lit (.int 125))]) (.call 138 [(.loc 1), (.lit (.int 6))]))])),
  (.iff (.cmp .eq (.call 138 [(.loc 1), (.lit (.int 5))]) (.lit (.int 1))) [(.ex (.bm .append (.loc 2) [(.lit (.str 16))]))] [])]
theorem law_parts : b_law = law1 ++ (law2 ++ law3) := by with_unfolding_all rfl
noncomputable def kindOf (v : Nat) : Nat := if v = 16 then 5 else v
theorem kind_at : ∀ v : Nat, v < 17 → ([(AV.str 0), (.str 1), (.str 2), (.str 3), (.str 4), (.str 5), (.str 6), (.str 7), (.str 8), (.str 9), (.str 10), (.str 11), (.str 12), (.str 13), (.str 14), (.str 15), (.str 5)] : List AV)[v]? = some (.str (kindOf v)) := by
  have : ∀ v ∈ List.range 17, ([(AV.str 0), (.str 1), (.str 2), (.str 3), (.str 4), (.str 5), (.str 6), (.str 7), (.str 8), (.str 9), (.str 10), (.str 11), (.str 12), (.str 13), (.str 14), (.str 15), (.str 5)] : List AV)[v]? = some (.str (kindOf v)) := by decide
  exact fun v h => this v (List.mem_range.mpr h)
theorem kind_lt {v : Nat} (h : v < 17) : kindOf v < 16 := by
  unfold kindOf; split <;> lia
theorem rng1_get {b : Int} {j : Nat} {it : List AV} (h : ((List.range b.toNat).map fun (j : Nat) => [AV.int j])[j]? = some it) : ∃ i : Nat, it = [.int i] := by
  simp only [List.getElem?_map, Option.map_eq_some_iff] at h
  obtain ⟨i, _, rfl⟩ := h
  exact ⟨i, rfl⟩
section
variable {sc : List Int} {n : Nat} {H : Hp} {Q : AV → Hp → Prop}
/-- the kinds that are drawn -/
theorem r_kinds {ls : List AV} {dk c at_ : Nat} {cells : List Int} (h1 : ls[1]? = some (.ref dk)) (hd : Deck H dk c cells at_) (hl : cells.length ≤ 40) (ha : at_ ≤ 100)
    (q : ∀ r ks at2 H', Keep [dk] H H' → H.length ≤ r → H'[r]? = some (.list (svs ks)) → Deck H' dk c cells at2 → ks.length ≤ 11 → at2 ≤ at_ + 12 → (∀ k ∈ ks, k < 16) → Q (.ref r) H') :
    ev (thePI sc) (run (thePI sc) 200 (n + 1)) (.comp [1] .rng [(.call 138 [(.loc 1), (.lit (.int 12))])] 1 [] (.idx (.glob 145) (.call 138 [(.loc 0), (.lit (.int 17))]))) ls H Q := by
  refine T_comp (cs := [.ref dk]) (show [1].mapM (fun i => ls[i]?) = some _ by simp [h1]) ?_
  refine locQ_o h1 (by simp) ?_
  walk_at "ms"
  refine r_draw hd hl (by lia) (by decide) ?_
  intro b H1 hb0 hb1 k1 hd1
  refine w_rng1 (by simp [small]; lia) ⟨by simp; lia, ?_⟩
  refine compL_rule (fun j acc H' => Keep [dk] H H' ∧ Deck H' dk c cells (at_ + 1 + j) ∧ ∃ ks, acc = svs ks ∧ ks.length = j ∧ ∀ k ∈ ks, k < 16) cstep_go _ 0 [] H1 _ ⟨k1, hd1, [], rfl, rfl, by simp⟩ ?_ ?_ ?_
  · intro j acc H' _ _; trivial
  · rintro j it acc H' hj ⟨k, hd, ks, rfl, hks, h16⟩
    have hjb : j < b.toNat := by simpa using (List.getElem?_eq_some_iff.mp hj).1
    obtain ⟨i, rfl⟩ := rng1_get hj
    refine ⟨rfl, ?_⟩
    walk_at "ms"
    refine r_draw hd hl (by lia) (by decide) ?_
    intro v H2 hv0 hv1 k2 hd2
    refine i_listI (j := v.toNat) rfl (by decide) (by lia) (kind_at v.toNat (by lia)) ?_
    walk_at "ms"
    refine ⟨k.tr k2, hd2, ks ++ [kindOf v.toNat], by simp [svs], by simp; lia, ?_⟩
    intro x m
    rcases List.mem_append.mp m with m | m
    · exact h16 x m
    · simp at m; rw [m]; exact kind_lt (by lia)
  · rintro ws H' ⟨k, hd, ks, hw, hks, h16⟩
    simp only [List.nil_append, List.length_map, List.length_range, Nat.zero_add] at hw hks hd
    subst hw
    exact q _ ks (at_ + 1 + b.toNat) _ k.more k.len at_new (hd.keep (Y := []) Keep.app (by simp) (by simp)) (by lia) (by lia) h16
theorem r_law (hl : sc.length ≤ 63) (q : ∀ H', Q (.bool true) H') : T (run (thePI sc) 200 12 147 [.st 5] H) Q := by
  refine T_fn (ls := [.st 5, .unb, .unb, .unb, .unb, .unb, .unb, .unb, .unb, .unb, .unb, .unb, .unb, .unb, .unb, .unb, .unb]) rfl rfl ?_
  show X (exs (thePI sc) (run (thePI sc) 200 11) 200 b_law _ H) _ _
  rw [law_parts]
  refine ⟨exs_append ?_⟩
  unfold law1
  walk_at "ms"
  refine r_deck (n := 10) hl ?_
  intro dk c H1 cells k1 hd1 hc hdk hcc
  walk_at "ms"
  refine r_draw (n := 10) hd1 hc (by lia) (by decide) ?_
  intro v1 H2 _ _ k2 hd2
  walk_at "ms"
  refine Br.mk (fun _ => ?_) (fun _ => ?_)
  · walk_at "ms"
    exact r_deep_right (n := 6) hd2 hc (by lia) fun H' => ⟨q H'⟩
  · walk_at "ms"
    refine r_kinds (n := 10) rfl hd2 hc (by lia) ?_
    intro r ks at3 H3 k3 hr0 hr hd3 hks hat3 h16
    walk_at "ms"
    refine r_draw (n := 10) hd3 hc (by lia) (by decide) ?_
    intro v2 H4 h1 h2 k4 hd4
    obtain ⟨base, rfl⟩ : ∃ b : Nat, v2 = (b : Int) := ⟨v2.toNat, by lia⟩
    have hrd : r ≠ dk := by have := at_lt hd2.d; lia
    have hr4 := k4.get _ _ (by simpa using hrd) hr
    walk_at "ms"
    refine r_draw (n := 10) (hd4.keep (Y := []) Keep.app (by simp) (by simp)) hc (by lia) (by decide) ?_
    intro v3 H5 h3 h4 k5 hd5
    have hdl := at_lt hd4.d
    have hr5 := k5.get _ _ (by simpa using hrd) (at_app (Z := [AO.list [.int 1, .int 2, .int 3, .int 4, .int 5, .int 125]]) hr4)
    have g : H5[H4.length]? = some (.list [.int 1, .int 2, .int 3, .int 4, .int 5, .int 125]) := k5.get _ _ (by simp; lia) at_new
    have hv : ∃ dep : Nat, ([AV.int 1, .int 2, .int 3, .int 4, .int 5, .int 125])[v3.toNat]? = some (.int (dep : Int)) := by
      have : v3 = 0 ∨ v3 = 1 ∨ v3 = 2 ∨ v3 = 3 ∨ v3 = 4 ∨ v3 = 5 := int6 h3 h4
      rcases this with rfl | rfl | rfl | rfl | rfl | rfl
      · exact ⟨1, rfl⟩
      · exact ⟨2, rfl⟩
      · exact ⟨3, rfl⟩
      · exact ⟨4, rfl⟩
      · exact ⟨5, rfl⟩
      · exact ⟨125, rfl⟩
    obtain ⟨dep, hdep⟩ := hv
    refine i_listI (j := v3.toNat) (ob_ref g) (by decide) (by lia) hdep ?_
    walk_at "ms"
    refine r_draw (n := 10) (hd5.keep (Y := []) Keep.app (by simp) (by simp)) hc (by lia) (by decide) ?_
    intro v4 H6 _ _ k6 hd6
    have hr6 := k6.get _ _ (by simpa using hrd) (at_app hr5)
    have hfin : ∀ ks' H', H'[r]? = some (.list (svs ks')) → ks'.length ≤ 20 → okB ks' → (∀ k ∈ ks', k ≤ 16) → Deck H' dk c cells (at3 + 1 + 1 + 1) →
        exs (thePI sc) (run (thePI sc) 200 11) 200 (law2 ++ law3) [.st 5, .ref dk, .ref r, .int base, .int dep, .unb, .unb, .unb, .unb, .unb, .unb, .unb, .unb, .unb, .unb, .unb, .unb] H' (Iv fun _ H' => Q .none H') (Rv Q) := by
      intro ks' H' hr' hl' hb' h16' hd'
      refine exs_append (exs_mono (r_law2 (n := 6) (Q := Q) hr' hl' hb') ?_)
      rintro ls2 H7 ⟨z5, z6, z7, z8, z9, rfl, k7⟩
      exact r_law3 (n := 5) (hd'.keep k7 (by simp) (by simp)) hc (by lia) (k7.get _ _ (by simp) hr') hl' h16' q |>.go
    walk_at "ms"
    refine Br.mk (fun _ => ?_) (fun _ => ?_)
    · walk_at "ms"
      have hrc : r ≠ c := by have := at_lt hd2.c; lia
      refine hfin (ks ++ [16]) _ ?_ (by simp; lia) (okB_end fun k m => by have := h16 k m; lia) ?_ ?_
      · rw [show svs (ks ++ [16]) = svs ks ++ [.str 16] by simp [svs]]
        exact at_set hr6
      · intro k m
        rcases List.mem_append.mp m with m | m
        · have := h16 k m; lia
        · simp at m; lia
      · exact ⟨at_ne hrd hd6.d, at_ne hrc hd6.c⟩
    · walk_at "ms"
      exact hfin ks _ hr6 (by lia) (okB_no fun k m => by have := h16 k m; lia) (fun k m => by have := h16 k m; lia) hd6
end
theorem all_well (script : List Int) (h : script.length ≤ 63) : runLaw script := (r_law (sc := script) (Q := fun v _ => v = .bool true) h fun _ => rfl).go
end Mine
end
theorem PySem.Challenge.cw_nt0029_01_holds : PySem.Challenge.rw_nt0029_01.Holds :=
  Mine.join Mine.all_well
