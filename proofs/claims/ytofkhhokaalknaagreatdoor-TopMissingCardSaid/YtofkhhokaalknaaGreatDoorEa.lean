/-
  A reading of the machine's code over plain values, proved to say what the machine does (part 1).
-/
import Derived.Calls
import Derived.Laws.World
import Derived.Deep.MidRow
import Derived.Below
set_option linter.unusedSimpArgs false
set_option linter.unusedVariables false
set_option linter.unusedSectionVars false
namespace GoV
open Go
inductive PV where
  | any
  | junk
  | bool (b : Bool)
  | int (k : IntKind) (n : Int)
  | str (s : ByteArray)
  | nilp | nilf | nili | nils | nilm
  | agg (cs : List PV)
  | tup (vs : List PV)
  | vs (sz : Nat) (es : List PV) (cap : Option Nat)
  | rop (cs : List PV)
  | gsl (sz id ver off len : Nat)
  | bptr (fid t ver off : Nat)
  | ptr (id ver i off : Nat)
  | fn (f : Nat) (capt : List PV)
  | bnd (f : Nat) (first : List PV)
  | yield (l : Nat)
  | iface (t : TypeId) (v : PV)
  | map (id : Nat)
  deriving Inhabited
def PV.cells : PV → List PV
  | .agg cs => cs
  | v => [v]
def PV.fits : PV → Nat → Bool
  | .any,_ | .tup _,_ => false
  | v,n => v.cells.length == n
def reCell : PV → List PV → PV
  | .agg _,cs => .agg cs
  | _,[c] => c
  | p,_ => p
def splice (cs : List PV) (off : Nat) (new : List PV) : Option (List PV):=
  if off + new.length ≤ cs.length then some (cs.take off ++ (new ++ cs.drop (off + new.length))) else none
def ofS : Value → Option PV
  | .bool b => some (.bool b)
  | .int k n => some (.int k n)
  | .string s => some (.str s)
  | .pointer none => some .nilp
  | .nilFunc => some .nilf
  | .nilIface => some .nili
  | .slice none 0 0 => some .nils
  | .map none => some .nilm
  | _ => none
def ofV : Value → Option PV
  | .agg cs => (cs.toList.mapM ofS).map .agg
  | v => ofS v
inductive LoopSt where
  | ready | busy | over (pending : Option Code)
inductive Row where
  | gro (sz : Nat) (es : List PV) (frz : Nat)
  | loop (st : LoopSt) (fn : Nat) (nt : Nat) (tmps : Nat → PV) (params : List Nat) (assign body : Code) (dfr : Nat)
  | dfr
  | map (es : List (PV × PV))
structure Heap where
  rows : Nat → Option Row
  next : Nat
def Heap.empty : Heap:=⟨fun _ => none,0⟩
def upd {α : Type} (f : Nat → α) (t : Nat) (v : α) : Nat → α:=fun i => if i = t then v else f i
@[simp] theorem upd_apply {α : Type} (f : Nat → α) (t : Nat) (v : α) (i : Nat) : upd f t v i = if i = t then v else f i:=rfl
def Heap.set (h : Heap) (id : Nat) (r : Row) : Heap:=⟨upd h.rows id (some r),h.next⟩
def Heap.add (h : Heap) (r : Row) : Heap:=⟨upd h.rows h.next (some r),h.next + 1⟩
inductive Rc where
  | no
  | pan (v : PV)
  | done
inductive VD where
  | coll (id : Nat)
  | call (f : Nat) (args : List PV)
structure St where
  fid : Nat
  tmps : Nat → PV
  boxes : Nat → Option (Nat × List PV)
  defers : List VD
  H : Heap
  rc : Rc
structure Pol where
  heap : Nat → List Nat
  accs : Nat → List Nat
  muts : Nat → List Nat
  iso : Nat → Bool
structure Ctx where
  P : Program
  pol : Pol
  fn : Nat
  nt : Nat
  round : Option Nat
inductive Ex where
  | normal
  | exit (id : Nat)
  | ret
  | pan (v : PV)
def szOf (P : Program) (t : TypeId) : Option Nat:=(P.info? t).map (·.size)
def bytesT (P : Program) (t : TypeId) : Option Nat:=(P.info? t).map (·.bytes)
def aggT (P : Program) (t : TypeId) : Option Bool:=(P.underlying t).map fun
  | .struct _ | .array _ _ => true
  | _ => false
def zeroT (P : Program) (t : TypeId) : Option PV:=((P.info? t).bind (·.zero)).bind ofV
def sliceT (P : Program) (t : TypeId) : Option TypeId:=match P.underlying t with
  | some (.slice e) => some e
  | _ => none
def structOK (P : Program) (t : TypeId) : Bool:=match P.underlying t with
  | some (.struct fs) => fs.toList.all fun f => (szOf P f.type).isSome
  | some (.array _ e) => (szOf P e).isSome
  | _ => false
def partT (P : Program) (t : TypeId) (i : Nat) : Option (Nat × TypeId):=match P.underlying t with
  | some (.struct fs) => (fs[i]?).map fun f => (f.offset,f.type)
  | some (.array _ e) => (szOf P e).map fun sz => (i * sz,e)
  | _ => none
def fieldT (P : Program) (t : TypeId) (i : Nat) : Option (Nat × TypeId):=match P.underlying t with
  | some (.struct fs) => (fs[i]?).map fun f => (f.offset,f.type)
  | _ => none
def arrT (P : Program) (t : TypeId) : Option (Nat × TypeId):=match P.underlying t with
  | some (.array n e) => some (n,e)
  | _ => none
def ld (agg : Bool) (sz : Nat) (cs : List PV) : Option PV:=
  if agg then (if sz ≤ cs.length then some (.agg (cs.take sz)) else none) else cs.head?
def getAt (s : St) : PV → Option (List PV)
  | .rop cs => some cs
  | .bptr fid t ver off => match s.boxes t with
    | some (ver',cs) => if fid = s.fid ∧ ver' = ver then some (cs.drop off) else none
    | none => none
  | .ptr id ver i off => match s.H.rows id with
    | some (.gro _ es _) => if es.length = ver then (es[i]?).map fun e => e.cells.drop off else none
    | _ => none
  | _ => none
def putAt (s : St) (v : List PV) : PV → Option St
  | .bptr fid t ver off => match s.boxes t with
    | some (ver',cs) => if fid = s.fid ∧ ver' = ver then (splice cs off v).map fun cs' => { s with boxes:=upd s.boxes t (some (ver,cs')) } else none
    | none => none
  | .ptr id ver i off => match s.H.rows id with
    | some (.gro sz es frz) =>
      if es.length = ver ∧ frz ≤ i then (es[i]?).bind fun e => (splice e.cells off v).map fun cs' => { s with H:=s.H.set id (.gro sz (es.set i (reCell e cs')) frz) }
      else none
    | _ => none
  | _ => none
def intBin (op : BinOp) (k : IntKind) (a b : Int) : Option PV:=
  match op with
  | .add => some (.int k (k.wrap (a + b)))
  | .sub => some (.int k (k.wrap (a - b)))
  | .mul => some (.int k (k.wrap (a * b)))
  | .quo => if b = 0 then none else some (.int k (k.wrap (a.tdiv b)))
  | .rem => if b = 0 then none else some (.int k (a.tmod b))
  | .and => some (.int k (k.wrap (BitVec.ofInt k.bits a &&& BitVec.ofInt k.bits b).toNat))
  | .or => some (.int k (k.wrap (BitVec.ofInt k.bits a ||| BitVec.ofInt k.bits b).toNat))
  | .xor => some (.int k (k.wrap (BitVec.ofInt k.bits a ^^^ BitVec.ofInt k.bits b).toNat))
  | .andNot => some (.int k (k.wrap (BitVec.ofInt k.bits a &&& ~~~BitVec.ofInt k.bits b).toNat))
  | .eql => some (.bool (a == b))
  | .neq => some (.bool (a != b))
  | .lss => some (.bool (a < b))
  | .leq => some (.bool (a ≤ b))
  | .gtr => some (.bool (a > b))
  | .geq => some (.bool (a ≥ b))
  | _ => none
def partPV (P : Program) (t : TypeId) (cs : List PV) (off : Nat) : Option PV:=
  (aggT P t).bind fun a => (szOf P t).bind fun sz => if a then some (.agg ((cs.drop off).take sz)) else cs[off]?
def eqFs (P : Program) (eq : TypeId → PV → PV → Option Bool) : List Field → List PV → List PV → Option Bool
  | [],_,_ => some true
  | f :: fs,xs,ys =>
    if f.name = "_" then none
    else (partPV P f.type xs f.offset).bind fun p => (partPV P f.type ys f.offset).bind fun q => (eq f.type p q).bind fun b => if b then eqFs P eq fs xs ys else some false
def eqAs (P : Program) (eq : TypeId → PV → PV → Option Bool) (e : TypeId) (sz : Nat) : List Nat → List PV → List PV → Option Bool
  | [],_,_ => some true
  | i :: r,xs,ys => (partPV P e xs (i * sz)).bind fun p => (partPV P e ys (i * sz)).bind fun q => (eq e p q).bind fun b => if b then eqAs P eq e sz r xs ys else some false
def nilq : PV → Option Bool
  | .nils => some true
  | .vs _ (_ :: _) _ => some false
  | .vs _ [] (some _) => some false
  | .gsl _ _ _ _ (_ + 1) => some false
  | _ => none
def eqPV (P : Program) : Nat → TypeId → PV → PV → Option Bool
  | 0,_,_,_ => none
  | d + 1,t,x,y => match P.underlying t,x,y with
    | some .bool,.bool a,.bool b => some (a == b)
    | some (.int _),.int k a,.int k' b => if k = k' then some (a == b) else none
    | some .string,.str a,.str b => some (a == b)
    | some (.interface _),.nili,.nili => some true
    | some (.interface _),.nili,.iface _ _ => some false
    | some (.interface _),.iface _ _,.nili => some false
    | some (.struct fs),.agg xs,.agg ys => if P.stoodInHeld t then none else eqFs P (eqPV P d) fs.toList xs ys
    | some (.array n e),.agg xs,.agg ys => (szOf P e).bind fun sz => eqAs P (eqPV P d) e sz (List.range' 0 n) xs ys
    | some (.slice _),x,.nils => nilq x
    | _,_,_ => none
def mapT (P : Program) (t : TypeId) : Option (TypeId × TypeId):=match P.underlying t with
  | some (.map k e) => some (k,e)
  | _ => none
def scalarT (P : Program) (t : TypeId) : Bool:=match P.underlying t with
  | some .bool | some (.int _) | some .string => true
  | _ => false
def keyChk (P : Program) (t : TypeId) (k : PV) : Bool:=match P.underlying t,k with
  | some .bool,.bool _ | some (.int _),.int _ _ => true
  | some (.struct fs),.agg cs => fs.toList.all fun f => scalarT P f.type && (partPV P f.type cs f.offset).isSome
  | _,_ => false
def findPV (P : Program) (t : TypeId) (k : PV) : List (PV × PV) → Nat → Option (Option (Nat × PV))
  | [],_ => some none
  | e :: es,i => (eqPV P Op.maxDepth t k e.1).bind fun b => if b = true then some (some (i,e.2)) else findPV P t k es (i + 1)
def plainC : PV → PV → Bool
  | .int k a,.int k' b => k == k' && a == b
  | .bool a,.bool b => a == b
  | _,_ => false
def plainL : List PV → List PV → Bool
  | [],[] => true
  | a :: as,b :: bs => plainC a b && plainL as bs
  | _,_ => false
def plainEq : PV → PV → Bool
  | .agg as,.agg bs => plainL as bs
  | a,b => plainC a b
def isC : Operand → Bool
  | .const _ => true
  | _ => false
def eqOp (P : Program) (t : TypeId) (xo yo : Operand) (x y : PV) : Option Bool:=
  match x,y with
  | .agg _,.agg _ => if P.eqGuardType P.depth t then none else eqPV P Op.maxDepth t x y
  | .nili,.nili => if isC xo || isC yo then eqPV P Op.maxDepth t x y else none
  | _,_ => eqPV P Op.maxDepth t x y
def binPV (P : Program) (op : BinOp) (t : TypeId) (xo yo : Operand) (x y : PV) : Option PV:=
  match op,x,y with
  | .shl,.int k a,.int _ b => if b < 0 then none else some (.int k (k.wrap (a * 2 ^ (min b.toNat k.bits))))
  | .shr,.int k a,.int _ b => if b < 0 then none else some (.int k (a.fdiv (2 ^ (min b.toNat k.bits))))
  | op,.int k a,.int k' b => if k = k' then intBin op k a b else none
  | .eql,.str a,.str b => some (.bool (a.toList == b.toList))
  | .neq,.str a,.str b => some (.bool (!(a.toList == b.toList)))
  | _,.str _,.str _ => none
  | .eql,x,y => (eqOp P t xo yo x y).map .bool
  | .neq,x,y => (eqOp P t xo yo x y).map fun b => .bool !b
  | _,_,_ => none
def unPV (op : UnOp) : PV → Option PV
  | .int k n => match op with
    | .neg => some (.int k (k.wrap (0 - n)))
    | _ => none
  | .bool b => match op with
    | .not => some (.bool !b)
    | _ => none
  | _ => none
def convPV (P : Program) (dst : TypeId) : PV → Option PV
  | .int _ n => match P.underlying dst with
    | some (.int k) => some (.int k (k.wrap n))
    | _ => none
  | _ => none
def fillPV (P : Program) (t : TypeId) : List (Nat × PV) → List PV → Option (List PV)
  | [],cs => some cs
  | (i,v) :: rest,cs => (partT P t i).bind fun (off,ft) => (szOf P ft).bind fun sz =>
    if v.fits sz then (splice cs off v.cells).bind fun cs' => fillPV P t rest cs' else none
def fillSl (sz : Nat) : List (Nat × PV) → List PV → Option (List PV)
  | [],es => some es
  | (i,v) :: rest,es => if v.fits sz ∧ i < es.length then fillSl sz rest (es.set i v) else none
def idx : PV → Option Int
  | .int _ n => some n
  | _ => none
def lenPV : Option TypeDesc → PV → Option Nat
  | some (.slice _),.vs _ es _ => some es.length
  | some (.slice _),.gsl _ _ _ _ len => some len
  | some (.slice _),.nils => some 0
  | some .string,.str s => some s.size
  | _,_ => none
def foldPV (f : Int → Int → Int) : List PV → Option PV
  | .int k x :: rest => rest.foldlM (init:=PV.int k x) fun a b => match a,b with
    | .int k x,.int k' y => if k = k' then some (.int k (f x y)) else none
    | _,_ => none
  | _ => none
def optIdx (ev : Operand → PV) : Option Operand → Option (Option Int)
  | none => some none
  | some o => (idx (ev o)).map some
def slicePV (sz0 : Nat) (lo hi mx : Option Int) : PV → Option PV
  | .vs sz es cap =>
    let h:=hi.getD es.length
    let l:=lo.getD 0
    let m:=mx.getD h
    if sz = sz0 ∧ (mx.isSome → hi.isSome) ∧ 0 ≤ l ∧ l ≤ h ∧ h ≤ m ∧ m ≤ es.length then some (.vs sz ((es.take h.toNat).drop l.toNat) (match mx with | some m => if es.isEmpty && cap.isNone then none else some (m - l).toNat | none => cap.map (· - l.toNat))) else none
  | .gsl sz id ver off len =>
    let h:=hi.getD len
    let l:=lo.getD 0
    if sz = sz0 ∧ mx.isNone ∧ 0 ≤ l ∧ l ≤ h ∧ h ≤ len then some (if l = h then .vs sz [] none else .gsl sz id ver (off + l.toNat) (h - l).toNat) else none
  | .nils => if mx.isNone ∧ lo.getD 0 = 0 ∧ hi.getD 0 = 0 then some .nils else none
  | _ => none
def strIx (P : Program) (t : TypeId) (x i : PV) : Option PV:=match P.underlying t,x,i with
  | some .string,.str s,.int _ k => if 0 ≤ k then (s[k.toNat]?).map fun b => .int .u8 b.toNat else none
  | _,_,_ => none
def pureOp (P : Program) (o : Op) (ev : Operand → PV) : Option PV:=
  match o with
  | .move x | .assign x => some (ev x)
  | .pick c a b => match ev c with | .bool c => some (if c then ev a else ev b) | _ => none
  | .build t parts => if structOK P t then (zeroT P t).bind fun z => (fillPV P t (parts.toList.map fun (i,x) => (i,ev x)) z.cells).map .agg else none
  | .binOp op t x y _ => binPV P op t x y (ev x) (ev y)
  | .unOp op _ x => unPV op (ev x)
  | .convert src dst x => if (P.underlying src).isSome then convPV P dst (ev x) else none
  | .makeInterface t x => match P.underlying t with | some (.interface _) | none => none | some _ => some (.iface t (ev x))
  | .makeFunc (.func f) first capt => if first.isEmpty then some (.fn f (capt.toList.map ev)) else if capt.isEmpty then some (.bnd f (first.toList.map ev)) else none
  | .nilCheck x => match ev x with
    | .rop _ | .bptr _ _ _ _ | .ptr _ _ _ _ => some (ev x)
    | _ => none
  | .fieldAddr t x i => (fieldT P t i).bind fun (off,ft) => (szOf P ft).bind fun sz => if sz = 0 then none else match ev x with
    | .rop cs => some (.rop (cs.drop off))
    | .bptr f s ver o => some (.bptr f s ver (o + off))
    | .ptr id ver i o => some (.ptr id ver i (o + off))
    | _ => none
  | .field t x i => (fieldT P t i).bind fun (off,ft) => match ev x with | .agg cs => partPV P ft cs off | _ => none
  | .index t x i => match strIx P t (ev x) (ev i) with
    | some r => some r
    | none => (arrT P t).bind fun (n,e) => (szOf P e).bind fun sz => match ev x,ev i with
      | .agg cs,.int _ k => if 0 ≤ k ∧ k < n then partPV P e cs (k.toNat * sz) else none
      | _,_ => none
  | .indexAddr t x i => match sliceT P t with
    | some e => (szOf P e).bind fun sz => (idx (ev i)).bind fun k => match ev x with
      | .vs sz' es _ => if sz' = sz ∧ 0 ≤ k ∧ k < es.length then (es[k.toNat]?).map fun e => .rop e.cells else none
      | .gsl sz' id ver off len => if sz' = sz ∧ 0 ≤ k ∧ k < len then some (.ptr id ver (off + k.toNat) 0) else none
      | _ => none
    | none => (arrT P t).bind fun (n,e) => (szOf P e).bind fun sz => (idx (ev i)).bind fun k => if 0 ≤ k ∧ k < n then match ev x with
      | .rop cs => some (.rop (cs.drop (k.toNat * sz)))
      | .bptr f s ver o => some (.bptr f s ver (o + k.toNat * sz))
      | .ptr id ver i o => some (.ptr id ver i (o + k.toNat * sz))
      | _ => none
      else none
  | .slice t x lo hi mx => (sliceT P t).bind fun e => (szOf P e).bind fun sz => if sz = 0 then none else (optIdx ev lo).bind fun lo => (optIdx ev hi).bind fun hi => (optIdx ev mx).bind fun mx => slicePV sz lo hi mx (ev x)
  | .extract x i => match ev x with | .tup vs => vs[i]? | _ => none
  | .typeAssert x _ t ok => match P.underlying t with
    | some (.interface _) | none => none
    | some _ => match ev x with
      | .iface u v => if u = t then some (if ok then .tup [v,.bool true] else v) else none
      | _ => none
  | .call ⟨.builtin .len,args,ts⟩ => match args.toList,ts.toList with
    | [x],[t] => (lenPV (P.underlying t) (ev x)).map fun n => .int .i64 n
    | _,_ => none
  | .call ⟨.builtin .max,args,_⟩ => foldPV (fun x y => if y > x then y else x) (args.toList.map ev)
  | .call ⟨.builtin .min,args,_⟩ => foldPV (fun x y => if y < x then y else x) (args.toList.map ev)
  | _ => none
def stripW (k : Nat → Nat → Nat → Nat → Nat → PV) : PV → PV
  | .agg cs => .agg (go cs)
  | .tup vs => .tup (go vs)
  | .vs sz es cap => .vs sz (go es) cap
  | .rop cs => .rop (go cs)
  | .gsl sz id ver off len => k sz id ver off len
  | .bptr _ _ _ _ | .ptr _ _ _ _ | .yield _ | .map _ | .bnd _ _ => .junk
  | .fn f capt => .fn f (go capt)
  | .iface t v => .iface t (stripW k v)
  | v => v
where go : List PV → List PV
  | [] => []
  | v :: r => stripW k v :: go r
def strip0 : PV → PV:=stripW fun _ _ _ _ _ => .junk
def rowEs (H : Heap) (id ver off len : Nat) : Option (List PV):=match H.rows id with
  | some (.gro _ es _) => if es.length = ver ∧ off + len ≤ ver then some ((es.drop off).take len) else none
  | _ => none
def strip1 (H : Heap) : PV → PV:=stripW fun sz id ver off len => match rowEs H id ver off len with
  | some es => .vs sz (es.map strip0) none
  | none => .junk
def strip2 (H : Heap) : PV → PV:=stripW fun sz id ver off len => match rowEs H id ver off len with
  | some es => .vs sz (es.map (strip1 H)) none
  | none => .junk
def freezeArg0 (H : Heap) : PV → PV × Heap
  | .gsl sz id ver off len => match H.rows id with
    | some (.gro sz' es _) => if es.length = ver ∧ off + len ≤ ver ∧ sz' = sz then (.vs sz (((es.drop off).take len).map strip0) none,H.set id (.gro sz es es.length)) else (.junk,H)
    | _ => (.junk,H)
  | v => (strip0 v,H)
def freezeArgs0 (H : Heap) : List PV → List PV × Heap
  | [] => ([],H)
  | v :: r => let a:=freezeArg0 H v; let b:=freezeArgs0 a.2 r; (a.1 :: b.1,b.2)
def freezeArg (H : Heap) : PV → PV × Heap
  | .agg cs => let a:=freezeArgs0 H cs; (.agg a.1,a.2)
  | v => freezeArg0 H v
def freezeArgs (H : Heap) : List PV → List PV × Heap
  | [] => ([],H)
  | v :: r => let a:=freezeArg H v; let b:=freezeArgs a.2 r; (a.1 :: b.1,b.2)
inductive CR where
  | ret (v : PV)
  | pan (v : PV)
inductive OpR where
  | val (v : PV) (s : St)
  | pan (v : PV) (s : St)
abbrev Rec:=Ctx → Code → St → Option (Ex × St)
def resPV (P : Program) (rs : List ResultVar) (s : St) : Option (List PV):=
  rs.mapM fun
  | .tmp t => some (s.tmps t)
  | .cell a t => (aggT P t).bind fun ag => (szOf P t).bind fun sz => (getAt s (s.tmps a)).bind fun cs => ld ag sz cs
def tupPV : List PV → PV
  | [v] => v
  | vs => .tup vs
def bodyOf (rec : Rec) (P : Program) (pol : Pol) (f : Nat) (args : List PV) (H : Heap) (rc : Rc) : Option (Func × Option PV × St):=
  (P.funcs[f]?).bind fun fn => fn.body.bind fun c =>
    if args.length ≤ fn.ntmps ∧ (fn.name == "runtime.NumGoroutine") = false then
      (rec ⟨P,pol,f,fn.ntmps,none⟩ c ⟨H.next,fun i => args.getD i .any,fun _ => none,[],⟨H.rows,H.next + 1⟩,rc⟩).bind fun r => match r.1 with
        | .normal | .ret => some (fn,none,r.2)
        | .pan v => some (fn,some v,r.2)
        | .exit _ => none
    else none
def afterRc : Rc → Option PV → Option PV
  | .done,_ => none
  | _,m => m
def rcOf : Option PV → Rc
  | some v => .pan v
  | none => .no
def unwindV (rec : Rec) (P : Program) (pol : Pol) : List VD → Option PV → Heap → Option (Option PV × Heap)
  | [],m,H => some (m,H)
  | .coll id :: ds,m,H => match H.rows id with
    | some .dfr => unwindV rec P pol ds m ⟨upd H.rows id none,H.next⟩
    | _ => none
  | .call f args :: ds,m,H => (bodyOf rec P pol f args H (rcOf m)).bind fun r => match r.2.1,r.2.2.defers with
    | none,[] => if r.1.results.isEmpty then unwindV rec P pol ds (afterRc r.2.2.rc m) r.2.2.H else none
    | _,_ => none
def callF (rec : Rec) (P : Program) (pol : Pol) (f : Nat) (args : List PV) (H : Heap) : Option (CR × Heap):=
  (bodyOf rec P pol f args H .no).bind fun r => (unwindV rec P pol r.2.2.defers r.2.1 r.2.2.H).bind fun m => match m.1 with
    | none => (resPV P r.1.results.toList { r.2.2 with H:=m.2 }).map fun vs => (.ret (tupPV vs),m.2)
    | some v => some (.pan v,m.2)
def putPs (nt : Nat) : List Nat → List PV → (Nat → PV) → Option (Nat → PV)
  | [],[],t => some t
  | p :: ps,v :: vs,t => if p < nt then putPs nt ps vs (upd t p v) else none
  | _,_,_ => none
def yieldF (rec : Rec) (P : Program) (pol : Pol) (l : Nat) (args : List PV) (H : Heap) : Option (CR × Heap):=
  match H.rows l with
  | some (.loop .ready fn nt tmps ps assign body _) => if (P.funcs[fn]?).isNone then none else (putPs nt ps args tmps).bind fun t0 =>
    (rec ⟨P,pol,fn,nt,some l⟩ assign ⟨H.next,t0,fun _ => none,[],⟨H.rows,H.next + 1⟩,.no⟩).bind fun r => match r.1,r.2.defers,r.2.H.rows l with
      | .normal,[],some (.loop .ready fn' nt' tmps' ps' assign' body' d') =>
        (rec ⟨P,pol,fn,nt,some l⟩ body { r.2 with H:=r.2.H.set l (.loop .busy fn' nt' tmps' ps' assign' body' d') }).bind fun q => match q.2.defers,q.2.H.rows l with
          | [],some (.loop _ fn' nt' tmps' ps' assign' body' d') => match q.1 with
            | .normal => some (.ret (.bool true),q.2.H.set l (.loop .ready fn' nt' tmps' ps' assign' body' d'))
            | .ret => some (.ret (.bool false),q.2.H.set l (.loop (.over (some .ret)) fn' nt' tmps' ps' assign' body' d'))
            | .exit id => some (.ret (.bool false),q.2.H.set l (.loop (.over (some (.exit id))) fn' nt' tmps' ps' assign' body' d'))
            | .pan v => some (.pan v,q.2.H)
          | _,_ => none
      | _,_,_ => none
  | _ => none
def globs : Nat → List Value:=fun g => if g = 1 then [.int .u8 0,.int .u8 1,.int .u8 56,.int .u8 2,.int .u8 57,.int .u8 49,.int .u8 28,.int .u8 3,.int .u8 61,.int .u8 58,.int .u8 42,.int .u8 50,.int .u8 38,.int .u8 29,.int .u8 17,.int .u8 4,.int .u8 62,.int .u8 47,.int .u8 59,.int .u8 36,.int .u8 45,.int .u8 43,.int .u8 51,.int .u8 22,.int .u8 53,.int .u8 39,.int .u8 33,.int .u8 30,.int .u8 24,.int .u8 18,.int .u8 12,.int .u8 5,.int .u8 63,.int .u8 55,.int .u8 48,.int .u8 27,.int .u8 60,.int .u8 41,.int .u8 37,.int .u8 16,.int .u8 46,.int .u8 35,.int .u8 44,.int .u8 21,.int .u8 52,.int .u8 32,.int .u8 23,.int .u8 11,.int .u8 54,.int .u8 26,.int .u8 40,.int .u8 15,.int .u8 34,.int .u8 20,.int .u8 31,.int .u8 10,.int .u8 25,.int .u8 14,.int .u8 19,.int .u8 9,.int .u8 13,.int .u8 8,.int .u8 7,.int .u8 6] else []
def globPV (g : Nat) : PV:=if (globs g).isEmpty then .any else .rop ((globs g).map fun v => (ofV v).getD .any)
def evS (s : St) : Operand → PV
  | .tmp t => s.tmps t
  | .const v => (ofV v).getD .any
  | .global g => globPV g
  | .func f => .fn f []
def callV (rec : Rec) (cx : Ctx) (f : PV) (args : List PV) (s : St) : Option OpR:=
  match f with
  | .fn f capt =>
    if cx.pol.iso f then
      let a:=freezeArgs s.H args
      (callF rec cx.P cx.pol f (a.1 ++ capt.map strip0) .empty).bind fun r => match r.1 with
        | .ret v => some (.val (strip2 r.2 v) { s with H:=a.2 })
        | .pan v => some (.pan (strip0 v) { s with H:=a.2 })
    else (callF rec cx.P cx.pol f (args ++ capt) s.H).bind fun r => match r.1 with
      | .ret v => some (.val v { s with H:=r.2 })
      | .pan v => some (.pan v { s with H:=r.2 })
  | .bnd f first => if cx.pol.iso f then none else (callF rec cx.P cx.pol f (first ++ args) s.H).bind fun r => match r.1 with
      | .ret v => some (.val v { s with H:=r.2 })
      | .pan v => some (.pan v { s with H:=r.2 })
  | .yield l => (yieldF rec cx.P cx.pol l args s.H).bind fun r => match r.1 with
      | .ret v => some (.val v { s with H:=r.2 })
      | .pan v => some (.pan v { s with H:=r.2 })
  | _ => none
def dstIn (l : List Nat) : Option Nat → Bool
  | some d => l.contains d
  | none => false
def dstPl (l : List Nat) : Option Nat → Bool
  | some d => l.contains (d + 1000000)
  | none => false
def newVarV (cx : Ctx) (dst : Option Nat) (sz : Nat) (v : PV) (s : St) : Option OpR:=
  if v.fits sz then
    match dst with
    | some d => if (cx.pol.heap cx.fn).contains d then some (.val (.ptr s.H.next 1 0 0) { s with H:=s.H.add (.gro sz [v] 0) })
      else if (cx.pol.heap cx.fn).contains (d + 1000000) then some (.val (.rop v.cells) s)
      else
        let ver:=match s.boxes d with | some (n,_) => n + 1 | none => 0
        some (.val (.bptr s.fid d ver 0) { s with boxes:=upd s.boxes d (some (ver,v.cells)) })
    | none => none
  else none
def maxN : Nat:=67108864
def maxB : Nat:=65536
def elemsOf (H : Heap) : PV → Option (List PV)
  | .nils => some []
  | .vs _ es _ => some es
  | .gsl _ id ver off len => rowEs H id ver off len
  | _ => none
def appendV (sz bytes : Nat) (H : Heap) (x : PV) (es : List PV) : Option (PV × Heap):=
  if es.all fun e => e.fits sz then
    match x with
    | .gsl sz0 id ver 0 len => match H.rows id with
      | some (.gro sz' es0 frz) => if es0.length = ver ∧ len = ver ∧ sz' = sz ∧ sz0 = sz ∧ ver + es.length ≤ maxN ∧ bytes ≤ maxB then
          (if es.isEmpty then some (x,H) else some (.gsl sz id (ver + es.length) 0 (ver + es.length),H.set id (.gro sz (es0 ++ es) frz))) else none
      | _ => none
    | .nils => if es.length ≤ maxN ∧ bytes ≤ maxB then (if es.isEmpty then some (x,H) else some (.gsl sz H.next es.length 0 es.length,H.add (.gro sz es 0))) else none
    | .vs sz' es0 (some c) => if c = es0.length ∧ (sz' = sz ∨ es0 = []) ∧ es0.length + es.length ≤ maxN ∧ bytes ≤ maxB then
        (if es.isEmpty then some (x,H) else some (.gsl sz H.next (es0 ++ es).length 0 (es0 ++ es).length,H.add (.gro sz (es0 ++ es) 0))) else none
    | _ => none
  else none
def isNils : PV → Bool
  | .nils => true
  | _ => false
def lookR (z : PV) (ok : Bool) : Option (Nat × PV) → PV
  | some (_,v) => if ok = true then .tup [v,.bool true] else v
  | none => if ok = true then .tup [z,.bool false] else z
def updR (k v : PV) (es : List (PV × PV)) : Option (Nat × PV) → Option (List (PV × PV))
  | some (i,_) => (es[i]?).bind fun e => if plainEq e.1 k = true then some (es.set i (k,v)) else none
  | none => some (es ++ [(k,v)])
def opV (rec : Rec) (cx : Ctx) (o : Oper) (s : St) : Option OpR:=
  match o.op with
  | .assign x => if dstIn (cx.pol.accs cx.fn) o.dst && isNils (evS s x) then (sliceT cx.P o.type).bind fun e => (szOf cx.P e).bind fun sz => some (.val (.gsl sz s.H.next 0 0 0) { s with H:=s.H.add (.gro sz [] 0) })
    else some (.val (evS s x) s)
  | .alloc t => (zeroT cx.P t).bind fun z => (szOf cx.P t).bind fun sz =>
    if dstIn (cx.pol.accs cx.fn) o.dst && isNils z then (sliceT cx.P t).bind fun e => (szOf cx.P e).bind fun esz => newVarV cx o.dst sz (.gsl esz s.H.next 0 0 0) { s with H:=s.H.add (.gro esz [] 0) }
    else newVarV cx o.dst sz z s
  | .box t x => (szOf cx.P t).bind fun sz => newVarV cx o.dst sz (evS s x) s
  | .load t a => (aggT cx.P t).bind fun ag => (szOf cx.P t).bind fun sz => (getAt s (evS s a)).bind fun cs => (ld ag sz cs).map fun v => .val v s
  | .store t a x => (szOf cx.P t).bind fun sz => if (evS s x).fits sz then (putAt s (evS s x).cells (evS s a)).map fun s' => .val (.tup []) s' else none
  | .buildSlice t len parts => (sliceT cx.P t).bind fun e => (szOf cx.P e).bind fun sz => (zeroT cx.P e).bind fun z =>
    if z.fits sz ∧ sz ≠ 0 ∧ len * sz ≤ 16777216 then (fillSl sz (parts.toList.map fun (i,x) => (i,evS s x)) (List.replicate len z)).map fun es =>
      if dstIn (cx.pol.muts cx.fn) o.dst then .val (.gsl sz s.H.next len 0 len) { s with H:=s.H.add (.gro sz es 0) } else .val (.vs sz es (some len)) s
    else none
  | .makeSlice t l c => (sliceT cx.P t).bind fun e => (szOf cx.P e).bind fun sz => (bytesT cx.P e).bind fun bytes => (zeroT cx.P e).bind fun z => match evS s l,evS s c with
    | .int .i64 n,.int .i64 m => if n = m ∧ 0 ≤ n ∧ n ≤ maxN ∧ bytes ≤ maxB ∧ z.fits sz ∧ sz ≠ 0 then
        if dstPl (cx.pol.heap cx.fn) o.dst then some (.val (.vs sz (List.replicate n.toNat z) (some n.toNat)) s) else some (.val (.gsl sz s.H.next n.toNat 0 n.toNat) { s with H:=s.H.add (.gro sz (List.replicate n.toNat z) 0) }) else none
    | _,_ => none
  | .makeMap _ none => some (.val (.map s.H.next) { s with H:=s.H.add (.map []) })
  | .lookup t x i ok => (mapT cx.P t).bind fun kt => (zeroT cx.P kt.2).bind fun z => match evS s x with
    | .map id => match s.H.rows id with
      | some (.map es) => if keyChk cx.P kt.1 (evS s i) = true then (findPV cx.P kt.1 (evS s i) es 0).map fun r => .val (lookR z ok r) s else none
      | _ => none
    | _ => none
  | .mapUpdate t m k x => (mapT cx.P t).bind fun kt => match evS s m with
    | .map id => match s.H.rows id with
      | some (.map es) => if keyChk cx.P kt.1 (evS s k) = true then (findPV cx.P kt.1 (evS s k) es 0).bind fun r => (updR (evS s k) (evS s x) es r).map fun es' => .val (.tup []) { s with H:=s.H.set id (.map es') } else none
      | _ => none
    | _ => none
  | .insert t m k x => (mapT cx.P t).bind fun kt => match evS s m with
    | .map id => match s.H.rows id with
      | some (.map es) => if keyChk cx.P kt.1 (evS s k) = true then (findPV cx.P kt.1 (evS s k) es 0).bind fun r => (updR (evS s k) (evS s x) es r).map fun es' => .val (.tup []) { s with H:=s.H.set id (.map es') } else none
      | _ => none
    | _ => none
  | .call ⟨.builtin .append,args,ts⟩ => match args.toList,ts.toList with
    | [x,y],[t,u] => (sliceT cx.P t).bind fun e => (sliceT cx.P u).bind fun _ => (szOf cx.P e).bind fun sz => (bytesT cx.P e).bind fun bytes => (elemsOf s.H (evS s y)).bind fun es =>
      if sz = 0 ∨ ((zeroT cx.P e).any fun z => z.fits sz) = false then none else (appendV sz bytes s.H (evS s x) es).map fun r => .val r.1 { s with H:=r.2 }
    | _,_ => none
  | .call ⟨.builtin .recover,_,_⟩ => if cx.round.isSome then none else match s.rc with
    | .no => some (.val .nili s)
    | .pan v => some (.val v { s with rc:=.done })
    | .done => none
  | .call ⟨.value f,args,_⟩ => callV rec cx (evS s f) (args.toList.map (evS s)) s
  | .defer ⟨.value f,args,_⟩ => if cx.round.isSome then none else match evS s f with
    | .fn f capt => some (.val (.tup []) { s with defers:=.call f (args.toList.map (evS s) ++ capt) :: s.defers })
    | _ => none
  | .panic x => match evS s x with
    | .iface t v => some (.pan (.iface t v) s)
    | _ => none
  | op => (pureOp cx.P op (evS s)).map fun v => .val v s
def putV (nt : Nat) (d : Option Nat) (v : PV) (s : St) : Option St:=
  match d with
  | none => some s
  | some d => if d < nt then some { s with tmps:=upd s.tmps d v } else none
def wantedV (ops : Array Oper) (s : St) (o : Oper) : Option Bool:=
  match o.guard with
  | none => some true
  | some (j,w) => ((ops[j]?).bind (·.dst)).bind fun d => match s.tmps d with
    | .bool b => some (b == w)
    | .tup [] => some false
    | _ => none
def runOps (rec : Rec) (cx : Ctx) (ops : Array Oper) : List Nat → St → Option (Option PV × St)
  | [],s => some (none,s)
  | i :: r,s => (ops[i]?).bind fun o => (wantedV ops s o).bind fun w =>
    if w then (opV rec cx o s).bind fun
      | .val v s' => (putV cx.nt o.dst v s').bind (runOps rec cx ops r)
      | .pan v s' => some (some v,s')
    else (putV cx.nt o.dst (.tup []) s).bind (runOps rec cx ops r)
def exOf (r : Option PV × St) : Ex × St:=match r.1 with
  | none => (.normal,r.2)
  | some v => (.pan v,r.2)
open Classical in
noncomputable def stepV (rec : Rec) : Rec:=fun cx c s =>
  match c with
  | .skip | .label _ => some (.normal,s)
  | .region _ ops false => (runOps rec cx ops (List.range ops.size) s).map exOf
  | .region _ ops true =>
    if ∀ t,runOps rec cx ops (Region.schedule (cx.P.follows .mixedOrders) ops t) s = runOps rec cx ops (List.range ops.size) s
    then (runOps rec cx ops (List.range ops.size) s).map exOf else none
  | .seq a b => (rec cx a s).bind fun r => match r.1 with
    | .normal => rec cx b r.2
    | _ => some r
  | .cond c a b => match evS s c with
    | .bool x => if x then rec cx a s else rec cx b s
    | _ => none
  | .block id c => (rec cx c s).map fun r => match r.1 with
    | .exit id' => if id' = id then (.normal,r.2) else r
    | _ => r
  | .loop c => (rec cx c s).bind fun r => match r.1 with
    | .normal => rec cx (.loop c) r.2
    | _ => some r
  | .exit id => some (.exit id,s)
  | .ret => some (.ret,s)
  | .rangeFunc f ps assign body => match evS s f with
    | .fn g capt =>
      let d : Option (Nat × St):=match cx.round with
        | none => some (s.H.next,{ s with H:=s.H.add .dfr,defers:=.coll s.H.next :: s.defers })
        | some l => match s.H.rows l with
          | some (.loop _ _ _ _ _ _ _ d) => some (d,s)
          | _ => none
      d.bind fun ds =>
        let l:=ds.2.H.next
        (callF rec cx.P cx.pol g (.yield l :: capt) (ds.2.H.add (.loop .ready cx.fn cx.nt ds.2.tmps ps.toList assign body ds.1))).bind fun r => match r.1 with
          | .ret _ => match r.2.rows l with
            | some (.loop .ready ..) => some (.normal,{ ds.2 with H:=⟨upd r.2.rows l none,r.2.next⟩ })
            | some (.loop (.over (some .ret)) ..) => some (.ret,{ ds.2 with H:=⟨upd r.2.rows l none,r.2.next⟩ })
            | some (.loop (.over (some (.exit id))) ..) => some (.exit id,{ ds.2 with H:=⟨upd r.2.rows l none,r.2.next⟩ })
            | _ => none
          | .pan v => some (.pan v,{ ds.2 with H:=r.2 })
    | _ => none
  | _ => none
noncomputable def codeV : Nat → Rec
  | 0 => fun _ _ _ => none
  | n + 1 => stepV (codeV n)
end GoV
namespace GoV
open Go
def flat (es : List PV) : List PV:=es.flatMap PV.cells
@[simp] theorem flat_nil : flat [] = []:=rfl
@[simp] theorem flat_cons (e : PV) (es : List PV) : flat (e :: es) = e.cells ++ flat es:=rfl
@[simp] theorem flat_append (a b : List PV) : flat (a ++ b) = flat a ++ flat b:=by simp [flat]
theorem flat_len {sz : Nat} : ∀ (l : List PV),(∀ e ∈ l,e.cells.length = sz) → (flat l).length = l.length * sz
  | [],_ => by simp
  | a :: l,h => by simp [flat_len l fun e he => h e (by simp [he]),h a (by simp),Nat.succ_mul,Nat.add_comm]
theorem flat_take {sz : Nat} : ∀ (l : List PV) (i : Nat),(∀ e ∈ l,e.cells.length = sz) → flat (l.take i) = (flat l).take (i * sz)
  | [],_,_ => by simp
  | a :: l,0,_ => by simp
  | a :: l,i + 1,h => by
    have ha:=h a (by simp)
    rw [List.take_succ_cons,flat_cons,flat_cons,flat_take l i fun e he => h e (by simp [he]),Nat.succ_mul,Nat.add_comm (i * sz) sz,← ha,List.take_length_add_append]
theorem flat_drop {sz : Nat} : ∀ (l : List PV) (i : Nat),(∀ e ∈ l,e.cells.length = sz) → flat (l.drop i) = (flat l).drop (i * sz)
  | [],_,_ => by simp
  | a :: l,0,_ => by simp
  | a :: l,i + 1,h => by
    have ha:=h a (by simp)
    rw [List.drop_succ_cons,flat_cons,flat_drop l i fun e he => h e (by simp [he]),Nat.succ_mul,Nat.add_comm (i * sz) sz,← ha,List.drop_length_add_append]
theorem flat_set {sz : Nat} (l : List PV) (i : Nat) (p : PV) (h : ∀ e ∈ l,e.cells.length = sz) (hi : i < l.length) : flat (l.set i p) = (flat l).take (i * sz) ++ (p.cells ++ (flat l).drop (i * sz + sz)):=by
  rw [List.set_eq_take_append_cons_drop,if_pos hi,flat_append,flat_cons,flat_take l i h,flat_drop l (i + 1) h,Nat.succ_mul]
theorem flat_get {sz : Nat} (l : List PV) (i : Nat) (e : PV) (h : ∀ e ∈ l,e.cells.length = sz) (he : l[i]? = some e) : (flat l).drop (i * sz) = e.cells ++ flat (l.drop (i + 1)):=by
  obtain ⟨hi,rfl⟩:=List.getElem?_eq_some_iff.1 he
  rw [← flat_drop l i h,List.drop_eq_getElem_cons hi,flat_cons]
structure Env where
  S : Nat → Nat → Option Value
  mu : Nat → Nat → Option (Option Nat)
  sz : Nat → Nat
  cp : Nat → Nat → Nat
  be : Nat → Nat → Nat → Option Nat
  hG : ∀ g i v,(globs g)[i]? = some v → S g i = some v
def Env.nul : Env:=⟨fun b o => (globs b)[o]?,fun _ _ => none,fun _ => 0,fun _ _ => 0,fun _ _ _ => none,fun _ _ _ h => h⟩
def Env.setS (E : Env) (S' : Nat → Nat → Option Value) : Env:={ E with
  S:=fun b o => match (globs b)[o]? with | some v => some v | none => S' b o
  hG:=fun g i v h => by simp only [h] }
theorem Env.setS_eq {E : Env} {S' : Nat → Nat → Option Value} (h : ∀ b o v,E.S b o = some v → S' b o = some v) : (E.setS S').S = S':=by
  funext b o
  show (match (globs b)[o]? with | some v => some v | none => S' b o) = S' b o
  cases hg : (globs b)[o]? with
  | none => rfl
  | some v => exact (h b o v (E.hG b o v hg)).symm
structure Env.le (E E' : Env) : Prop where
  S : ∀ b o v,E.S b o = some v → E'.S b o = some v
  mu : ∀ i n x,E.mu i n = some x → E'.mu i n = some x ∧ E'.sz i = E.sz i ∧ E'.cp i n = E.cp i n
  be : ∀ f t n b,E.be f t n = some b → E'.be f t n = some b
theorem Env.le_refl (E : Env) : E.le E:=⟨fun _ _ _ h => h,fun _ _ _ h => ⟨h,rfl,rfl⟩,fun _ _ _ _ h => h⟩
theorem Env.le_trans {E E' E'' : Env} (h : E.le E') (h' : E'.le E'') : E.le E'':=
  ⟨fun _ _ _ x => h'.S _ _ _ (h.S _ _ _ x),fun _ _ _ x => ⟨(h'.mu _ _ _ (h.mu _ _ _ x).1).1,(h'.mu _ _ _ (h.mu _ _ _ x).1).2.1.trans (h.mu _ _ _ x).2.1,(h'.mu _ _ _ (h.mu _ _ _ x).1).2.2.trans (h.mu _ _ _ x).2.2⟩,fun _ _ _ _ x => h'.be _ _ _ _ (h.be _ _ _ _ x)⟩
def Env.at (E : Env) (b off : Nat) (vals : List Value) : Prop:=∀ i v,vals[i]? = some v → E.S b (off + i) = some v
mutual
inductive R (E : Env) : Value → PV → Prop
  | any (v : Value) : R E v .any
  | junk (v : Value) (h : v.oneCell' = true) : R E v .junk
  | bool (b : Bool) : R E (.bool b) (.bool b)
  | int (k : IntKind) (n : Int) : R E (.int k n) (.int k n)
  | str (s : ByteArray) : R E (.string s) (.str s)
  | nilp : R E (.pointer none) .nilp
  | nilf : R E .nilFunc .nilf
  | nili : R E .nilIface .nili
  | nils : R E (.slice none 0 0) .nils
  | nilm : R E (.map none) .nilm
  | agg (cs : List Value) (ps : List PV) (h1 : ∀ c ∈ cs,c.oneCell' = true) : RL E cs ps → R E (.agg cs.toArray) (.agg ps)
  | tup (cs : List Value) (ps : List PV) : RL E cs ps → R E (.tuple cs.toArray) (.tup ps)
  | vsE (sz : Nat) (a : Option Addr) (c : Nat) (cap : Option Nat) (hc : ∀ k,cap = some k → c = k) (ha : a = none → c = 0 ∧ cap = none) : R E (.slice a 0 c) (.vs sz [] cap)
  | vs (sz : Nat) (b off c : Nat) (cap : Option Nat) (vals : List Value) (es : List PV) (n : Nat) (hn : n = es.length) (hS : E.at b off vals) (hR : RL E vals (flat es)) (hz : ∀ e ∈ es,e.cells.length = sz) (hl : es.length ≤ c)
      (hc : ∀ k,cap = some k → c = k) : R E (.slice (some ⟨b,off,none⟩) n c) (.vs sz es cap)
  | rop (b off : Nat) (vals : List Value) (cs : List PV) (hS : E.at b off vals) (hR : RL E vals cs) : R E (.pointer (some ⟨b,off,none⟩)) (.rop cs)
  | gslN (sz id : Nat) (h : E.mu id 0 = some none) (hz : E.sz id = sz) : R E (.slice none 0 0) (.gsl sz id 0 0 0)
  | gsl (sz id ver off len b c o : Nat) (h : E.mu id ver = some (some b)) (hz : E.sz id = sz) (hl : len ≤ c) (ho : o = off * sz) (hcp : c + off = E.cp id ver) : R E (.slice (some ⟨b,o,none⟩) len c) (.gsl sz id ver off len)
  | bptr (fid t ver off b : Nat) (h : E.be fid t ver = some b) : R E (.pointer (some ⟨b,off,none⟩)) (.bptr fid t ver off)
  | ptr (id ver i off b o : Nat) (h : E.mu id ver = some (some b)) (ho : o = i * E.sz id + off) : R E (.pointer (some ⟨b,o,none⟩)) (.ptr id ver i off)
  | fn (f : Nat) (cs : List Value) (ps : List PV) : RL E cs ps → R E (.func (.func f) #[] cs.toArray) (.fn f ps)
  | bnd (f : Nat) (cs : List Value) (ps : List PV) : RL E cs ps → R E (.func (.func f) cs.toArray #[]) (.bnd f ps)
  | yield (l b : Nat) (h : E.mu l 0 = some (some b)) : R E (.func (.yield b) #[] #[]) (.yield l)
  | iface (t : TypeId) (v : Value) (p : PV) : R E v p → R E (.iface t v) (.iface t p)
  | map (id b : Nat) (h : E.mu id 0 = some (some b)) : R E (.map (some b)) (.map id)
inductive RL (E : Env) : List Value → List PV → Prop
  | nil : RL E [] []
  | cons (v : Value) (p : PV) (vs : List Value) (ps : List PV) : R E v p → RL E vs ps → RL E (v :: vs) (p :: ps)
end
theorem RL.length {E : Env} : ∀ {vs : List Value} {ps : List PV},RL E vs ps → vs.length = ps.length
  | _,_,.nil => rfl
  | _,_,.cons _ _ _ _ _ h => by simp [RL.length h]
theorem RL.get {E : Env} : ∀ {vs : List Value} {ps : List PV},RL E vs ps → ∀ {i : Nat} {p : PV},ps[i]? = some p → ∃ v,vs[i]? = some v ∧ R E v p
  | _,_,.nil,i,p,h => by simp at h
  | _,_,.cons v p' vs ps h t,0,p,hp => by simp at hp; subst hp; exact ⟨v,rfl,h⟩
  | _,_,.cons v p' vs ps h t,i + 1,p,hp => by simp at hp; simpa using RL.get t hp
theorem RL.get' {E : Env} : ∀ {vs : List Value} {ps : List PV},RL E vs ps → ∀ {i : Nat} {v : Value},vs[i]? = some v → ∃ p,ps[i]? = some p ∧ R E v p
  | _,_,.nil,i,p,h => by simp at h
  | _,_,.cons v p' vs ps h t,0,p,hp => by simp at hp; subst hp; exact ⟨p',rfl,h⟩
  | _,_,.cons v p' vs ps h t,i + 1,p,hp => by simp at hp; simpa using RL.get' t hp
theorem RL.append {E : Env} : ∀ {vs ws : List Value} {ps qs : List PV},RL E vs ps → RL E ws qs → RL E (vs ++ ws) (ps ++ qs)
  | _,_,_,_,.nil,h => h
  | _,_,_,_,.cons _ _ _ _ h t,h' => .cons _ _ _ _ h (RL.append t h')
theorem RL.take {E : Env} : ∀ (n : Nat) {vs : List Value} {ps : List PV},RL E vs ps → RL E (vs.take n) (ps.take n)
  | 0,_,_,_ => by simpa using RL.nil
  | _ + 1,_,_,.nil => by simpa using RL.nil
  | n + 1,_,_,.cons _ _ _ _ h t => .cons _ _ _ _ h (RL.take n t)
theorem RL.drop {E : Env} : ∀ (n : Nat) {vs : List Value} {ps : List PV},RL E vs ps → RL E (vs.drop n) (ps.drop n)
  | 0,_,_,h => h
  | _ + 1,_,_,.nil => by simpa using RL.nil
  | n + 1,_,_,.cons _ _ _ _ _ t => RL.drop n t
theorem RL.set {E : Env} : ∀ {vs : List Value} {ps : List PV} (n : Nat) {v : Value} {p : PV},RL E vs ps → R E v p → RL E (vs.set n v) (ps.set n p)
  | _,_,_,_,_,.nil,_ => by simpa using RL.nil
  | _,_,0,_,_,.cons _ _ _ _ _ t,h' => .cons _ _ _ _ h' t
  | _,_,n + 1,_,_,.cons _ _ _ _ h t,h' => .cons _ _ _ _ h (RL.set n t h')
theorem RL.split {E : Env} : ∀ {ps qs : List PV} {vs : List Value},RL E vs (ps ++ qs) → ∃ v1 v2,vs = v1 ++ v2 ∧ RL E v1 ps ∧ RL E v2 qs
  | [],_,vs,h => ⟨[],vs,rfl,.nil,h⟩
  | _ :: ps,_,_,.cons v _ _ _ h t => let ⟨v1,v2,e,h1,h2⟩:=RL.split (ps:=ps) t; ⟨v :: v1,v2,by simp [e],.cons _ _ _ _ h h1,h2⟩
theorem RL.replicate {E : Env} {v : Value} {p : PV} (h : R E v p) : ∀ n,RL E (List.replicate n v) (List.replicate n p)
  | 0 => .nil
  | n + 1 => .cons _ _ _ _ h (RL.replicate h n)
theorem RL.of_map {E : Env} {α : Type} {f : α → Value} {g : α → PV} : ∀ (l : List α),(∀ x ∈ l,R E (f x) (g x)) → RL E (l.map f) (l.map g)
  | [],_ => .nil
  | x :: l,h => .cons _ _ _ _ (h x (by simp)) (RL.of_map l fun y hy => h y (by simp [hy]))
mutual
theorem R.mono {E E' : Env} (h : E.le E') : ∀ {v : Value} {p : PV},R E v p → R E' v p
  | _,_,.any v => .any v
  | _,_,.junk v h => .junk v h
  | _,_,.bool b => .bool b
  | _,_,.int k n => .int k n
  | _,_,.str s => .str s
  | _,_,.nilp => .nilp
  | _,_,.nilf => .nilf
  | _,_,.nili => .nili
  | _,_,.nils => .nils
  | _,_,.nilm => .nilm
  | _,_,.agg _ _ h1 hl => .agg _ _ h1 (RL.mono h hl)
  | _,_,.tup _ _ hl => .tup _ _ (RL.mono h hl)
  | _,_,.vsE sz a c cap hc ha => .vsE sz a c cap hc ha
  | _,_,.vs sz b off c cap vals es n hn hS hR hz hl hc => .vs sz b off c cap vals es n hn (fun i v x => h.S _ _ _ (hS i v x)) (RL.mono h hR) hz hl hc
  | _,_,.rop b off vals cs hS hR => .rop b off vals cs (fun i v x => h.S _ _ _ (hS i v x)) (RL.mono h hR)
  | _,_,.gslN sz id hm hz => .gslN sz id (h.mu _ _ _ hm).1 ((h.mu _ _ _ hm).2.1.trans hz)
  | _,_,.gsl sz id ver off len b c o hm hz hl ho hcp => .gsl sz id ver off len b c o (h.mu _ _ _ hm).1 ((h.mu _ _ _ hm).2.1.trans hz) hl ho (hcp.trans (h.mu _ _ _ hm).2.2.symm)
  | _,_,.bptr fid t ver off b hb => .bptr fid t ver off b (h.be _ _ _ _ hb)
  | _,_,.ptr id ver i off b o hm ho => .ptr id ver i off b o (h.mu _ _ _ hm).1 (by rw [(h.mu _ _ _ hm).2.1]; exact ho)
  | _,_,.fn f _ _ hl => .fn f _ _ (RL.mono h hl)
  | _,_,.bnd f _ _ hl => .bnd f _ _ (RL.mono h hl)
  | _,_,.yield l b hm => .yield l b (h.mu _ _ _ hm).1
  | _,_,.iface t _ _ hv => .iface t _ _ (R.mono h hv)
  | _,_,.map id b hm => .map id b (h.mu _ _ _ hm).1
theorem RL.mono {E E' : Env} (h : E.le E') : ∀ {v : List Value} {p : List PV},RL E v p → RL E' v p
  | _,_,.nil => .nil
  | _,_,.cons _ _ _ _ h1 h2 => .cons _ _ _ _ (R.mono h h1) (RL.mono h h2)
end
theorem R.cells {E : Env} {v : Value} {p : PV} (h : R E v p) (hp : p ≠ .any) : RL E v.cells.toList p.cells:=by
  cases h
  case agg cs ps h1 hl => simpa [Value.cells,PV.cells] using hl
  case any => exact absurd rfl hp
  case junk h =>
    cases v <;> first | (simp [Value.oneCell'] at h; done) | (simp only [Value.cells,PV.cells]; exact .cons _ _ _ _ (.junk _ h) .nil)
  all_goals (simp only [Value.cells,PV.cells]; exact .cons _ _ _ _ (by constructor <;> assumption) .nil)
theorem PV.fits_iff {p : PV} {n : Nat} : p.fits n = true ↔ p ≠ .any ∧ (∀ ps,p ≠ .tup ps) ∧ p.cells.length = n:=by
  cases p <;> simp [PV.fits]
theorem R.one {E : Env} {v : Value} {p : PV} (h : R E v p) (hp : p ≠ .any) (ht : ∀ ps,p ≠ .tup ps) : ∀ c ∈ v.cells,c.oneCell' = true:=by
  cases h
  case agg cs ps h1 hl => simpa [Value.cells] using h1
  case any => exact absurd rfl hp
  case tup => exact absurd rfl (ht _)
  case junk h => cases v <;> first | (simp [Value.oneCell'] at h; done) | simp [Value.cells,Value.oneCell']
  all_goals simp [Value.cells,Value.oneCell']
theorem R.fits {E : Env} {v : Value} {p : PV} {n : Nat} (h : R E v p) (hp : p.fits n = true) : RL E v.cells.toList p.cells ∧ v.cells.size = n ∧ ∀ c ∈ v.cells.toList,c.oneCell' = true:=by
  obtain ⟨h1,h2,h3⟩:=PV.fits_iff.1 hp
  have:=h.cells h1
  exact ⟨this,by rw [← Array.length_toList,this.length,h3],fun c hc => h.one h1 h2 c (by simpa using hc)⟩
theorem R.ofS {E : Env} {v : Value} {p : PV} (h : ofS v = some p) : R E v p:=by
  unfold GoV.ofS at h
  split at h <;> simp at h <;> subst h <;> constructor
theorem one_ofS {v : Value} {p : PV} (h : ofS v = some p) : v.oneCell' = true:=by
  unfold GoV.ofS at h
  split at h <;> simp at h <;> rfl
theorem R.ofV {E : Env} {v : Value} {p : PV} (h : ofV v = some p) : R E v p:=by
  unfold GoV.ofV at h
  split at h
  · rename_i cs
    simp only [Option.map_eq_some_iff] at h
    obtain ⟨ps,hm,rfl⟩:=h
    have key : ∀ (l : List Value) (ps : List PV),l.mapM GoV.ofS = some ps → RL E l ps ∧ ∀ c ∈ l,c.oneCell' = true:=by
      intro l
      induction l with
      | nil => intro ps h; simp at h; subst h; exact ⟨.nil,by simp⟩
      | cons x l ih =>
        intro ps h
        simp only [List.mapM_cons,Option.pure_def,Option.bind_eq_bind,Option.bind_eq_some_iff] at h
        obtain ⟨y,hy,ys,hys,h⟩:=h
        simp at h; subst h
        exact ⟨.cons _ _ _ _ (R.ofS hy) (ih _ hys).1,by intro c hc; simp at hc; rcases hc with rfl | hc; exact one_ofS hy; exact (ih _ hys).2 c hc⟩
    have:=R.agg (E:=E) cs.toList ps (key _ _ hm).2 (key _ _ hm).1
    simpa using this
  · exact R.ofS h
end GoV
namespace GoV
open Go
def Env.blk (E : Env) (id : Nat) : Row → Option Nat
  | .gro _ es _ => (E.mu id es.length).join
  | _ => (E.mu id 0).join
def pendOf : LoopSt → LoopState × Option Code
  | .ready => (.ready,none)
  | .busy => (.busy,none)
  | .over p => (.done,p)
def RowOK (E : Env) (w : World) (id : Nat) : Row → Prop
  | .gro sz es frz => E.sz id = sz ∧ (∀ e ∈ es,e.cells.length = sz) ∧ (∀ n,es.length < n → E.mu id n = none) ∧
      ((es = [] ∧ E.mu id 0 = some none ∧ frz = 0) ∨
       ∃ b c t,E.mu id es.length = some (some b) ∧ w.heap[b]? = some (.cells c t (0,0)) ∧ (∃ vals rest,c.toList = vals ++ rest ∧ RL E vals (flat es)) ∧ (∀ v ∈ c.toList,v.oneCell' = true) ∧ (∀ o,frz * sz ≤ o → E.S b o = none) ∧ c.size = E.cp id es.length * sz ∧ frz ≤ es.length)
  | .loop st fn nt tmps ps assign body d => (∀ n,0 < n → E.mu id n = none) ∧ ∃ b L,E.mu id 0 = some (some b) ∧ w.heap[b]? = some (.loop L) ∧ L.state = (pendOf st).1 ∧ (st ≠ .busy → L.pending = (pendOf st).2) ∧ L.fn = fn ∧ L.tmps.size = nt ∧ (∀ i,R E (L.tmps.getD i undef) (tmps i)) ∧
      L.params = ps.toArray ∧ L.assign = assign ∧ L.body = body ∧ ∃ bd,E.mu d 0 = some (some bd) ∧ L.defers = bd
  | .dfr => (∀ n,0 < n → E.mu id n = none) ∧ ∃ b,E.mu id 0 = some (some b) ∧ w.heap[b]? = some (.deferred (some []))
  | .map es => (∀ n,0 < n → E.mu id n = none) ∧ ∃ b mes c,E.mu id 0 = some (some b) ∧ w.heap[b]? = some (.map mes c) ∧ RL E (mes.toList.map (·.key)) (es.map (·.1)) ∧ RL E (mes.toList.map (·.val)) (es.map (·.2))
structure Sim (E : Env) (H : Heap) (w : World) : Prop where
  stab : ∀ b o v,E.S b o = some v → w.cell? ⟨b,o,none⟩ = some v ∧ v.oneCell' = true
  row : ∀ id r,H.rows id = some r → RowOK E w id r
  fresh : ∀ id n,H.next ≤ id → E.mu id n = none
  freshB : ∀ f t n,H.next ≤ f → E.be f t n = none
  inj : ∀ id id' r r' b,H.rows id = some r → H.rows id' = some r' → E.blk id r = some b → E.blk id' r' = some b → id = id'
def own (E : Env) (H : Heap) (b : Nat) : Prop:=∃ id r,H.rows id = some r ∧ E.blk id r = some b
def ownF (E : Env) (s : St) (b : Nat) : Prop:=own E s.H b ∨ ∃ t ver cs,s.boxes t = some (ver,cs) ∧ E.be s.fid t ver = some b
inductive D (E : Env) : Deferred → VD → Prop
  | coll (id b : Nat) (h : E.mu id 0 = some (some b)) : D E ⟨.collected b,#[]⟩ (.coll id)
  | call (f : Nat) (args capt : List Value) (ps : List PV) (h : RL E (args ++ capt) ps) : D E ⟨.fn (.func f) capt.toArray,args.toArray⟩ (.call f ps)
inductive DL (E : Env) : List Deferred → List VD → Prop
  | nil : DL E [] []
  | cons (d : Deferred) (v : VD) (ds : List Deferred) (vs : List VD) : D E d v → DL E ds vs → DL E (d :: ds) (v :: vs)
theorem D.mono {E E' : Env} (h : E.le E') {d : Deferred} {v : VD} : D E d v → D E' d v
  | .coll id b hm => .coll id b (h.mu _ _ _ hm).1
  | .call f args capt ps hl => .call f args capt ps (hl.mono h)
theorem DL.mono {E E' : Env} (h : E.le E') : ∀ {d : List Deferred} {v : List VD},DL E d v → DL E' d v
  | _,_,.nil => .nil
  | _,_,.cons _ _ _ _ h1 h2 => .cons _ _ _ _ (h1.mono h) (DL.mono h h2)
structure Boxes (E : Env) (s : St) (w : World) : Prop where
  ok : ∀ t ver cs,s.boxes t = some (ver,cs) → ∃ b c ty,E.be s.fid t ver = some b ∧ w.heap[b]? = some (.cells c ty (0,0)) ∧ RL E c.toList cs ∧ (∀ v ∈ c.toList,v.oneCell' = true) ∧ (∀ o,E.S b o = none) ∧ ¬ own E s.H b
  inj : ∀ t t' ver ver' cs cs' b,s.boxes t = some (ver,cs) → s.boxes t' = some (ver',cs') → E.be s.fid t ver = some b → E.be s.fid t' ver' = some b → t = t'
  fresh : ∀ t n,(∀ ver cs,s.boxes t = some (ver,cs) → ver < n) → E.be s.fid t n = none
  fid : s.fid < s.H.next
structure SimF (nt : Nat) (E : Env) (s : St) (w : World) (a : Act) : Prop where
  sim : Sim E s.H w
  size : a.tmps.size = nt
  tm : ∀ i,R E (a.tmps.getD i undef) (s.tmps i)
  bx : Boxes E s w
  df : DL E a.defers s.defers
structure Tr (fid : Nat) (E : Env) (n : Nat) (ow : Nat → Prop) (w : World) (E' : Env) (n' : Nat) (ow' : Nat → Prop) (w' : World) : Prop where
  le : E.le E'
  os : w'.os = w.os
  tape : w'.tape = w.tape
  output : w'.output = w.output
  size : w.heap.size ≤ w'.heap.size
  next : n ≤ n'
  kept : ∀ b,b < w.heap.size → ¬ ow b → w'.heap[b]? = w.heap[b]?
  own : ∀ b,ow' b → ow b ∨ w.heap.size ≤ b
  S : ∀ b o,E.S b o = none → E'.S b o ≠ none → ow b ∨ w.heap.size ≤ b
  be : ∀ f t k,f < n → f ≠ fid → E'.be f t k = E.be f t k
theorem Tr.refl (fid : Nat) (E : Env) (n : Nat) (ow : Nat → Prop) (w : World) : Tr fid E n ow w E n ow w:=
  ⟨E.le_refl,rfl,rfl,rfl,Nat.le_refl _,Nat.le_refl _,fun _ _ _ => rfl,fun _ h => .inl h,fun _ _ h h' => absurd h h',fun _ _ _ _ _ => rfl⟩
theorem Tr.trans {fid : Nat} {E E1 E2 : Env} {n n1 n2 : Nat} {ow ow1 ow2 : Nat → Prop} {w w1 w2 : World} (h : Tr fid E n ow w E1 n1 ow1 w1) (k : Tr fid E1 n1 ow1 w1 E2 n2 ow2 w2) : Tr fid E n ow w E2 n2 ow2 w2 where
  le:=Env.le_trans h.le k.le
  os:=k.os.trans h.os
  tape:=k.tape.trans h.tape
  output:=k.output.trans h.output
  size:=Nat.le_trans h.size k.size
  next:=Nat.le_trans h.next k.next
  kept b hb ho:=(k.kept b (Nat.lt_of_lt_of_le hb h.size) fun h' => (h.own b h').elim ho (fun x => by omega)).trans (h.kept b hb ho)
  own b hb:=by
    rcases k.own b hb with h' | h'
    · exact h.own b h'
    · exact .inr (Nat.le_trans h.size h')
  S b o h0 h2:=by
    by_cases h1 : E1.S b o = none
    · rcases k.S b o h1 h2 with h' | h'
      · exact h.own b h'
      · exact .inr (Nat.le_trans h.size h')
    · exact h.S b o h0 h1
  be f t m hf hne:=(k.be f t m (Nat.lt_of_lt_of_le hf h.next) hne).trans (h.be f t m hf hne)
theorem Env.blk_le {E E' : Env} (h : E.le E') {id : Nat} {r : Row} {b : Nat} (hb : E.blk id r = some b) : E'.blk id r = some b:=by
  have key : ∀ n,(E.mu id n).join = some b → (E'.mu id n).join = some b:=by
    intro n hj
    cases hm : E.mu id n with
    | none => simp [hm] at hj
    | some x => rw [hm] at hj; rw [(h.mu _ _ _ hm).1]; exact hj
  cases r <;> exact key _ hb
theorem lt_of_heap {w : World} {b : Nat} {o : Obj} (h : w.heap[b]? = some o) : b < w.heap.size:=(Array.getElem?_eq_some_iff.1 h).1
theorem cell_lt {w : World} {b o : Nat} {v : Value} (h : w.cell? ⟨b,o,none⟩ = some v) : b < w.heap.size:=by have:=World.block_lt_of_cell? w ⟨b,o,none⟩ h; exact this
theorem cell_of_heap {w w' : World} {b : Nat} (h : w'.heap[b]? = w.heap[b]?) (o : Nat) : w'.cell? ⟨b,o,none⟩ = w.cell? ⟨b,o,none⟩:=World.cell?_of_block (w:=w) (a:=⟨b,o,none⟩) h
theorem cell_of_cells {w : World} {b : Nat} {c : Array Value} {t : TypeId} {f : Nat × Nat} (h : w.heap[b]? = some (.cells c t f)) (o : Nat) : w.cell? ⟨b,o,none⟩ = c[o]?:=by
  simp [World.cell?,h]
theorem frozen_of_cells {w : World} {b : Nat} {c : Array Value} {t : TypeId} (h : w.heap[b]? = some (.cells c t (0,0))) (o : Nat) : w.frozen? ⟨b,o,none⟩ = false:=by
  simp [World.frozen?,h]
theorem RowOK.lt {E : Env} {w : World} {id : Nat} {r : Row} (h : RowOK E w id r) {b : Nat} (hb : E.blk id r = some b) : b < w.heap.size:=by
  cases r with
  | gro sz es frz =>
    obtain ⟨_,_,_,h | ⟨b',c,t,hm,hh,_⟩⟩:=h
    · obtain ⟨rfl,hm,_⟩:=h; simp [Env.blk,hm] at hb
    · simp [Env.blk,hm] at hb; subst hb; exact lt_of_heap hh
  | loop st fn nt tmps ps assign body d => obtain ⟨_,b',L,hm,hh,_⟩:=h; simp [Env.blk,hm] at hb; subst hb; exact lt_of_heap hh
  | dfr => obtain ⟨_,b',hm,hh⟩:=h; simp [Env.blk,hm] at hb; subst hb; exact lt_of_heap hh
  | map es => obtain ⟨_,b',mes,c,hm,hh,_⟩:=h; simp [Env.blk,hm] at hb; subst hb; exact lt_of_heap hh
theorem Sim.own_lt {E : Env} {H : Heap} {w : World} (h : Sim E H w) {b : Nat} (hb : own E H b) : b < w.heap.size:=by
  obtain ⟨id,r,hr,hb⟩:=hb; exact (h.row id r hr).lt hb
theorem RowOK.keep {E E' : Env} {w w' : World} {id : Nat} {r : Row} (h : RowOK E w id r) (hle : E.le E') (hk : ∀ b,E.blk id r = some b → w'.heap[b]? = w.heap[b]?)
    (hmu : ∀ n,E'.mu id n = E.mu id n) (hS : ∀ b,E.blk id r = some b → ∀ o,E.S b o = none → E'.S b o = none) (hsz : E'.sz id = E.sz id) : RowOK E' w' id r:=by
  cases r with
  | gro sz es frz =>
    obtain ⟨h1,h2,h3,h4⟩:=h
    refine ⟨hsz.trans h1,h2,fun n hn => by rw [hmu]; exact h3 n hn,?_⟩
    rcases h4 with ⟨rfl,hm,hf0⟩ | ⟨b,c,t,hm,hh,⟨vals,rest,hc,hR⟩,h1',hs,hcp,hfz⟩
    · exact .inl ⟨rfl,by rw [hmu]; exact hm,hf0⟩
    · exact .inr ⟨b,c,t,by rw [hmu]; exact hm,by rw [hk b (by simp [Env.blk,hm])]; exact hh,⟨vals,rest,hc,hR.mono hle⟩,h1',fun o ho => hS b (by simp [Env.blk,hm]) o (hs o ho),by rw [(hle.mu _ _ _ hm).2.2]; exact hcp,hfz⟩
  | loop st fn nt tmps ps assign body d =>
    obtain ⟨h0,b,L,hm,hh,h1,h2,h3,h4,h5,h6,h7,h8,bd,h9,h10⟩:=h
    exact ⟨fun n hn => by rw [hmu]; exact h0 n hn,b,L,by rw [hmu]; exact hm,by rw [hk b (by simp [Env.blk,hm])]; exact hh,h1,h2,h3,h4,fun i => (h5 i).mono hle,h6,h7,h8,bd,(hle.mu _ _ _ h9).1,h10⟩
  | dfr =>
    obtain ⟨h0,b,hm,hh⟩:=h
    exact ⟨fun n hn => by rw [hmu]; exact h0 n hn,b,by rw [hmu]; exact hm,by rw [hk b (by simp [Env.blk,hm])]; exact hh⟩
  | map es =>
    obtain ⟨h0,b,mes,c,hm,hh,h1,h2⟩:=h
    exact ⟨fun n hn => by rw [hmu]; exact h0 n hn,b,mes,c,by rw [hmu]; exact hm,by rw [hk b (by simp [Env.blk,hm])]; exact hh,h1.mono hle,h2.mono hle⟩
end GoV
namespace GoV
open Go
variable {P : Program} {E : Env}
theorem run_szOf {t : TypeId} {n : Nat} (h : szOf P t = some n) (w : World) : (Go.sizeOf t).run P w = .ok n w:=by
  unfold szOf at h
  cases hi : P.info? t with
  | none => simp [hi] at h
  | some i => simp [hi] at h; simp [Go.sizeOf,typeInfo,hi,h]
theorem run_aggT {t : TypeId} {b : Bool} (h : aggT P t = some b) (w : World) : (isAgg t).run P w = .ok b w:=by
  unfold aggT at h
  cases hi : P.underlying t with
  | none => simp [hi] at h
  | some d =>
    simp [hi] at h
    unfold isAgg
    simp only [Sem.run_bind,run_underlying hi w,Result.andThen_ok]
    subst h
    cases d <;> rfl
theorem run_zeroT {t : TypeId} {z : PV} (h : zeroT P t = some z) (w : World) : ∃ v,(zeroValue t).run P w = .ok v w ∧ R E v z:=by
  unfold zeroT at h
  simp only [Option.bind_eq_some_iff] at h
  obtain ⟨v,⟨i,hi,hz⟩,hv⟩:=h
  exact ⟨v,by simp [zeroValue,typeInfo,hi,hz],R.ofV hv⟩
theorem sliceT_und {t e : TypeId} (h : sliceT P t = some e) : P.underlying t = some (.slice e):=by
  unfold sliceT at h
  split at h
  · next x hx => simp at h; subst h; exact hx
  · simp at h
theorem arrT_und {t e : TypeId} {n : Nat} (h : arrT P t = some (n,e)) : P.underlying t = some (.array n e):=by
  unfold arrT at h
  split at h
  · next hx => simp at h; obtain ⟨rfl,rfl⟩:=h; exact hx
  · simp at h
theorem fieldT_und {t ft : TypeId} {i off : Nat} (h : fieldT P t i = some (off,ft)) : ∃ fs f,P.underlying t = some (.struct fs) ∧ fs[i]? = some f ∧ f.offset = off ∧ f.type = ft:=by
  unfold fieldT at h
  split at h
  · next fs hx =>
    simp only [Option.map_eq_some_iff] at h
    obtain ⟨f,hf,he⟩:=h
    simp at he
    exact ⟨fs,f,hx,hf,he.1,he.2⟩
  · simp at h
theorem ev_R {nt : Nat} {s : St} {w : World} {a : Act} (h : SimF nt E s w a) (x : Operand) : R E (a.eval x) (evS s x):=by
  cases x with
  | tmp t => exact h.tm t
  | const v =>
    simp only [Act.eval,evS]
    cases hv : ofV v with
    | none => exact .any _
    | some p => exact R.ofV hv
  | global g =>
    have key : ∀ l : List Value,RL E l (l.map fun v => (ofV v).getD .any):=by
      intro l
      induction l with
      | nil => exact .nil
      | cons v l ih =>
        refine .cons _ _ _ _ ?_ ih
        show R E v ((ofV v).getD .any)
        cases hv : ofV v with
        | none => exact .any _
        | some p => exact R.ofV hv
    show R E (.pointer (some ⟨g,0,none⟩)) (globPV g)
    unfold globPV
    split
    · exact .any _
    · exact .rop g 0 (globs g) _ (fun i v hi => by rw [Nat.zero_add]; exact E.hG g i v hi) (key _)
  | func f => exact .fn f [] [] .nil
section
variable {ρ : Operand → Value} {ev : Operand → PV} (hρ : ∀ x,R E (ρ x) (ev x))
include hρ
theorem idx_R {x : Operand} {n : Int} (h : idx (ev x) = some n) : ∃ k,ρ x = .int k n:=by
  have hR:=hρ x
  revert h hR
  generalize ρ x = v
  generalize ev x = p
  intro h hR
  cases p <;> simp [idx] at h
  subst h; cases hR; exact ⟨_,rfl⟩
theorem part_R {t : TypeId} {cs : List Value} {ps : List PV} {off : Nat} {p : PV} (h : partPV P t ps off = some p) (hl : RL E cs ps) (h1 : ∀ c ∈ cs,c.oneCell' = true) (w : World) :
    ∃ v,(part t cs.toArray off).run P w = .ok v w ∧ R E v p:=by
  unfold partPV at h
  simp only [Option.bind_eq_some_iff] at h
  obtain ⟨ag,ha,sz,hs,h⟩:=h
  unfold part
  simp only [Sem.run_bind,run_aggT ha w,Result.andThen_ok]
  cases ag with
  | true =>
    simp at h; subst h
    refine ⟨.agg (((cs.drop off).take sz).toArray),?_,.agg _ _ (fun c hc => h1 c (List.mem_of_mem_drop (List.mem_of_mem_take hc))) ((hl.drop off).take sz)⟩
    simp [run_szOf hs w,List.extract_toArray]
  | false =>
    simp at h
    obtain ⟨v,hv,hR⟩:=hl.get h
    exact ⟨v,by simp [hv],hR⟩
omit hρ in
theorem eqFs_run {eq : TypeId → PV → PV → Option Bool} {d : Nat} (heq : ∀ t x y p q b,eq t p q = some b → R E x p → R E y q → ∀ w,(Op.equalIn d t x y).run P w = .ok b w) :
    ∀ (fs : List Field) (xs ys : List Value) (ps qs : List PV) (b : Bool),eqFs P eq fs ps qs = some b → RL E xs ps → RL E ys qs → (∀ c ∈ xs,c.oneCell' = true) → (∀ c ∈ ys,c.oneCell' = true) → ∀ (w : World),
      ((do
        for f in fs do
          if f.name ≠ "_" then
            if !(← Op.equalIn d f.type (← part f.type xs.toArray f.offset) (← part f.type ys.toArray f.offset)) then return false
        pure true : Sem Bool)).run P w = .ok b w:=by
  intro fs
  induction fs with
  | nil => intro xs ys ps qs b h _ _ _ _ w; simp [eqFs] at h; subst h; simp
  | cons f fs ih =>
    intro xs ys ps qs b h hx hy h1 h2 w
    simp only [eqFs] at h
    by_cases hn : f.name = "_"
    · simp [hn] at h
    simp only [hn,if_false,Option.bind_eq_some_iff] at h
    obtain ⟨p,hp,q,hq,b',hb,h⟩:=h
    obtain ⟨v,hv,hRv⟩:=part_R (ρ:=fun _ => .nilFunc) (ev:=fun _ => .any) (fun _ => .any _) hp hx h1 w
    obtain ⟨u,hu,hRu⟩:=part_R (ρ:=fun _ => .nilFunc) (ev:=fun _ => .any) (fun _ => .any _) hq hy h2 w
    have he:=heq _ _ _ _ _ _ hb hRv hRu w
    have ih':=fun b hb => ih xs ys ps qs b hb hx hy h1 h2 w
    cases b' with
    | true =>
      simp at h
      have:=ih' b h
      simp [hn,hv,hu,he] at this ⊢
      exact this
    | false =>
      simp at h; subst h
      simp [hn,hv,hu,he]
omit hρ in
theorem eqAs_run {eq : TypeId → PV → PV → Option Bool} {d : Nat} {e : TypeId} {sz : Nat} (heq : ∀ t x y p q b,eq t p q = some b → R E x p → R E y q → ∀ w,(Op.equalIn d t x y).run P w = .ok b w) :
    ∀ (l : List Nat) (xs ys : List Value) (ps qs : List PV) (b : Bool),eqAs P eq e sz l ps qs = some b → RL E xs ps → RL E ys qs → (∀ c ∈ xs,c.oneCell' = true) → (∀ c ∈ ys,c.oneCell' = true) → ∀ (w : World),
      ((do
        for i in l do
          if !(← Op.equalIn d e (← part e xs.toArray (i * sz)) (← part e ys.toArray (i * sz))) then return false
        pure true : Sem Bool)).run P w = .ok b w:=by
  intro l
  induction l with
  | nil => intro xs ys ps qs b h _ _ _ _ w; simp [eqAs] at h; subst h; simp
  | cons i l ih =>
    intro xs ys ps qs b h hx hy h1 h2 w
    simp only [eqAs,Option.bind_eq_some_iff] at h
    obtain ⟨p,hp,q,hq,b',hb,h⟩:=h
    obtain ⟨v,hv,hRv⟩:=part_R (ρ:=fun _ => .nilFunc) (ev:=fun _ => .any) (fun _ => .any _) hp hx h1 w
    obtain ⟨u,hu,hRu⟩:=part_R (ρ:=fun _ => .nilFunc) (ev:=fun _ => .any) (fun _ => .any _) hq hy h2 w
    have he:=heq _ _ _ _ _ _ hb hRv hRu w
    have ih':=fun b hb => ih xs ys ps qs b hb hx hy h1 h2 w
    cases b' with
    | true =>
      simp at h
      have:=ih' b h
      simp [hv,hu,he] at this ⊢
      exact this
    | false =>
      simp at h; subst h
      simp [hv,hu,he]
omit hρ in
theorem eqPV_run : ∀ (d : Nat) (t : TypeId) (x y : Value) (p q : PV) (b : Bool),eqPV P d t p q = some b → R E x p → R E y q → ∀ w,(Op.equalIn d t x y).run P w = .ok b w:=by
  intro d
  induction d with
  | zero => intro t x y p q b h; simp [eqPV] at h
  | succ d ih =>
    intro t x y p q b h hx hy w
    simp only [eqPV] at h
    split at h
    all_goals (try (simp at h; done))
    all_goals (rename_i hu)
    · simp at h; subst h; cases hx; cases hy; simp [Op.equalIn,run_underlying hu w]
    · cases hx; cases hy
      split at h
      · next hk => simp at h; subst h; simp [Op.equalIn,run_underlying hu w,hk]
      · simp at h
    · simp at h; subst h; cases hx; cases hy; simp [Op.equalIn,run_underlying hu w]
    · simp at h; subst h; cases hx; cases hy; simp [Op.equalIn,run_underlying hu w]
    · simp at h; subst h; cases hx; cases hy; simp [Op.equalIn,run_underlying hu w]
    · simp at h; subst h; cases hx; cases hy; simp [Op.equalIn,run_underlying hu w]
    · cases hx; cases hy
      rename_i cs h1 hl cs' h1' hl'
      split at h
      · simp at h
      · next hs =>
        have:=eqFs_run (fun t x y p q b hb hx hy w => ih t x y p q b hb hx hy w) _ _ _ _ _ _ h hl hl' h1 h1' w
        simp only [Op.equalIn,Sem.run_bind,run_underlying hu w,Result.andThen_ok,run_program,hs]
        simpa using this
    · cases hx; cases hy
      rename_i cs h1 hl cs' h1' hl'
      simp only [Option.bind_eq_some_iff] at h
      obtain ⟨sz,hs,h⟩:=h
      have:=eqAs_run (fun t x y p q b hb hx hy w => ih t x y p q b hb hx hy w) _ _ _ _ _ _ h hl hl' h1 h1' w
      simp only [Op.equalIn,Sem.run_bind,run_underlying hu w,Result.andThen_ok,run_szOf hs w]
      rw [Std.Legacy.Range.forIn_eq_forIn_range']
      simpa using this
    · cases hy
      rename_i e
      have key : ∃ a n c,x = .slice a n c ∧ b = a.isNone:=by
        unfold nilq at h
        split at h
        · cases hx; exact ⟨_,_,_,rfl,by simpa using h.symm⟩
        · cases hx; exact ⟨_,_,_,rfl,by simpa using h.symm⟩
        · cases hx
          · rename_i a c hc ha
            refine ⟨a,_,_,rfl,?_⟩
            cases a with
            | none => exact absurd (ha rfl).2 (by simp)
            | some a => simpa using h.symm
          · exact ⟨_,_,_,rfl,by simpa using h.symm⟩
        · cases hx; exact ⟨_,_,_,rfl,by simpa using h.symm⟩
        · cases h
      obtain ⟨a,n,c,rfl,rfl⟩:=key
      cases a <;> simp [Op.equalIn,run_underlying hu w]
end
end GoV
namespace GoV
open Go
variable {P : Program} {E : Env}
theorem intBin_run {op : BinOp} {k : IntKind} {a b : Int} {r : PV} (h : intBin op k a b = some r) (t : TypeId) (hop : op ≠ .shl ∧ op ≠ .shr) (w : World) :
    ∃ v,(binOp op t (.int k a) (.int k b)).run P w = .ok v w ∧ R E v r:=by
  cases op <;> simp [intBin] at h
  all_goals (try (subst h; first | exact ⟨_,by simp [binOp,Op.intArith,Op.intBits,Op.intCmp],.int _ _⟩ | exact ⟨_,by simp [binOp,Op.intArith,Op.intBits,Op.intCmp],.bool _⟩))
  all_goals (try (obtain ⟨h0,rfl⟩:=h; exact ⟨_,by simp [binOp,Op.intDiv,h0],.int _ _⟩))
  all_goals simp at hop
theorem eqGuard_int (op : BinOp) (t : TypeId) (xo yo : Operand) (k k' : IntKind) (a b : Int) (w : World) : (eqGuard op t xo yo (.int k a) (.int k' b)).run P w = .ok () w:=by
  cases op <;> simp [eqGuard]
theorem eqGuard_str (op : BinOp) (t : TypeId) (xo yo : Operand) (a b : ByteArray) (w : World) : (eqGuard op t xo yo (.string a) (.string b)).run P w = .ok () w:=by
  cases op <;> simp [eqGuard]
theorem isC_iff {x : Operand} : isC x = true ↔ ∃ v,x = .const v:=by cases x <;> simp [isC]
theorem eqPV_any (n : Nat) (t : TypeId) (q : PV) : eqPV P (n + 1) t .any q = none ∧ eqPV P (n + 1) t .junk q = none ∧ eqPV P (n + 1) t q .any = none ∧ eqPV P (n + 1) t q .junk = none:=by
  refine ⟨?_,?_,?_,?_⟩
  all_goals
    unfold eqPV
    split <;> first | rfl | (simp_all [nilq]; done)
theorem eqOp_run {t : TypeId} {xo yo : Operand} {x y : Value} {p q : PV} {b : Bool} (h : eqOp P t xo yo p q = some b) (hx : R E x p) (hy : R E y q) (op : BinOp) (w : World) :
    (eqGuard op t xo yo x y).run P w = .ok () w ∧ (Op.equal t x y).run P w = .ok b w:=by
  have hd : Op.maxDepth = 9999 + 1:=rfl
  have hd1 : ∀ q,eqPV P Op.maxDepth t .any q = none:=fun q => (eqPV_any 9999 t q).1
  have hd2 : ∀ q,eqPV P Op.maxDepth t .junk q = none:=fun q => (eqPV_any 9999 t q).2.1
  have hd3 : ∀ q,eqPV P Op.maxDepth t q .any = none:=fun q => (eqPV_any 9999 t q).2.2.1
  have hd4 : ∀ q,eqPV P Op.maxDepth t q .junk = none:=fun q => (eqPV_any 9999 t q).2.2.2
  unfold eqOp at h
  split at h
  · split at h
    · simp at h
    · next hg =>
      have he:=eqPV_run (E:=E) _ _ _ _ _ _ _ h hx hy w
      cases hx; cases hy
      refine ⟨?_,by simpa [Op.equal] using he⟩
      have hg' : P.eqGuardType P.depth t = false:=by simpa using hg
      cases op <;> simp [eqGuard,hg']
  · split at h
    · next hc =>
      have he:=eqPV_run (E:=E) _ _ _ _ _ _ _ h hx hy w
      cases hx; cases hy
      refine ⟨?_,by simpa [Op.equal] using he⟩
      cases op <;> simp [eqGuard]
      all_goals (cases xo <;> cases yo <;> first | rfl | (simp [isC] at hc; done) | simp)
    · simp at h
  · next h1 h2 =>
    have he:=eqPV_run (E:=E) _ _ _ _ _ _ _ h hx hy w
    refine ⟨?_,by simpa [Op.equal] using he⟩
    have key : ∀ (cs ds : Array Value),x = .agg cs → y = .agg ds → False:=by
      rintro cs ds rfl rfl
      cases hx
      · simp [hd1] at h
      · rename_i h3; simp [Value.oneCell'] at h3
      · cases hy
        · simp [hd3] at h
        · rename_i h3; simp [Value.oneCell'] at h3
        · exact h1 _ _ rfl rfl
    have key2 : x = .nilIface → y = .nilIface → False:=by
      rintro rfl rfl
      cases hx
      · simp [hd1] at h
      · simp [hd2] at h
      · cases hy
        · simp [hd3] at h
        · simp [hd4] at h
        · exact h2 rfl rfl
    have key3 : ∀ (m : Sem Unit) (n : Array Value → Array Value → Sem Unit),(match x,y with
      | .nilIface,.nilIface => m
      | .agg a,.agg b => n a b
      | _,_ => pure ()).run P w = .ok () w:=by
      intro m n
      split
      · exact (key2 rfl rfl).elim
      · exact (key _ _ rfl rfl).elim
      · rfl
    cases op <;> simp only [eqGuard] <;> first | rfl | (simp; exact key3 _ _)
theorem eqPV_shape {d : Nat} {t : TypeId} {p q : PV} {b : Bool} (h : eqPV P (d + 1) t p q = some b) :
    (∃ a c,p = .bool a ∧ q = .bool c) ∨ (∃ k a k' c,p = .int k a ∧ q = .int k' c) ∨ (∃ a c,p = .str a ∧ q = .str c) ∨ (p = .nili ∧ q = .nili) ∨ (∃ u v,p = .nili ∧ q = .iface u v) ∨ (∃ u v,p = .iface u v ∧ q = .nili) ∨ (∃ a c,p = .agg a ∧ q = .agg c) ∨ (p = .nils ∧ q = .nils) ∨ (∃ u v c,p = .vs u v c ∧ q = .nils) ∨ (∃ u v c d e,p = .gsl u v c d e ∧ q = .nils):=by
  unfold eqPV at h
  split at h
  all_goals (try (simp_all; done))
  unfold nilq at h
  split at h <;> simp_all
theorem eqOp_shape {t : TypeId} {xo yo : Operand} {p q : PV} {b : Bool} (h : eqOp P t xo yo p q = some b) :
    (∃ a c,p = .bool a ∧ q = .bool c) ∨ (∃ k a k' c,p = .int k a ∧ q = .int k' c) ∨ (∃ a c,p = .str a ∧ q = .str c) ∨ (p = .nili ∧ q = .nili) ∨ (∃ u v,p = .nili ∧ q = .iface u v) ∨ (∃ u v,p = .iface u v ∧ q = .nili) ∨ (∃ a c,p = .agg a ∧ q = .agg c) ∨ (p = .nils ∧ q = .nils) ∨ (∃ u v c,p = .vs u v c ∧ q = .nils) ∨ (∃ u v c d e,p = .gsl u v c d e ∧ q = .nils):=by
  unfold eqOp at h
  split at h
  · exact .inr (.inr (.inr (.inr (.inr (.inr (.inl ⟨_,_,rfl,rfl⟩))))))
  · exact .inr (.inr (.inr (.inl ⟨rfl,rfl⟩)))
  · exact eqPV_shape (d:=9999) h
theorem bin_run {op : BinOp} {t : TypeId} {xo yo : Operand} {x y : Value} {p q r : PV} (h : binPV P op t xo yo p q = some r) (hx : R E x p) (hy : R E y q) (w : World) :
    ∃ v,(eqGuard op t xo yo x y).run P w = .ok () w ∧ (binOp op t x y).run P w = .ok v w ∧ R E v r:=by
  unfold binPV at h
  split at h
  · cases hx; cases hy
    split at h
    · simp at h
    · next hb => simp at h; subst h; exact ⟨_,eqGuard_int _ _ _ _ _ _ _ _ w,by simp [binOp,Op.shift,hb],.int _ _⟩
  · cases hx; cases hy
    split at h
    · simp at h
    · next hb => simp at h; subst h; exact ⟨_,eqGuard_int _ _ _ _ _ _ _ _ w,by simp [binOp,Op.shift,hb],.int _ _⟩
  · next h1 h2 =>
    cases hx; cases hy
    split at h
    · next hk =>
      subst hk
      obtain ⟨v,hv,hR⟩:=intBin_run (E:=E) (P:=P) h t ⟨by rintro rfl; first | exact h1 _ _ _ _ rfl rfl rfl | simp_all,by rintro rfl; first | exact h2 _ _ _ _ rfl rfl rfl | simp_all⟩ w
      exact ⟨v,eqGuard_int _ _ _ _ _ _ _ _ w,hv,hR⟩
    · simp at h
  · cases hx; cases hy; simp at h; subst h; exact ⟨_,eqGuard_str _ _ _ _ _ _ w,by simp [binOp,Op.stringOp],.bool _⟩
  · cases hx; cases hy; simp at h; subst h; exact ⟨_,eqGuard_str _ _ _ _ _ _ w,by simp [binOp,Op.stringOp],.bool _⟩
  · simp at h
  · next h1 h2 h3 =>
    simp only [Option.map_eq_some_iff] at h
    obtain ⟨b,hb,rfl⟩:=h
    obtain ⟨hg,he⟩:=eqOp_run hb hx hy .eql w
    refine ⟨.bool b,hg,?_,by constructor⟩
    rcases eqOp_shape hb with ⟨_,_,rfl,rfl⟩ | ⟨_,_,_,_,rfl,rfl⟩ | ⟨_,_,rfl,rfl⟩ | ⟨rfl,rfl⟩ | ⟨_,_,rfl,rfl⟩ | ⟨_,_,rfl,rfl⟩ | ⟨_,_,rfl,rfl⟩ | ⟨rfl,rfl⟩ | ⟨_,_,_,rfl,rfl⟩ | ⟨_,_,_,_,_,rfl,rfl⟩
    all_goals (first | (exfalso; first | exact h1 _ _ _ _ rfl rfl | exact h2 _ _ _ _ rfl rfl | exact h3 _ _ _ _ rfl rfl | exact h2 _ _ rfl rfl | exact h3 _ _ rfl rfl | exact h1 _ _ rfl rfl) | (cases hx <;> cases hy <;> simp [binOp,he]; done))
  · next h1 h2 h3 =>
    simp only [Option.map_eq_some_iff] at h
    obtain ⟨b,hb,rfl⟩:=h
    obtain ⟨hg,he⟩:=eqOp_run hb hx hy .neq w
    refine ⟨.bool !b,hg,?_,by constructor⟩
    rcases eqOp_shape hb with ⟨_,_,rfl,rfl⟩ | ⟨_,_,_,_,rfl,rfl⟩ | ⟨_,_,rfl,rfl⟩ | ⟨rfl,rfl⟩ | ⟨_,_,rfl,rfl⟩ | ⟨_,_,rfl,rfl⟩ | ⟨_,_,rfl,rfl⟩ | ⟨rfl,rfl⟩ | ⟨_,_,_,rfl,rfl⟩ | ⟨_,_,_,_,_,rfl,rfl⟩
    all_goals (first | (exfalso; first | exact h1 _ _ _ _ rfl rfl | exact h2 _ _ _ _ rfl rfl | exact h3 _ _ _ _ rfl rfl | exact h2 _ _ rfl rfl | exact h3 _ _ rfl rfl | exact h1 _ _ rfl rfl) | (cases hx <;> cases hy <;> simp [binOp,he]; done))
  · simp at h
end GoV
namespace GoV
open Go
variable {P : Program} {E : Env}
theorem splice_R {ps qs ps' : List PV} {off : Nat} (h : splice ps off qs = some ps') {cs vs : List Value} (hc : RL E cs ps) (hv : RL E vs qs) :
    off + vs.length ≤ cs.length ∧ RL E (cs.take off ++ (vs ++ cs.drop (off + vs.length))) ps':=by
  unfold splice at h
  split at h
  · next hl =>
    simp at h; subst h
    rw [hv.length,hc.length]
    exact ⟨hl,(hc.take off).append (hv.append (hc.drop _))⟩
  · simp at h
theorem fold_splice : ∀ (vs : List Value) (off k : Nat) (cells : List Value),off + k + vs.length ≤ cells.length →
    (vs.zipIdx k).foldl (fun (cs : Array Value) (x : Value × Nat) => cs.setIfInBounds (off + x.2) x.1) cells.toArray = (cells.take (off + k) ++ (vs ++ cells.drop (off + k + vs.length))).toArray:=by
  intro vs
  induction vs with
  | nil => intro off k cells h; simp
  | cons v vs ih =>
    intro off k cells h
    simp only [List.length_cons] at h
    simp only [List.zipIdx_cons,List.foldl_cons,List.setIfInBounds_toArray]
    rw [ih off (k + 1) (cells.set (off + k) v) (by simp; omega)]
    congr 1
    apply List.ext_getElem?
    intro i
    simp only [List.getElem?_append,List.length_take,List.length_set,List.getElem?_take,List.getElem?_drop,List.length_cons,List.getElem?_set]
    have e1 : min (off + (k + 1)) cells.length = off + k + 1:=by omega
    have e2 : min (off + k) cells.length = off + k:=by omega
    rw [e1,e2]
    by_cases h1 : i < off + k
    · rw [if_pos (by omega),if_pos (by omega),if_pos h1,if_pos h1,if_neg (by omega)]
    · by_cases h2 : i = off + k
      · subst h2
        rw [if_pos (by omega),if_pos (by omega),if_pos (by omega),if_pos (by omega),if_neg (by omega),if_pos (by omega)]
        simp
      · rw [if_neg (by omega),if_neg h1]
        have e3 : i - (off + k) = (i - (off + k + 1)) + 1:=by omega
        by_cases h3 : i - (off + k + 1) < vs.length
        · rw [if_pos h3,e3,if_pos (by omega)]; simp
        · rw [if_neg h3,if_neg (by omega),if_neg (by omega)]
          congr 1; omega
theorem fold_splice' (vs cells : Array Value) (off : Nat) (h : off + vs.size ≤ cells.size) :
    vs.zipIdx.foldl (fun (cs : Array Value) (x : Value × Nat) => cs.setIfInBounds (off + x.2) x.1) cells = (cells.toList.take off ++ (vs.toList ++ cells.toList.drop (off + vs.size))).toArray:=by
  have:=fold_splice vs.toList off 0 cells.toList (by simpa using h)
  rw [← Array.foldl_toList]
  simpa using this
theorem fill_R {place : Nat → Option (Nat × Nat)} {t : TypeId} (hp : ∀ i off ft sz,partT P t i = some (off,ft) → szOf P ft = some sz → place i = some (off,sz)) :
    ∀ (parts : List (Nat × Value)) (pparts : List (Nat × PV)) (cells : List Value) (ps ps' : List PV),fillPV P t pparts ps = some ps' → RL E cells ps → (∀ c ∈ cells,c.oneCell' = true) →
      parts.map (·.1) = pparts.map (·.1) → (∀ (i : Nat) (a : Nat × Value) (b : Nat × PV),parts[i]? = some a → pparts[i]? = some b → R E a.2 b.2) → ∃ cells',Instr.fill place cells.toArray parts = some cells'.toArray ∧ RL E cells' ps' ∧ ∀ c ∈ cells',c.oneCell' = true:=by
  intro parts
  induction parts with
  | nil =>
    intro pparts cells ps ps' h hR h1 hm hr
    cases pparts with
    | nil => simp [fillPV] at h; subst h; exact ⟨cells,by simp [Instr.fill],hR,h1⟩
    | cons => simp at hm
  | cons x parts ih =>
    intro pparts cells ps ps' h hR h1 hm hr
    cases pparts with
    | nil => simp at hm
    | cons y pparts =>
      obtain ⟨i,v⟩:=x
      obtain ⟨j,p⟩:=y
      simp at hm
      obtain ⟨rfl,hm⟩:=hm
      have hv : R E v p:=hr 0 _ _ rfl rfl
      simp only [fillPV,Option.bind_eq_some_iff] at h
      obtain ⟨⟨off,ft⟩,hf,sz,hs,h⟩:=h
      split at h
      · next hfit =>
        simp only [Option.bind_eq_some_iff] at h
        obtain ⟨ps1,hsp,h⟩:=h
        obtain ⟨hl,hsz,h1v⟩:=hv.fits hfit
        obtain ⟨hle,hR1⟩:=splice_R hsp hR hl
        have hle' : off + v.cells.size ≤ cells.length:=by simpa using hle
        obtain ⟨cells',hc,hR',h1'⟩:=ih pparts _ ps1 ps' h hR1 (by
          intro c hc
          simp only [List.mem_append] at hc
          rcases hc with hc | hc | hc
          · exact h1 c (List.mem_of_mem_take hc)
          · exact h1v c hc
          · exact h1 c (List.mem_of_mem_drop hc)) hm (fun i a b ha hb => hr (i + 1) a b (by simpa using ha) (by simpa using hb))
        refine ⟨cells',?_,hR',h1'⟩
        simp only [Instr.fill,hp _ _ _ _ hf hs]
        rw [if_neg (by simp; omega),fold_splice' _ _ _ (by simpa using hle')]
        simpa using hc
      · simp at h
theorem fillSl_R {sz : Nat} (h0 : sz ≠ 0) : ∀ (parts : List (Nat × Value)) (pparts : List (Nat × PV)) (cells : List Value) (es es' : List PV),fillSl sz pparts es = some es' → RL E cells (flat es) → (∀ c ∈ cells,c.oneCell' = true) → (∀ e ∈ es,e.cells.length = sz) →
      parts.map (·.1) = pparts.map (·.1) → (∀ (i : Nat) (a : Nat × Value) (b : Nat × PV),parts[i]? = some a → pparts[i]? = some b → R E a.2 b.2) →
      ∃ cells',Instr.fill (fun i => some (i * sz,sz)) cells.toArray parts = some cells'.toArray ∧ RL E cells' (flat es') ∧ (∀ c ∈ cells',c.oneCell' = true) ∧ (∀ e ∈ es',e.cells.length = sz) ∧ es'.length = es.length:=by
  intro parts
  induction parts with
  | nil =>
    intro pparts cells es es' h hR h1 hz hm hr
    cases pparts with
    | nil => simp [fillSl] at h; subst h; exact ⟨cells,by simp [Instr.fill],hR,h1,hz,rfl⟩
    | cons => simp at hm
  | cons x parts ih =>
    intro pparts cells es es' h hR h1 hz hm hr
    cases pparts with
    | nil => simp at hm
    | cons y pparts =>
      obtain ⟨i,v⟩:=x
      obtain ⟨j,p⟩:=y
      simp at hm
      obtain ⟨rfl,hm⟩:=hm
      have hv : R E v p:=hr 0 _ _ rfl rfl
      simp only [fillSl] at h
      split at h
      · next hfit =>
        obtain ⟨hfit,hi⟩:=hfit
        obtain ⟨hl,hsz,h1v⟩:=hv.fits hfit
        have hpl : p.cells.length = sz:=(PV.fits_iff.1 hfit).2.2
        have hf:=flat_set es i p hz hi
        have hle : i * sz + sz ≤ cells.length:=by
          rw [hR.length,flat_len _ hz,← Nat.succ_mul]; exact Nat.mul_le_mul_right _ hi
        have hR1 : RL E (cells.take (i * sz) ++ (v.cells.toList ++ cells.drop (i * sz + v.cells.toList.length))) (flat (es.set i p)):=by
          rw [hf,show v.cells.toList.length = sz from by simp [hsz]]
          exact (hR.take _).append (hl.append (hR.drop _))
        obtain ⟨cells',hc,hR',h1',hz',hlen⟩:=ih pparts _ _ _ h hR1 (by
          intro c hc
          simp only [List.mem_append] at hc
          rcases hc with hc | hc | hc
          · exact h1 c (List.mem_of_mem_take hc)
          · exact h1v c hc
          · exact h1 c (List.mem_of_mem_drop hc)) (by
          intro e he
          rcases List.mem_or_eq_of_mem_set he with he | rfl
          · exact hz e he
          · exact hpl) hm (fun i a b ha hb => hr (i + 1) a b (by simpa using ha) (by simpa using hb))
        refine ⟨cells',?_,hR',h1',hz',by simpa using hlen⟩
        simp only [Instr.fill]
        rw [if_neg (by simp [hsz]; omega),fold_splice' _ _ _ (by simp [hsz]; omega)]
        simpa using hc
      · simp at h
end GoV
namespace GoV
open Go
variable {P : Program} {E : Env}
theorem un_run {op : UnOp} {x : Value} {p r : PV} (h : unPV op p = some r) (hx : R E x p) (w : World) : ∃ v,(Op.unary op x).run P w = .ok v w ∧ R E v r:=by
  unfold unPV at h
  split at h
  · cases hx; split at h <;> simp at h; subst h; exact ⟨_,by simp [Op.unary,Op.intArith],.int _ _⟩
  · cases hx; split at h <;> simp at h; subst h; exact ⟨_,by simp [Op.unary],.bool _⟩
  · simp at h
theorem conv_run {src dst : TypeId} {x : Value} {p r : PV} (h : convPV P dst p = some r) (hx : R E x p) (hs : (P.underlying src).isSome) (w : World) : ∃ v,(convert src dst x).run P w = .ok v w ∧ R E v r:=by
  unfold convPV at h
  split at h
  · cases hx
    split at h
    · next k hk =>
      simp at h; subst h
      obtain ⟨d,hd⟩:=Option.isSome_iff_exists.1 hs
      refine ⟨_,?_,.int _ _⟩
      simp only [convert,Sem.run_bind,run_underlying hd w,run_underlying hk w,Result.andThen_ok]
      cases d <;> simp [Conv.intToInt]
    · simp at h
  · simp at h
theorem field_run {t ft : TypeId} {i off sz : Nat} {x : Value} {p r : PV} (hf : fieldT P t i = some (off,ft)) (hs : szOf P ft = some sz) (h0 : sz ≠ 0) (w : World)
    (h : (match p with
      | .rop cs => some (.rop (cs.drop off))
      | .bptr f s ver o => some (.bptr f s ver (o + off))
      | .ptr id ver i o => some (.ptr id ver i (o + off))
      | _ => none) = some r) (hx : R E x p) : ∃ v,(Instr.fieldAt t x i).run P w = .ok v w ∧ R E v r:=by
  obtain ⟨fs,f,hu,hfi,rfl,rfl⟩:=fieldT_und hf
  have key : ∀ (b o : Nat),(Instr.fieldAt t (.pointer (some ⟨b,o,none⟩)) i).run P w = .ok (.pointer (some ⟨b,o + f.offset,none⟩)) w:=by
    intro b o
    simp [Instr.fieldAt,run_underlying hu w,hfi,Instr.sureAddr,fieldPlace,run_szOf hs w,h0,Addr.add_mid]
  split at h
  · cases hx
    rename_i hS hR
    simp at h; subst h
    refine ⟨_,key _ _,.rop _ _ _ _ ?_ (hR.drop f.offset)⟩
    intro j v hj
    simp only [List.getElem?_drop] at hj
    have:=hS _ _ hj
    rwa [Nat.add_assoc]
  · cases hx; simp at h; subst h; exact ⟨_,key _ _,.bptr _ _ _ _ _ (by assumption)⟩
  · cases hx
    rename_i hm ho
    simp at h; subst h; exact ⟨_,key _ _,.ptr _ _ _ _ _ _ hm (by omega)⟩
  · simp at h
theorem vs_inv {v : Value} {sz : Nat} {es : List PV} {cap : Option Nat} (h : R E v (.vs sz es cap)) :
    (es = [] ∧ ∃ a c,v = .slice a 0 c ∧ (∀ k,cap = some k → c = k) ∧ (a = none → c = 0 ∧ cap = none)) ∨
    ∃ b off c vals,v = .slice (some ⟨b,off,none⟩) es.length c ∧ E.at b off vals ∧ RL E vals (flat es) ∧ (∀ e ∈ es,e.cells.length = sz) ∧ es.length ≤ c ∧ (∀ k,cap = some k → c = k):=by
  cases h
  · exact .inl ⟨rfl,_,_,rfl,by assumption,by assumption⟩
  · next b off c vals n hS hn hR hl hz hc => subst hn; exact .inr ⟨b,off,c,vals,rfl,hS,hR,hz,hl,hc⟩
theorem gsl_inv {v : Value} {sz id ver off len : Nat} (h : R E v (.gsl sz id ver off len)) :
    E.sz id = sz ∧ ((v = .slice none 0 0 ∧ ver = 0 ∧ off = 0 ∧ len = 0 ∧ E.mu id 0 = some none) ∨ ∃ b c,v = .slice (some ⟨b,off * sz,none⟩) len c ∧ E.mu id ver = some (some b) ∧ len ≤ c ∧ c + off = E.cp id ver):=by
  cases h
  · exact ⟨by assumption,.inl ⟨rfl,rfl,rfl,rfl,by assumption⟩⟩
  · next b c o hz h ho hcp hl => subst ho; exact ⟨hz,.inr ⟨b,c,rfl,h,hl,hcp⟩⟩
theorem at_drop {b off : Nat} {vals : List Value} (h : E.at b off vals) (n : Nat) : E.at b (off + n) (vals.drop n):=by
  intro j v hj
  simp only [List.getElem?_drop] at hj
  have:=h _ _ hj
  rwa [Nat.add_assoc]
theorem at_take {b off : Nat} {vals : List Value} (h : E.at b off vals) (n : Nat) : E.at b off (vals.take n):=by
  intro j v hj
  simp only [List.getElem?_take] at hj
  split at hj
  · exact h _ _ hj
  · simp at hj
theorem at_append {b off : Nat} {v1 v2 : List Value} (h : E.at b off (v1 ++ v2)) : E.at b off v1 ∧ E.at b (off + v1.length) v2:=by
  constructor
  · intro j v hj
    exact h j v (by rw [List.getElem?_append_left (List.getElem?_eq_some_iff.1 hj).1]; exact hj)
  · intro j v hj
    have:=h (v1.length + j) v (by rw [List.getElem?_append_right (by omega)]; simpa using hj)
    rwa [Nat.add_assoc]
theorem idxOf_run {t : TypeId} {x : Value} {p r : PV} {k : IntKind} {n : Int} (w : World)
    (h : (match sliceT P t with
    | some e => (szOf P e).bind fun sz => match p with
      | .vs sz' es _ => if sz' = sz ∧ 0 ≤ n ∧ n < es.length then (es[n.toNat]?).map fun e => PV.rop e.cells else none
      | .gsl sz' id ver off len => if sz' = sz ∧ 0 ≤ n ∧ n < len then some (.ptr id ver (off + n.toNat) 0) else none
      | _ => none
    | none => (arrT P t).bind fun (m,e) => (szOf P e).bind fun sz => if 0 ≤ n ∧ n < m then match p with
      | .rop cs => some (.rop (cs.drop (n.toNat * sz)))
      | .bptr s f ver o => some (.bptr s f ver (o + n.toNat * sz))
      | .ptr id ver i o => some (.ptr id ver i (o + n.toNat * sz))
      | _ => none
      else none) = some r) (hx : R E x p) : ∃ v,(Instr.indexAt t x (.int k n)).run P w = .ok v w ∧ R E v r:=by
  split at h
  · next e he =>
    have hu:=sliceT_und he
    simp only [Option.bind_eq_some_iff] at h
    obtain ⟨sz,hs,h⟩:=h
    have key : ∀ (b off len c q : Nat),q < len → (Instr.indexAt t (.slice (some ⟨b,off,none⟩) len c) (.int k q)).run P w = .ok (.pointer (some ⟨b,off + q * sz,none⟩)) w:=by
      intro b off len c q hq
      simp [Instr.indexAt,asIntOf,run_underlying hu w,run_szOf hs w,hq,Addr.add_mid]
    split at h
    · next sz' es cap =>
      split at h
      · next hc =>
        obtain ⟨rfl,h0,hn⟩:=hc
        simp only [Option.map_eq_some_iff] at h
        obtain ⟨el,hel,rfl⟩:=h
        obtain ⟨q,rfl⟩:=Int.eq_ofNat_of_zero_le h0
        simp only [Int.toNat_natCast] at hel
        rcases vs_inv hx with ⟨rfl,_⟩ | ⟨b,off,c,vals,rfl,hS,hR,hz,hl,hc⟩
        · simp at hel
        · refine ⟨_,key b off _ c q (by have hq : (q : Int) < _:=hn; omega),?_⟩
          have h2:=hR.drop (q * sz')
          rw [flat_get _ q el hz hel] at h2
          obtain ⟨v1,v2,hv,hR1,_⟩:=h2.split
          have h3:=at_drop hS (q * sz')
          rw [hv] at h3
          exact .rop _ _ _ _ (at_append h3).1 hR1
      · simp at h
    · split at h
      · next hc =>
        obtain ⟨rfl,h0,hn⟩:=hc
        simp at h; subst h
        obtain ⟨q,rfl⟩:=Int.eq_ofNat_of_zero_le h0
        obtain ⟨hz,⟨rfl,rfl,rfl,rfl,hm⟩ | ⟨b,c,rfl,hm,hl,hcp⟩⟩:=gsl_inv hx
        · simp at hn; omega
        · refine ⟨_,key b _ _ c q (by have hq : (q : Int) < _:=hn; omega),.ptr _ _ _ _ _ _ hm ?_⟩
          rw [hz]; simp [Nat.add_mul]
      · simp at h
    · simp at h
  · simp only [Option.bind_eq_some_iff] at h
    obtain ⟨⟨m,e⟩,he,sz,hs,h⟩:=h
    have hu:=arrT_und he
    split at h
    · next hc =>
      obtain ⟨h0,hn⟩:=hc
      obtain ⟨q,rfl⟩:=Int.eq_ofNat_of_zero_le h0
      have hq : q < m:=by omega
      have key : ∀ (b off : Nat),(Instr.indexAt t (.pointer (some ⟨b,off,none⟩)) (.int k q)).run P w = .ok (.pointer (some ⟨b,off + q * sz,none⟩)) w:=by
        intro b off
        simp [Instr.indexAt,asIntOf,run_underlying hu w,run_szOf hs w,hq,Addr.add_mid,Instr.sureAddr]
      split at h
      · simp at h; subst h; cases hx; next hS hR => exact ⟨_,key _ _,.rop _ _ _ _ (at_drop hS _) (hR.drop _)⟩
      · simp at h; subst h; cases hx; exact ⟨_,key _ _,.bptr _ _ _ _ _ (by assumption)⟩
      · simp at h; subst h; cases hx; next hm ho => exact ⟨_,key _ _,.ptr _ _ _ _ _ _ hm (by omega)⟩
      · simp at h
    · simp at h
def OI (v : Option Value) (n : Option Int) : Prop:=(v = none ∧ n = none) ∨ ∃ k i,v = some (.int k i) ∧ n = some i
theorem optIdx_R {ρ : Operand → Value} {ev : Operand → PV} (hρ : ∀ x,R E (ρ x) (ev x)) {o : Option Operand} {n : Option Int} (h : optIdx ev o = some n) : OI (o.map ρ) n:=by
  cases o with
  | none => simp [optIdx] at h; subst h; exact .inl ⟨rfl,rfl⟩
  | some x =>
    simp only [optIdx,Option.map_eq_some_iff] at h
    obtain ⟨i,hi,rfl⟩:=h
    obtain ⟨k,hk⟩:=idx_R hρ hi
    exact .inr ⟨k,i,by simp [hk],rfl⟩
theorem bounds_run {len cap : Nat} {low high max : Option Value} {lo hi mx : Option Int} (h1 : OI low lo) (h2 : OI high hi) (h3 : OI max mx) (h0 : 0 ≤ lo.getD 0) (hlh : lo.getD 0 ≤ hi.getD len) (hhm : hi.getD len ≤ mx.getD cap) (hmc : mx.getD cap ≤ cap)
    (hmx : mx.isSome → hi.isSome) (w : World) :
    (Instr.sliceBounds true len cap low high max).run P w = .ok ((lo.getD 0).toNat,(hi.getD len).toNat,(mx.getD cap).toNat) w:=by
  have sb : ∀ (k : IntKind) (i : Int) (y : Nat) (c : BoundsCode),0 ≤ i → i ≤ y → (Instr.sliceBound (.int k i) y c).run P w = .ok i.toNat w:=by
    intro k i y c ha hb
    simp [Instr.sliceBound,asIntOf,ha,hb]
  rcases h3 with ⟨rfl,rfl⟩ | ⟨k3,i3,rfl,rfl⟩
  · rcases h2 with ⟨rfl,rfl⟩ | ⟨k2,i2,rfl,rfl⟩
    · rcases h1 with ⟨rfl,rfl⟩ | ⟨k1,i1,rfl,rfl⟩
      · simp [Instr.sliceBounds]
      · simp only [Option.getD_some,Option.getD_none] at *
        simp [Instr.sliceBounds,sb k1 i1 len _ h0 (by omega)]
    · simp only [Option.getD_some,Option.getD_none] at *
      rcases h1 with ⟨rfl,rfl⟩ | ⟨k1,i1,rfl,rfl⟩
      · simp only [Option.getD_some,Option.getD_none] at *
        simp [Instr.sliceBounds,sb k2 i2 cap _ (by omega) (by omega)]
      · simp only [Option.getD_some,Option.getD_none] at *
        simp [Instr.sliceBounds,sb k2 i2 cap _ (by omega) (by omega),sb k1 i1 i2.toNat _ (by omega) (by omega)]
  · simp only [Option.getD_some,Option.getD_none] at *
    rcases h2 with ⟨rfl,rfl⟩ | ⟨k2,i2,rfl,rfl⟩
    · simp at hmx
    · simp only [Option.getD_some,Option.getD_none] at *
      rcases h1 with ⟨rfl,rfl⟩ | ⟨k1,i1,rfl,rfl⟩
      · simp only [Option.getD_some,Option.getD_none] at *
        simp [Instr.sliceBounds,sb k3 i3 cap _ (by omega) (by omega),sb k2 i2 i3.toNat _ (by omega) (by omega)]
      · simp only [Option.getD_some,Option.getD_none] at *
        simp [Instr.sliceBounds,sb k3 i3 cap _ (by omega) (by omega),sb k2 i2 i3.toNat _ (by omega) (by omega),sb k1 i1 i2.toNat _ (by omega) (by omega)]
theorem sliceOp_run {t e : TypeId} {sz : Nat} {x : Value} {p r : PV} {low high max : Option Value} {lo hi mx : Option Int} (he : sliceT P t = some e) (hs : szOf P e = some sz) (h1 : OI low lo) (h2 : OI high hi) (h3 : OI max mx)
    (h : slicePV sz lo hi mx p = some r) (hx : R E x p) (w : World) : ∃ v,(Instr.sliceAt t x low high max).run P w = .ok v w ∧ R E v r:=by
  have hu:=sliceT_und he
  have key : ∀ (a : Option Addr) (len cap : Nat),0 ≤ lo.getD 0 → lo.getD 0 ≤ hi.getD len → hi.getD len ≤ mx.getD cap → mx.getD cap ≤ cap → (mx.isSome → hi.isSome) →
      (Instr.sliceAt t (.slice a len cap) low high max).run P w = .ok (.slice (if (mx.getD cap).toNat = (lo.getD 0).toNat then a else a.map (·.add ((lo.getD 0).toNat * sz))) ((hi.getD len).toNat - (lo.getD 0).toNat) ((mx.getD cap).toNat - (lo.getD 0).toNat)) w:=by
    intro a len cap a1 a2 a3 a4 a5
    simp [Instr.sliceAt,Instr.slice,run_underlying hu w,bounds_run h1 h2 h3 a1 a2 a3 a4 a5 w,run_szOf hs w]
  unfold slicePV at h
  split at h
  · next sz' es cap =>
    simp only at h
    split at h
    · next hc =>
      obtain ⟨rfl,hmh,h0,hlh,hhm,hme⟩:=hc
      simp at h; subst h
      rcases vs_inv hx with ⟨rfl,a,c,rfl,hcap,ha⟩ | ⟨b,off,c,vals,rfl,hS,hR,hz,hl,hcap⟩
      · simp only [List.length_nil] at *
        have q1 : hi.getD ((0 : Nat) : Int) = 0:=by omega
        have q2 : lo.getD 0 = 0:=by omega
        have q3 : 0 ≤ mx.getD (c : Int) ∧ mx.getD (c : Int) ≤ c:=by cases mx <;> simp_all <;> omega
        have k1:=key a 0 c (by omega) (by omega) (by omega) (by omega) hmh
        refine ⟨_,k1,?_⟩
        have e0 : (hi.getD ((0 : Nat) : Int)).toNat - (lo.getD 0).toNat = 0:=by omega
        rw [e0]
        simp only [List.take_nil,List.drop_nil]
        refine .vsE _ _ _ _ ?_ ?_
        · intro k hk
          cases mx with
          | some m =>
            cases cap with
            | none => simp at hk
            | some cc => simp at hk; simp; omega
          | none =>
            simp only [Option.map_eq_some_iff] at hk
            obtain ⟨k',hk',rfl⟩:=hk
            have:=hcap _ hk'; subst this; simp
        · intro hn
          have : a = none:=by
            split at hn
            · exact hn
            · simpa using hn
          obtain ⟨hc0,rfl⟩:=ha this
          refine ⟨by omega,?_⟩
          cases mx <;> simp
      · have q3 : hi.getD (es.length : Int) ≤ mx.getD (c : Int) ∧ mx.getD (c : Int) ≤ c:=by cases mx <;> simp_all <;> omega
        have k1:=key (some ⟨b,off,none⟩) es.length c h0 hlh q3.1 q3.2 hmh
        refine ⟨_,k1,?_⟩
        have hcap' : ∀ k,(match mx with | some m => if es = [] ∧ cap = none then none else some (m - lo.getD 0).toNat | none => cap.map (· - (lo.getD 0).toNat)) = some k → (mx.getD (c : Int)).toNat - (lo.getD 0).toNat = k:=by
          intro k hk
          cases mx with
          | some m =>
            simp only at hk
            split at hk
            · cases hk
            · simp at hk; simp; omega
          | none =>
            simp only [Option.map_eq_some_iff] at hk
            obtain ⟨k',hk',rfl⟩:=hk
            have:=hcap _ hk'; subst this; simp
        have hge : hi.getD (es.length : Int) ≤ es.length:=by omega
        clear hhm hme key k1 hmh
        generalize mx.getD (c : Int) = M at *
        generalize lo.getD 0 = L at *
        generalize hi.getD (es.length : Int) = G at *
        obtain ⟨l,rfl⟩:=Int.eq_ofNat_of_zero_le h0
        obtain ⟨g,rfl⟩:=Int.eq_ofNat_of_zero_le (show 0 ≤ G by omega)
        obtain ⟨m,rfl⟩:=Int.eq_ofNat_of_zero_le (show 0 ≤ M by omega)
        simp only [Int.toNat_natCast] at *
        by_cases hlg : l = g
        · subst hlg
          have : (es.take l).drop l = []:=by simp
          rw [this,Nat.sub_self]
          exact .vsE _ _ _ _ hcap' (by intro hn; split at hn <;> simp at hn)
        · have hne : m ≠ l:=by omega
          rw [if_neg hne]
          simp only [Option.map_some,Addr.add_mid]
          have h2:=(hR.take (g * sz')).drop (l * sz')
          rw [← flat_take es g hz,← flat_drop _ l (fun e he => hz e (List.mem_of_mem_take he))] at h2
          exact .vs _ _ _ _ _ _ _ _ (by simp; omega) (at_drop (at_take hS _) _) h2 (fun e he => hz e (List.mem_of_mem_take (List.mem_of_mem_drop he))) (by simp; omega) hcap'
    · simp at h
  · next sz' id ver off len =>
    simp only at h
    split at h
    · next hc =>
      obtain ⟨rfl,hmx,h0,hlh,hhm⟩:=hc
      have hmx' : mx = none:=by simpa using hmx
      subst hmx'
      simp at h; subst h
      obtain ⟨hz,⟨rfl,rfl,rfl,rfl,hm⟩ | ⟨b,c,rfl,hm,hl,hcp⟩⟩:=gsl_inv hx
      · have q1 : hi.getD ((0 : Nat) : Int) = 0:=by omega
        have q2 : lo.getD 0 = 0:=by omega
        have k1:=key none 0 0 (by omega) (by omega) (by simp; omega) (by simp) (by simp)
        refine ⟨_,k1,?_⟩
        rw [q1,q2]
        simp
        exact .vsE _ _ _ _ (by simp) (by simp)
      · have k1:=key (some ⟨b,off * sz',none⟩) len c h0 hlh (by simp; omega) (by simp) (by simp)
        refine ⟨_,k1,?_⟩
        clear key k1
        generalize lo.getD 0 = L at *
        generalize hi.getD (len : Int) = G at *
        obtain ⟨l,rfl⟩:=Int.eq_ofNat_of_zero_le h0
        obtain ⟨g,rfl⟩:=Int.eq_ofNat_of_zero_le (show 0 ≤ G by omega)
        simp only [Int.toNat_natCast,Option.getD_none] at *
        by_cases hlg : l = g
        · subst hlg
          rw [Nat.sub_self,if_pos rfl]
          exact .vsE _ _ _ _ (by simp) (by intro hn; split at hn <;> simp at hn)
        · rw [if_neg (show ¬ c = l by omega),if_neg (show ¬ (l : Int) = g by omega)]
          simp only [Option.map_some,Addr.add_mid]
          rw [show ((g : Int) - (l : Int)).toNat = g - l from by omega]
          exact .gsl _ _ _ _ _ _ _ _ hm hz (by omega) (by rw [Nat.add_mul]) (by omega)
    · simp at h
  · split at h
    · next hc =>
      obtain ⟨hmx,q2,q1⟩:=hc
      have hmx' : mx = none:=by simpa using hmx
      subst hmx'
      simp at h; subst h
      cases hx
      have k1:=key none 0 0 (by omega) (by simp; omega) (by simp; omega) (by simp) (by simp)
      refine ⟨_,k1,?_⟩
      simp [q1,q2]
      exact .nils
    · simp at h
  · simp at h
end GoV
namespace GoV
open Go
variable {P : Program} {E : Env}
theorem mapM_run {α β : Type} (F : α → Sem β) (G : α → β) (w : World) : ∀ (l : List α),(∀ x ∈ l,(F x).run P w = .ok (G x) w) → (l.mapM F).run P w = .ok (l.map G) w
  | [],_ => by simp
  | x :: l,h => by simp [h x (by simp),mapM_run F G w l fun y hy => h y (by simp [hy])]
theorem mapM_run' {α β : Type} (F : α → Sem β) (G : α → β) (w : World) (l : Array α) (h : ∀ x ∈ l.toList,(F x).run P w = .ok (G x) w) : (l.mapM F).run P w = .ok (l.toList.map G).toArray w:=by
  rw [Array.mapM_eq_mapM_toList]
  simp [mapM_run F G w l.toList h]
theorem build_run {ρ : Operand → Value} {ev : Operand → PV} (hρ : ∀ x,R E (ρ x) (ev x)) {t : TypeId} {parts : Array (Nat × Operand)} {z : PV} {cs : List PV} (hok : structOK P t = true) (hz : zeroT P t = some z)
    (h : fillPV P t (parts.toList.map fun (i,x) => (i,ev x)) z.cells = some cs) (w : World) :
    ∃ v,(Instr.build t (parts.map fun (i,x) => (i,ρ x))).run P w = .ok v w ∧ R E v (.agg cs):=by
  obtain ⟨zv,hzr,hzR⟩:=run_zeroT (E:=E) hz w
  have hany : z ≠ .any:=by
    rintro rfl
    unfold zeroT at hz
    simp only [Option.bind_eq_some_iff] at hz
    obtain ⟨v,_,hv⟩:=hz
    unfold ofV at hv
    split at hv
    · simp at hv
    · unfold ofS at hv; split at hv <;> simp at hv
  have htup : ∀ ps,z ≠ .tup ps:=by
    rintro ps rfl
    unfold zeroT at hz
    simp only [Option.bind_eq_some_iff] at hz
    obtain ⟨v,_,hv⟩:=hz
    unfold ofV at hv
    split at hv
    · simp at hv
    · unfold ofS at hv; split at hv <;> simp at hv
  unfold structOK at hok
  split at hok
  · next fs hu =>
    have hpl : ∀ i off ft sz,partT P t i = some (off,ft) → szOf P ft = some sz → ((fs.toList.map fun f => (f.offset,(szOf P f.type).getD 0)).toArray)[i]? = some (off,sz):=by
      intro i off ft sz hf hs
      simp only [partT,hu,Option.map_eq_some_iff,Prod.mk.injEq] at hf
      obtain ⟨f,hfi,rfl,rfl⟩:=hf
      have : fs.toList[i]? = some f:=by simpa using hfi
      simp [this,hs]
    obtain ⟨cells',hc,hR,h1⟩:=fill_R (E:=E) hpl (parts.toList.map fun (i,x) => (i,ρ x)) _ zv.cells.toList _ _ h (hzR.cells hany) (fun c hc => hzR.one hany htup c (by simpa using hc)) (by simp)
      (by
        intro i a b ha hb
        simp only [List.getElem?_map,Option.map_eq_some_iff] at ha hb
        obtain ⟨x,hx,rfl⟩:=ha
        obtain ⟨y,hy,rfl⟩:=hb
        rw [hx] at hy; cases hy
        exact hρ _)
    refine ⟨.agg cells'.toArray,?_,.agg _ _ h1 hR⟩
    have e1:=mapM_run' (P:=P) (fun f : Field => do pure (f.offset,← Go.sizeOf f.type)) (fun f => (f.offset,(szOf P f.type).getD 0)) w fs (by
      intro f hf
      have:=List.all_eq_true.1 hok f hf
      obtain ⟨n,hn⟩:=Option.isSome_iff_exists.1 this
      simp [run_szOf hn w,hn])
    simp only [Instr.build,Sem.run_bind,hzr,run_underlying hu w,Result.andThen_ok,e1]
    simp only [Array.toArray_toList,Array.toList_map] at hc ⊢
    rw [hc]
    rfl
  · next n e hu =>
    obtain ⟨esz,hesz⟩:=Option.isSome_iff_exists.1 hok
    have hpl : ∀ i off ft sz,partT P t i = some (off,ft) → szOf P ft = some sz → (fun i => some (i * esz,esz)) i = some (off,sz):=by
      intro i off ft sz hf hs
      simp only [partT,hu,hesz,Option.map_some,Option.some.injEq,Prod.mk.injEq] at hf
      obtain ⟨rfl,rfl⟩:=hf
      rw [hesz] at hs
      cases hs; rfl
    obtain ⟨cells',hc,hR,h1⟩:=fill_R (E:=E) hpl (parts.toList.map fun (i,x) => (i,ρ x)) _ zv.cells.toList _ _ h (hzR.cells hany) (fun c hc => hzR.one hany htup c (by simpa using hc)) (by simp)
      (by
        intro i a b ha hb
        simp only [List.getElem?_map,Option.map_eq_some_iff] at ha hb
        obtain ⟨x,hx,rfl⟩:=ha
        obtain ⟨y,hy,rfl⟩:=hb
        rw [hx] at hy; cases hy
        exact hρ _)
    refine ⟨.agg cells'.toArray,?_,.agg _ _ h1 hR⟩
    simp only [Instr.build,Sem.run_bind,hzr,run_underlying hu w,Result.andThen_ok,run_szOf hesz w]
    simp only [Array.toArray_toList,Array.toList_map] at hc ⊢
    rw [hc]
    rfl
  · simp at hok
theorem fold_run {f : Int → Int → Int} {g : Value → Value → Sem Value} (hg : ∀ k x y w,(g (.int k x) (.int k y)).run P w = .ok (.int k (f x y)) w) :
    ∀ (vs : List Value) (ps : List PV) (k : IntKind) (x : Int) (r : PV),RL E vs ps → ps.foldlM (init:=PV.int k x) (fun a b => match a,b with
      | .int k x,.int k' y => if k = k' then some (.int k (f x y)) else none
      | _,_ => none) = some r → ∀ (w : World),∃ v,(vs.foldlM g (.int k x)).run P w = .ok v w ∧ R E v r
  | _,_,k,x,r,.nil,h,w => by simp at h; subst h; exact ⟨_,rfl,.int _ _⟩
  | _,_,k,x,r,.cons v p vs ps hv hl,h,w => by
    simp only [List.foldlM_cons,Option.bind_eq_bind,Option.bind_eq_some_iff] at h
    obtain ⟨q,hq,h⟩:=h
    cases hv <;> simp at hq
    obtain ⟨rfl,rfl⟩:=hq
    obtain ⟨v',hv',hR⟩:=fold_run hg vs ps _ _ r hl h w
    exact ⟨v',by simp [hg,hv'],hR⟩
theorem foldPV_run {f : Int → Int → Int} {g : Value → Value → Sem Value} (hg : ∀ k x y w,(g (.int k x) (.int k y)).run P w = .ok (.int k (f x y)) w) {vs : List Value} {ps : List PV} {r : PV} (hl : RL E vs ps) (h : foldPV f ps = some r) (w : World) :
    ∃ x rest,vs = x :: rest ∧ ∃ v,(rest.foldlM g x).run P w = .ok v w ∧ R E v r:=by
  unfold foldPV at h
  split at h
  · cases hl
    next hv hl =>
    cases hv
    obtain ⟨v',hv',hR⟩:=fold_run hg _ _ _ _ r hl h w
    exact ⟨_,_,rfl,v',hv',hR⟩
  · simp at h
theorem RL.of_ops {ρ : Operand → Value} {ev : Operand → PV} (hρ : ∀ x,R E (ρ x) (ev x)) : ∀ (l : List Operand),RL E (l.map ρ) (l.map ev)
  | [] => .nil
  | x :: l => .cons _ _ _ _ (hρ x) (RL.of_ops hρ l)
set_option maxHeartbeats 1000000 in
theorem pure_run {ρ : Operand → Value} {ev : Operand → PV} (hρ : ∀ x,R E (ρ x) (ev x)) {o : Oper} {r : PV} (h : pureOp P o.op ev = some r) (w : World) :
    ∃ v,(execOp ρ o).run P w = .ok (.value v) w ∧ R E v r:=by
  unfold execOp
  unfold pureOp at h
  split at h
  · next x ho => rw [ho]; simp at h; subst h; exact ⟨_,rfl,hρ _⟩
  · next x ho => rw [ho]; simp at h; subst h; exact ⟨_,rfl,hρ _⟩
  · next c a b ho =>
    rw [ho]
    have hc:=hρ c
    split at h
    · next bv hb =>
      rw [hb] at hc
      simp at h; subst h
      generalize hvx : ρ c = vc at hc
      cases hc
      refine ⟨if bv then ρ a else ρ b,by simp [asBool,hvx],?_⟩
      cases bv <;> simp [hρ]
    · simp at h
  · next t parts ho =>
    rw [ho]
    split at h
    · next hok =>
      simp only [Option.bind_eq_some_iff,Option.map_eq_some_iff] at h
      obtain ⟨z,hz,cs,hf,rfl⟩:=h
      obtain ⟨v,hv,hR⟩:=build_run hρ hok hz hf w
      exact ⟨v,by simp [hv],hR⟩
    · simp at h
  · next op t x y _ ho =>
    rw [ho]
    obtain ⟨v,hg,hv,hR⟩:=bin_run h (hρ x) (hρ y) w
    exact ⟨v,by simp [hg,hv],hR⟩
  · next op _ x ho =>
    rw [ho]
    obtain ⟨v,hv,hR⟩:=un_run (P:=P) h (hρ x) w
    exact ⟨v,by simp [hv],hR⟩
  · next src dst x ho =>
    rw [ho]
    split at h
    · next hs =>
      obtain ⟨v,hv,hR⟩:=conv_run h (hρ x) hs w
      exact ⟨v,by simp [hv],hR⟩
    · simp at h
  · next t x ho =>
    rw [ho]
    split at h
    · simp at h
    · simp at h
    · next d h1 hd =>
      simp at h; subst h
      refine ⟨.iface t (ρ x),?_,.iface _ _ _ (hρ x)⟩
      dsimp only
      simp only [Instr.makeInterface,Sem.run_bind,run_underlying hd w,Result.andThen_ok]
      cases d <;> first | rfl | exact (h1 _ hd).elim
  · next f first capt ho =>
    rw [ho]
    split at h
    · next he =>
      simp at h; subst h
      have he' : first = #[]:=by simpa using he
      subst he'
      refine ⟨.func (.func f) #[] (capt.map ρ),by simp [Instr.makeFunc],?_⟩
      have:=R.fn (E:=E) f (capt.toList.map ρ) (capt.toList.map ev) (RL.of_ops hρ _)
      have e : (capt.toList.map ρ).toArray = capt.map ρ:=by apply Array.ext'; simp
      rw [e] at this
      exact this
    · split at h
      · next hc =>
        simp at h; subst h
        have hc' : capt = #[]:=by simpa using hc
        subst hc'
        refine ⟨.func (.func f) (first.map ρ) #[],by simp [Instr.makeFunc],?_⟩
        have:=R.bnd (E:=E) f (first.toList.map ρ) (first.toList.map ev) (RL.of_ops hρ _)
        have e : (first.toList.map ρ).toArray = first.map ρ:=by apply Array.ext'; simp
        rw [e] at this
        exact this
      · simp at h
  · next x ho =>
    rw [ho]
    have hx:=hρ x
    split at h
    · next cs hc =>
      simp at h; subst h
      obtain ⟨a,ha⟩ : ∃ a,ρ x = .pointer (some a):=by
        have hy:=hx
        rw [hc] at hy
        generalize ρ x = v at hy
        cases hy; exact ⟨_,rfl⟩
      exact ⟨ρ x,by simp [ha],hx⟩
    · next f t ver off hc =>
      simp at h; subst h
      obtain ⟨a,ha⟩ : ∃ a,ρ x = .pointer (some a):=by
        have hy:=hx
        rw [hc] at hy
        generalize ρ x = v at hy
        cases hy; exact ⟨_,rfl⟩
      exact ⟨ρ x,by simp [ha],hx⟩
    · next id ver i off hc =>
      simp at h; subst h
      obtain ⟨a,ha⟩ : ∃ a,ρ x = .pointer (some a):=by
        have hy:=hx
        rw [hc] at hy
        generalize ρ x = v at hy
        cases hy; exact ⟨_,rfl⟩
      exact ⟨ρ x,by simp [ha],hx⟩
    · simp at h
  · next t x i ho =>
    rw [ho]
    simp only [Option.bind_eq_some_iff] at h
    obtain ⟨⟨off,ft⟩,hf,sz,hs,h⟩:=h
    split at h
    · simp at h
    · next h0 =>
      obtain ⟨v,hv,hR⟩:=field_run hf hs h0 w h (hρ x)
      exact ⟨v,by simp [hv],hR⟩
  · next t x i ho =>
    rw [ho]
    simp only [Option.bind_eq_some_iff] at h
    obtain ⟨⟨off,ft⟩,hf,h⟩:=h
    obtain ⟨fs,f,hu,hfi,rfl,rfl⟩:=fieldT_und hf
    have hx:=hρ x
    split at h
    · next cs hcs =>
      rw [hcs] at hx
      generalize hvx : ρ x = vx at hx
      cases hx
      next h1 hl =>
      dsimp only at h
      obtain ⟨v,hv,hR⟩:=part_R hρ h hl h1 w
      exact ⟨v,by simp [Instr.field,run_underlying hu w,hfi,asAgg,hvx,hv],hR⟩
    · simp at h
  · next t x i ho =>
    rw [ho]
    split at h
    · next r hr =>
      cases h
      unfold strIx at hr
      split at hr
      · next s k q hu hs hq =>
        have hx:=hρ x
        have hi:=hρ i
        rw [hs] at hx
        rw [hq] at hi
        generalize hvx : ρ x = vx at hx
        generalize hvi : ρ i = vi at hi
        cases hx; cases hi
        split at hr
        · next h0 =>
          simp only [Option.map_eq_some_iff] at hr
          obtain ⟨b,hb,rfl⟩:=hr
          exact ⟨_,by simp [Instr.index,hvx,hvi,asIntOf,run_underlying hu w,h0,hb],.int _ _⟩
        · simp at hr
      · simp at hr
    simp only [Option.bind_eq_some_iff] at h
    obtain ⟨⟨n,e⟩,ha,sz,hs,h⟩:=h
    have hu:=arrT_und ha
    have hx:=hρ x
    have hi:=hρ i
    split at h
    · next cs k q hcs hq =>
      rw [hcs] at hx
      rw [hq] at hi
      generalize hvx : ρ x = vx at hx
      generalize hvi : ρ i = vi at hi
      cases hx; cases hi
      next h1 hl =>
      dsimp only at h hs
      split at h
      · next hb =>
        obtain ⟨v,hv,hR⟩:=part_R hρ h hl h1 w
        exact ⟨v,by simp [Instr.index,hvx,hvi,asIntOf,run_underlying hu w,hb,run_szOf hs w,hv],hR⟩
      · simp at h
    · simp at h
  · next t x i ho =>
    rw [ho]
    have hx:=hρ x
    have key : ∃ k n,ρ i = .int k n ∧ idx (ev i) = some n:=by
      split at h
      · simp only [Option.bind_eq_some_iff] at h
        obtain ⟨_,_,n,hn,_⟩:=h
        obtain ⟨k,hk⟩:=idx_R hρ hn
        exact ⟨k,n,hk,hn⟩
      · simp only [Option.bind_eq_some_iff] at h
        obtain ⟨_,_,_,_,n,hn,_⟩:=h
        obtain ⟨k,hk⟩:=idx_R hρ hn
        exact ⟨k,n,hk,hn⟩
    obtain ⟨k,n,hk,hn⟩:=key
    rw [hn] at h
    obtain ⟨v,hv,hR⟩:=idxOf_run (k:=k) w h hx
    exact ⟨v,by simp [hk,hv],hR⟩
  · next t x lo hi mx ho =>
    rw [ho]
    simp only [Option.bind_eq_some_iff] at h
    obtain ⟨e,he,sz,hs,h⟩:=h
    split at h
    · simp at h
    · simp only [Option.bind_eq_some_iff] at h
      obtain ⟨l,hl,g,hg,m,hm,h⟩:=h
      obtain ⟨v,hv,hR⟩:=sliceOp_run he hs (optIdx_R hρ hl) (optIdx_R hρ hg) (optIdx_R hρ hm) h (hρ x) w
      exact ⟨v,by simp [hv],hR⟩
  · next x i ho =>
    rw [ho]
    have hx:=hρ x
    split at h
    · next vs hvs =>
      rw [hvs] at hx
      generalize hvx : ρ x = vx at hx
      cases hx
      next hl =>
      obtain ⟨v,hv,hR⟩:=hl.get h
      exact ⟨v,by simp [Instr.extract,hvx,hv],hR⟩
    · simp at h
  · next x xt t ok ho =>
    rw [ho]
    have hx:=hρ x
    split at h
    · simp at h
    · simp at h
    · next d h1 hd =>
      split at h
      · next u v hv =>
        rw [hv] at hx
        generalize hvx : ρ x = vx at hx
        cases hx
        next v' hv' =>
        split at h
        · next hut =>
          subst hut
          simp at h; subst h
          refine ⟨if ok then .tuple #[v',.bool true] else v',?_,?_⟩
          · simp only [Instr.typeAssert,hvx,Sem.run_bind,run_underlying hd w,Result.andThen_ok]
            cases d <;> first | exact (h1 _ hd).elim | simp
          · cases ok
            · simpa using hv'
            · exact .tup [v',.bool true] [v,.bool true] (.cons _ _ _ _ hv' (.cons _ _ _ _ (.bool _) .nil))
        · simp at h
      · simp at h
  · next args ts ho =>
    rw [ho]
    split at h
    · next x t hargs hts =>
      have e1 : args = #[x]:=by cases args; simp_all
      have e2 : ts = #[t]:=by cases ts; simp_all
      subst e1; subst e2
      simp only [Option.map_eq_some_iff] at h
      obtain ⟨n,hn,rfl⟩:=h
      have hx:=hρ x
      refine ⟨.int .i64 n,?_,.int _ _⟩
      unfold lenPV at hn
      split at hn <;> simp at hn
      · next e sz es cap hu hev =>
        rw [hev] at hx
        rcases vs_inv hx with ⟨rfl,a,c,hv,_⟩ | ⟨b,off,c,vals,hv,_⟩ <;> simp [resolve,invoke,builtin,Builtin.len_,hv,run_underlying hu w,goInt,← hn]
      · next e sz id ver off len hu hev =>
        rw [hev] at hx
        obtain ⟨_,⟨hv,rfl,rfl,rfl,_⟩ | ⟨b,c,hv,_⟩⟩:=gsl_inv hx <;> simp [resolve,invoke,builtin,Builtin.len_,hv,run_underlying hu w,goInt,← hn]
      · next e hu hev =>
        rw [hev] at hx
        generalize hvx : ρ x = vx at hx
        cases hx
        simp [resolve,invoke,builtin,Builtin.len_,hvx,run_underlying hu w,goInt,← hn]
      · next s hu hev =>
        rw [hev] at hx
        generalize hvx : ρ x = vx at hx
        cases hx
        simp [resolve,invoke,builtin,Builtin.len_,hvx,run_underlying hu w,goInt,← hn]
    · simp at h
  · next args ts ho =>
    rw [ho]
    obtain ⟨x,rest,hvs,v,hv,hR⟩:=foldPV_run (P:=P) (g:=Builtin.max2) (by intros; simp [Builtin.max2]) (RL.of_ops hρ args.toList) h w
    exact ⟨v,by simp [resolve,invoke,builtin,Builtin.max_,hvs,hv],hR⟩
  · next args ts ho =>
    rw [ho]
    obtain ⟨x,rest,hvs,v,hv,hR⟩:=foldPV_run (P:=P) (g:=Builtin.min2) (by intros; simp [Builtin.min2]) (RL.of_ops hρ args.toList) h w
    exact ⟨v,by simp [resolve,invoke,builtin,Builtin.min_,hvs,hv],hR⟩
  · simp at h
end GoV
namespace GoV
open Go
variable {P : Program} {E : Env}
theorem heap_setCell {w : World} {b o : Nat} {v : Value} {c : Array Value} {t : TypeId} {f : Nat × Nat} (h : w.heap[b]? = some (.cells c t f)) : (w.setCell ⟨b,o,none⟩ v).heap[b]? = some (.cells (c.setIfInBounds o v) t f):=by
  simp [World.setCell,Array.getElem?_modify,h]
theorem heap_setCell_other {w : World} {b b' o : Nat} {v : Value} (h : b' ≠ b) : (w.setCell ⟨b,o,none⟩ v).heap[b']? = w.heap[b']?:=by
  simp [World.setCell,Array.getElem?_modify]; intro hb; exact absurd hb.symm h
theorem heap_setCells {b : Nat} {t : TypeId} {f : Nat × Nat} : ∀ (vs : List Value) (o : Nat) (w : World) (c : Array Value),w.heap[b]? = some (.cells c t f) → o + vs.length ≤ c.size →
    (w.setCells b o vs).heap[b]? = some (.cells (c.toList.take o ++ (vs ++ c.toList.drop (o + vs.length))).toArray t f)
  | [],o,w,c,h,_ => by simp [World.setCells,h]
  | v :: vs,o,w,c,h,hl => by
    simp only [List.length_cons] at hl
    rw [World.setCells,heap_setCells vs (o + 1) _ _ (heap_setCell h) (by simp; omega)]
    congr 2
    apply Array.ext'
    simp only [Array.toList_setIfInBounds]
    apply List.ext_getElem?
    intro i
    have hs : c.toList.length = c.size:=by simp
    simp only [List.getElem?_append,List.length_take,List.length_set,List.getElem?_take,List.getElem?_drop,List.length_cons,List.getElem?_set,hs]
    have e1 : min (o + 1) c.size = o + 1:=by omega
    have e2 : min o c.size = o:=by omega
    rw [e1,e2]
    by_cases h1 : i < o
    · rw [if_pos (by omega),if_pos (by omega),if_pos h1,if_pos h1,if_neg (by omega)]
    · by_cases h2 : i = o
      · subst h2
        rw [if_pos (by omega),if_pos (by omega),if_pos rfl,if_pos (by omega),if_neg (by omega),if_pos (by omega)]
        simp
      · rw [if_neg (by omega),if_neg h1]
        have e3 : i - o = (i - (o + 1)) + 1:=by omega
        by_cases h3 : i - (o + 1) < vs.length
        · rw [if_pos h3,e3,if_pos (by omega)]; simp
        · rw [if_neg h3,if_neg (by omega),if_neg (by omega)]
          congr 1; omega
theorem heap_setCells_other {b b' : Nat} (h : b' ≠ b) : ∀ (vs : List Value) (o : Nat) (w : World),(w.setCells b o vs).heap[b']? = w.heap[b']?
  | [],_,_ => rfl
  | v :: vs,o,w => by rw [World.setCells,heap_setCells_other h vs,heap_setCell_other h]
theorem setCells_rest {b : Nat} : ∀ (vs : List Value) (o : Nat) (w : World),(w.setCells b o vs).os = w.os ∧ (w.setCells b o vs).tape = w.tape ∧ (w.setCells b o vs).output = w.output ∧ (w.setCells b o vs).heap.size = w.heap.size
  | [],_,_ => ⟨rfl,rfl,rfl,rfl⟩
  | v :: vs,o,w => by
    rw [World.setCells]
    obtain ⟨h1,h2,h3,h4⟩:=setCells_rest vs (o + 1) (w.setCell ⟨b,o,none⟩ v)
    exact ⟨h1,h2,h3,by rw [h4]; simp⟩
structure HTr (E : Env) (H : Heap) (w : World) (E' : Env) (H' : Heap) (w' : World) : Prop where
  sim : Sim E' H' w'
  tr : Tr H.next E H.next (own E H) w E' H'.next (own E' H') w'
theorem HTr.refl {H : Heap} {w : World} (h : Sim E H w) : HTr E H w E H w:=⟨h,.refl _ _ _ _ _⟩
theorem SimF.frame {nt : Nat} {s : St} {w w' : World} {a : Act} {E' : Env} {H' : Heap} (h : SimF nt E s w a) (k : HTr E s.H w E' H' w') :
    SimF nt E' { s with H:=H' } w' a ∧ Tr s.fid E s.H.next (ownF E s) w E' H'.next (ownF E' { s with H:=H' }) w':=by
  have hbe : ∀ t n,E'.be s.fid t n = E.be s.fid t n:=fun t n => k.tr.be _ _ _ h.bx.fid (Nat.ne_of_lt h.bx.fid)
  refine ⟨⟨k.sim,h.size,fun i => (h.tm i).mono k.tr.le,⟨?_,?_,?_,Nat.lt_of_lt_of_le h.bx.fid k.tr.next⟩,h.df.mono k.tr.le⟩,?_⟩
  · intro t ver cs hb
    obtain ⟨b,c,ty,h1,h2,h3,h4,h5,h6⟩:=h.bx.ok t ver cs hb
    have hlt:=lt_of_heap h2
    refine ⟨b,c,ty,by rw [hbe]; exact h1,by rw [k.tr.kept b hlt h6]; exact h2,h3.mono k.tr.le,h4,?_,?_⟩
    · intro o
      by_cases hn : E'.S b o = none
      · exact hn
      · rcases k.tr.S b o (h5 o) hn with h' | h'
        · exact (h6 h').elim
        · omega
    · intro h'
      rcases k.tr.own b h' with h' | h'
      · exact h6 h'
      · omega
  · intro t t' ver ver' cs cs' b h1 h2 h3 h4
    rw [hbe] at h3 h4
    exact h.bx.inj t t' ver ver' cs cs' b h1 h2 h3 h4
  · intro t n hn
    rw [hbe]; exact h.bx.fresh t n hn
  · refine ⟨k.tr.le,k.tr.os,k.tr.tape,k.tr.output,k.tr.size,k.tr.next,?_,?_,?_,?_⟩
    · exact fun b hb ho => k.tr.kept b hb fun h' => ho (.inl h')
    · rintro b (h' | ⟨t,ver,cs,h1,h2⟩)
      · exact (k.tr.own b h').imp .inl id
      · rw [hbe] at h2; exact .inl (.inr ⟨t,ver,cs,h1,h2⟩)
    · exact fun b o h0 h1 => (k.tr.S b o h0 h1).imp .inl id
    · exact fun f t n hf _ => k.tr.be f t n hf (Nat.ne_of_lt hf)
theorem tr_S_lt {H : Heap} {w : World} (h : Sim E H w) {b o : Nat} {v : Value} (hb : E.S b o = some v) : b < w.heap.size:=cell_lt (h.stab b o v hb).1
theorem S_new {H : Heap} {w : World} (h : Sim E H w) {b : Nat} (hb : w.heap.size ≤ b) (o : Nat) : E.S b o = none:=by
  cases hs : E.S b o with
  | none => rfl
  | some v => have:=tr_S_lt h hs; omega
theorem heap_alloc_old {w : World} {o : Obj} {b : Nat} (h : b < w.heap.size) : (w.alloc o).heap[b]? = w.heap[b]?:=Go.RowKit.Below.heap_alloc w o b h
theorem heap_alloc_new {w : World} {o : Obj} : (w.alloc o).heap[w.heap.size]? = some o:=by show (w.heap.push o)[w.heap.size]? = _; simp
def Env.addRow (E : Env) (id ver b sz cp : Nat) : Env:={ E with mu:=fun i n => if i = id ∧ n = ver then some (some b) else E.mu i n,sz:=upd E.sz id sz,cp:=upd E.cp id fun _ => cp }
theorem Env.addRow_le {H : Heap} {w : World} (h : Sim E H w) (ver b sz cp : Nat) : E.le (E.addRow H.next ver b sz cp) where
  S:=fun _ _ _ x => x
  mu:=by
    intro i n x hx
    have : i ≠ H.next:=by rintro rfl; rw [h.fresh _ _ (Nat.le_refl _)] at hx; cases hx
    simp [Env.addRow,this,hx]
  be:=fun _ _ _ _ x => x
theorem HTr.addObj {H : Heap} {w w1 : World} (h : Sim E H w) (r : Row) (ver sz cp : Nat) (hver : ∀ es f z,r = .gro z es f → ver = es.length) (hver' : (∀ es f z,r ≠ .gro z es f) → ver = 0)
    (hs : w1.heap.size = w.heap.size + 1) (hk : ∀ b,b < w.heap.size → w1.heap[b]? = w.heap[b]?) (hos : w1.os = w.os) (htp : w1.tape = w.tape) (hou : w1.output = w.output)
    (hr : RowOK (E.addRow H.next ver w.heap.size sz cp) w1 H.next r) : HTr E H w (E.addRow H.next ver w.heap.size sz cp) (H.add r) w1:=by
  have hle:=Env.addRow_le h ver w.heap.size sz cp
  have hblk : ∀ id r',H.rows id = some r' → id ≠ H.next:=by
    rintro id r' hid rfl
    have hok:=h.row _ _ hid
    cases r' with
    | gro z es f => obtain ⟨_,_,_,⟨_,hm,_⟩ | ⟨b,c,t,hm,_⟩⟩:=hok <;> rw [h.fresh _ _ (Nat.le_refl _)] at hm <;> cases hm
    | loop => obtain ⟨_,b,L,hm,_⟩:=hok; rw [h.fresh _ _ (Nat.le_refl _)] at hm; cases hm
    | dfr => obtain ⟨_,b,hm,_⟩:=hok; rw [h.fresh _ _ (Nat.le_refl _)] at hm; cases hm
    | map => obtain ⟨_,b,mes,c,hm,_⟩:=hok; rw [h.fresh _ _ (Nat.le_refl _)] at hm; cases hm
  have hblk2 : ∀ id r',id ≠ H.next → (E.addRow H.next ver w.heap.size sz cp).blk id r' = E.blk id r':=by
    intro id r' hid
    cases r' <;> simp [Env.blk,Env.addRow,hid]
  have hnew : (E.addRow H.next ver w.heap.size sz cp).blk H.next r = some w.heap.size:=by
    cases r with
    | gro z es f => simp [Env.blk,Env.addRow,hver es f z rfl]
    | _ => simp [Env.blk,Env.addRow,hver' (by intros; simp)]
  have hcell : ∀ b o v,E.S b o = some v → w1.cell? ⟨b,o,none⟩ = some v ∧ v.oneCell' = true:=by
    intro b o v hv
    obtain ⟨h1,h2⟩:=h.stab b o v hv
    exact ⟨by rw [cell_of_heap (hk b (cell_lt h1)) o]; exact h1,h2⟩
  refine ⟨⟨hcell,?_,?_,?_,?_⟩,⟨hle,hos,htp,hou,by omega,by simp [Heap.add],fun b hb _ => hk b hb,?_,fun b o h0 h1 => absurd h0 h1,fun _ _ _ _ _ => rfl⟩⟩
  · intro id r' hid
    simp only [Heap.add,upd_apply] at hid
    split at hid
    · next he => subst he; cases hid; exact hr
    · next he =>
      exact (h.row id r' hid).keep hle (fun b hb => hk b ((h.row id r' hid).lt hb)) (fun n => by simp [Env.addRow,he]) (fun _ _ _ x => x) (by simp [Env.addRow,he])
  · intro id n hid
    simp only [Heap.add] at hid
    have : id ≠ H.next:=by omega
    simp [Env.addRow,this]
    exact h.fresh id n (by omega)
  · intro f t n hf
    exact h.freshB f t n (by simp only [Heap.add] at hf; omega)
  · intro id id' r1 r2 b h1 h2 h3 h4
    simp only [Heap.add,upd_apply] at h1 h2
    split at h1 <;> split at h2
    · next e1 e2 => rw [e1,e2]
    · next e1 e2 =>
      subst e1; cases h1; rw [hnew] at h3; cases h3
      rw [hblk2 _ _ e2] at h4
      have:=(h.row _ _ h2).lt h4; omega
    · next e1 e2 =>
      subst e2; cases h2; rw [hnew] at h4; cases h4
      rw [hblk2 _ _ e1] at h3
      have:=(h.row _ _ h1).lt h3; omega
    · next e1 e2 =>
      rw [hblk2 _ _ e1] at h3
      rw [hblk2 _ _ e2] at h4
      exact h.inj _ _ _ _ _ h1 h2 h3 h4
  · rintro b ⟨id,r',h1,h2⟩
    simp only [Heap.add,upd_apply] at h1
    split at h1
    · next he => subst he; cases h1; rw [hnew] at h2; cases h2; exact .inr (Nat.le_refl _)
    · next he => rw [hblk2 _ _ he] at h2; exact .inl ⟨id,r',h1,h2⟩
theorem HTr.addGro {H : Heap} {w w1 : World} (h : Sim E H w) (sz : Nat) (es : List PV) (c : Array Value) (ty : TypeId) (vals rest : List Value) (cp : Nat) (hcp : c.size = cp * sz) (hz : ∀ e ∈ es,e.cells.length = sz) (hc : c.toList = vals ++ rest) (hR : RL E vals (flat es)) (h1 : ∀ v ∈ c.toList,v.oneCell' = true)
    (hw : w1.heap = (w.alloc (.cells c ty)).heap) (hos : w1.os = w.os) (htp : w1.tape = w.tape) (hou : w1.output = w.output) : HTr E H w (E.addRow H.next es.length w.heap.size sz cp) (H.add (.gro sz es 0)) w1:=by
  refine HTr.addObj h _ _ _ _ (by intro es' f z he; cases he; rfl) (by intro hne; exact absurd rfl (hne es 0 sz)) (by rw [hw]; simp) (fun b hb => by rw [hw]; exact heap_alloc_old hb) hos htp hou ?_
  have hle:=Env.addRow_le h es.length w.heap.size sz cp
  refine ⟨by simp [Env.addRow],hz,?_,.inr ⟨w.heap.size,c,ty,by simp [Env.addRow],by rw [hw]; exact heap_alloc_new,⟨vals,rest,hc,hR.mono hle⟩,h1,fun o _ => S_new h (Nat.le_refl _) o,by simpa [Env.addRow] using hcp,Nat.zero_le _⟩⟩
  intro n hn
  have : n ≠ es.length:=by omega
  simp [Env.addRow,this]
  exact h.fresh _ _ (Nat.le_refl _)
end GoV
namespace GoV
open Go
variable {P : Program} {E : Env}
theorem next_none {H : Heap} {w : World} (h : Sim E H w) {id : Nat} {r : Row} (hid : H.rows id = some r) : id < H.next:=by
  rcases Nat.lt_or_ge id H.next with h' | h'
  · exact h'
  · have hok:=h.row _ _ hid
    cases r with
    | gro z es f => obtain ⟨_,_,_,⟨_,hm,_⟩ | ⟨b,c,t,hm,_⟩⟩:=hok <;> rw [h.fresh _ _ h'] at hm <;> cases hm
    | loop => obtain ⟨_,b,L,hm,_⟩:=hok; rw [h.fresh _ _ h'] at hm; cases hm
    | dfr => obtain ⟨_,b,hm,_⟩:=hok; rw [h.fresh _ _ h'] at hm; cases hm
    | map => obtain ⟨_,b,mes,c,hm,_⟩:=hok; rw [h.fresh _ _ h'] at hm; cases hm
def Env.addNil (E : Env) (id sz : Nat) : Env:={ E with mu:=fun i n => if i = id ∧ n = 0 then some none else E.mu i n,sz:=upd E.sz id sz }
theorem HTr.addNil {H : Heap} {w : World} (h : Sim E H w) (sz : Nat) : HTr E H w (E.addNil H.next sz) (H.add (.gro sz [] 0)) w:=by
  have hle : E.le (E.addNil H.next sz):=by
    refine ⟨fun _ _ _ x => x,?_,fun _ _ _ _ x => x⟩
    intro i n x hx
    have : i ≠ H.next:=by rintro rfl; rw [h.fresh _ _ (Nat.le_refl _)] at hx; cases hx
    simp [Env.addNil,this,hx]
  have hblk2 : ∀ id r',id ≠ H.next → (E.addNil H.next sz).blk id r' = E.blk id r':=by
    intro id r' hid
    cases r' <;> simp [Env.blk,Env.addNil,hid]
  have hnew : (E.addNil H.next sz).blk H.next (.gro sz [] 0) = none:=by simp [Env.blk,Env.addNil]
  refine ⟨⟨h.stab,?_,?_,?_,?_⟩,⟨hle,rfl,rfl,rfl,Nat.le_refl _,by simp [Heap.add],fun _ _ _ => rfl,?_,fun b o h0 h1 => absurd h0 h1,fun _ _ _ _ _ => rfl⟩⟩
  · intro id r' hid
    simp only [Heap.add,upd_apply] at hid
    split at hid
    · next he =>
      subst he; cases hid
      refine ⟨by simp [Env.addNil],by simp,?_,.inl ⟨rfl,by simp [Env.addNil],rfl⟩⟩
      intro n hn
      have : n ≠ 0:=by simp at hn; omega
      simp [Env.addNil,this]
      exact h.fresh _ _ (Nat.le_refl _)
    · next he => exact (h.row id r' hid).keep hle (fun _ _ => rfl) (fun n => by simp [Env.addNil,he]) (fun _ _ _ x => x) (by simp [Env.addNil,he])
  · intro id n hid
    simp only [Heap.add] at hid
    have : id ≠ H.next:=by omega
    simp [Env.addNil,this]
    exact h.fresh id n (by omega)
  · intro f t n hf
    exact h.freshB f t n (by simp only [Heap.add] at hf; omega)
  · intro id id' r1 r2 b h1 h2 h3 h4
    simp only [Heap.add,upd_apply] at h1 h2
    split at h1 <;> split at h2
    · next e1 e2 => rw [e1,e2]
    · next e1 e2 => subst e1; cases h1; rw [hnew] at h3; cases h3
    · next e1 e2 => subst e2; cases h2; rw [hnew] at h4; cases h4
    · next e1 e2 =>
      rw [hblk2 _ _ e1] at h3
      rw [hblk2 _ _ e2] at h4
      exact h.inj _ _ _ _ _ h1 h2 h3 h4
  · rintro b ⟨id,r',h1,h2⟩
    simp only [Heap.add,upd_apply] at h1
    split at h1
    · next he => subst he; cases h1; rw [hnew] at h2; cases h2
    · next he => rw [hblk2 _ _ he] at h2; exact .inl ⟨id,r',h1,h2⟩
theorem HTr.setRow {E' : Env} {H : Heap} {w w1 : World} {id : Nat} {r r' : Row} (h : Sim E H w) (hid : H.rows id = some r) (hle : E.le E')
    (hmu : ∀ i n,i ≠ id → E'.mu i n = E.mu i n) (hszs : ∀ i,i ≠ id → E'.sz i = E.sz i) (hbe : E'.be = E.be)
    (hS : ∀ b o v,E'.S b o = some v → w1.cell? ⟨b,o,none⟩ = some v ∧ v.oneCell' = true) (hSn : ∀ b o,E.blk id r ≠ some b → E'.S b o = E.S b o)
    (hblk : ∀ b,E'.blk id r' = some b → E.blk id r = some b ∨ w.heap.size ≤ b)
    (hk : ∀ b,b < w.heap.size → E.blk id r ≠ some b → w1.heap[b]? = w.heap[b]?) (hsz : w.heap.size ≤ w1.heap.size) (hos : w1.os = w.os) (htp : w1.tape = w.tape) (hou : w1.output = w.output)
    (hr : RowOK E' w1 id r') : HTr E H w E' (H.set id r') w1:=by
  have hlt:=next_none h hid
  have hblk2 : ∀ i r'',i ≠ id → E'.blk i r'' = E.blk i r'':=by
    intro i r'' hi
    cases r'' <;> simp [Env.blk,hmu _ _ hi]
  have hother : ∀ i r'' b,i ≠ id → H.rows i = some r'' → E.blk i r'' = some b → E.blk id r ≠ some b:=by
    intro i r'' b hi h1 h2 h3
    exact hi (h.inj _ _ _ _ _ h1 hid h2 h3)
  refine ⟨⟨hS,?_,?_,?_,?_⟩,⟨hle,hos,htp,hou,hsz,Nat.le_refl _,?_,?_,?_,fun _ _ _ _ _ => by rw [hbe]⟩⟩
  · intro i r'' hi
    simp only [Heap.set,upd_apply] at hi
    split at hi
    · next he => subst he; cases hi; exact hr
    · next he =>
      refine (h.row i r'' hi).keep hle (fun b hb => hk b ((h.row i r'' hi).lt hb) (hother _ _ _ he hi hb)) (fun n => hmu _ _ he) ?_ (hszs _ he)
      intro b hb o h0
      rw [hSn b o (hother _ _ _ he hi hb)]; exact h0
  · intro i n hi
    have : i ≠ id:=by simp only [Heap.set] at hi; omega
    rw [hmu _ _ this]; exact h.fresh i n hi
  · intro f t n hf; rw [hbe]; exact h.freshB f t n hf
  · intro i i' r1 r2 b h1 h2 h3 h4
    simp only [Heap.set,upd_apply] at h1 h2
    split at h1 <;> split at h2
    · next e1 e2 => rw [e1,e2]
    · next e1 e2 =>
      subst e1; cases h1
      rw [hblk2 _ _ e2] at h4
      rcases hblk _ h3 with h' | h'
      · exact (hother _ _ _ e2 h2 h4 h').elim
      · have:=(h.row _ _ h2).lt h4; omega
    · next e1 e2 =>
      subst e2; cases h2
      rw [hblk2 _ _ e1] at h3
      rcases hblk _ h4 with h' | h'
      · exact (hother _ _ _ e1 h1 h3 h').elim
      · have:=(h.row _ _ h1).lt h3; omega
    · next e1 e2 =>
      rw [hblk2 _ _ e1] at h3
      rw [hblk2 _ _ e2] at h4
      exact h.inj _ _ _ _ _ h1 h2 h3 h4
  · intro b hb ho
    exact hk b hb fun h' => ho ⟨id,r,hid,h'⟩
  · rintro b ⟨i,r'',h1,h2⟩
    simp only [Heap.set,upd_apply] at h1
    split at h1
    · next he =>
      subst he; cases h1
      rcases hblk _ h2 with h' | h'
      · exact .inl ⟨_,r,hid,h'⟩
      · exact .inr h'
    · next he => rw [hblk2 _ _ he] at h2; exact .inl ⟨i,r'',h1,h2⟩
  · intro b o h0 h1
    by_cases hb : E.blk id r = some b
    · exact .inl ⟨id,r,hid,hb⟩
    · rw [hSn b o hb] at h1; exact absurd h0 h1
theorem Sim.gro {H : Heap} {w : World} (h : Sim E H w) {id sz frz : Nat} {es : List PV} (hid : H.rows id = some (.gro sz es frz)) {b : Nat} (hb : E.mu id es.length = some (some b)) :
    E.sz id = sz ∧ (∀ e ∈ es,e.cells.length = sz) ∧ ∃ c t vals rest,w.heap[b]? = some (.cells c t (0,0)) ∧ c.toList = vals ++ rest ∧ RL E vals (flat es) ∧ (∀ v ∈ c.toList,v.oneCell' = true) ∧ (∀ o,frz * sz ≤ o → E.S b o = none) ∧ c.size = E.cp id es.length * sz ∧ frz ≤ es.length:=by
  obtain ⟨h1,h2,_,h4⟩:=h.row _ _ hid
  refine ⟨h1,h2,?_⟩
  rcases h4 with ⟨rfl,hm,_⟩ | ⟨b',c,t,hm,hh,⟨vals,rest,hc,hR⟩,h5,h6,h7,h8⟩
  · simp at hb; rw [hm] at hb; cases hb
  · rw [hm] at hb; cases hb; exact ⟨c,t,vals,rest,hh,hc,hR,h5,h6,h7,h8⟩
theorem flat_lt {sz i n : Nat} (hi : i < n) : i * sz + sz ≤ n * sz:=by rw [← Nat.succ_mul]; exact Nat.mul_le_mul_right _ hi
theorem HTr.store {H : Heap} {w : World} (h : Sim E H w) {id sz frz i off : Nat} {es : List PV} {e : PV} {qs cs' : List PV} {vs : List Value} {b : Nat} (hid : H.rows id = some (.gro sz es frz)) (hb : E.mu id es.length = some (some b)) (hf : frz ≤ i) (he : es[i]? = some e)
    (hsp : splice e.cells off qs = some cs') (hv : RL E vs qs) (h1 : ∀ v ∈ vs,v.oneCell' = true) :
    HTr E H w E (H.set id (.gro sz (es.set i (reCell e cs')) frz)) (w.setCells b (i * E.sz id + off) vs) ∧ (∀ j,j < vs.length → (w.cell? ⟨b,i * E.sz id + off + j,none⟩).isSome = true) ∧ (∀ j,j < vs.length → w.frozen? ⟨b,i * E.sz id + off + j,none⟩ = false):=by
  obtain ⟨hsz,hz,c,t,vals,rest,hh,hc,hR,h1c,hS,hcp,hfz⟩:=h.gro hid hb
  have hi : i < es.length:=(List.getElem?_eq_some_iff.1 he).1
  have hel : e ∈ es:=List.mem_of_getElem? he
  have hecl:=hz e hel
  have hlen : vals.length = es.length * sz:=by rw [hR.length,flat_len es hz]
  have hle : off + qs.length ≤ sz:=by
    unfold splice at hsp
    split at hsp
    · omega
    · simp at hsp
  have hcs' : cs' = e.cells.take off ++ (qs ++ e.cells.drop (off + qs.length)):=by
    unfold splice at hsp
    split at hsp
    · simpa using hsp.symm
    · simp at hsp
  have hlencs : cs'.length = sz:=by rw [hcs']; simp; omega
  have hvl:=hv.length
  have hfl:=flat_lt (sz:=sz) hi
  have hcs : c.size = vals.length + rest.length:=by rw [← Array.length_toList,hc]; simp
  rw [hsz]
  have hheap:=heap_setCells (b:=b) (t:=t) vs (i * sz + off) w c hh (by omega)
  have hnoagg : ∀ {x : PV} {v : Value},R E v x → v.oneCell' = true → ∀ ys,x ≠ .agg ys:=by
    rintro x v hx h1 ys rfl
    cases hx
    simp [Value.oneCell'] at h1
  have hrecell : (reCell e cs').cells = cs':=by
    cases e with
    | agg x => simp [reCell,PV.cells]
    | _ =>
      simp [PV.cells] at hecl
      subst hecl
      match cs',hlencs with
      | [x],_ =>
        simp only [reCell]
        have hx : ∀ ys,x ≠ .agg ys:=by
          have hm : x ∈ [x]:=by simp
          rw [hcs'] at hm
          simp only [List.mem_append] at hm
          rcases hm with h' | h' | h'
          · have:=List.mem_of_mem_take h'
            simp [PV.cells] at this
            subst this
            simp
          · obtain ⟨j,hj⟩:=List.getElem?_of_mem h'
            obtain ⟨v,hv1,hv2⟩:=hv.get hj
            exact hnoagg hv2 (h1 v (List.mem_of_getElem? hv1))
          · have:=List.mem_of_mem_drop h'
            simp [PV.cells] at this
            subst this
            simp
        cases x <;> simp [PV.cells] <;> exact absurd rfl (hx _)
  have hflat : flat (es.set i (reCell e cs')) = (flat es).take (i * sz + off) ++ (qs ++ (flat es).drop (i * sz + off + qs.length)):=by
    rw [flat_set es i _ hz hi,hrecell,hcs']
    have hA : ((flat es).take (i * sz)).length = i * sz:=by rw [List.length_take,flat_len es hz]; omega
    have e2 : flat es = (flat es).take (i * sz) ++ (e.cells ++ flat (es.drop (i + 1))):=by
      rw [← flat_get es i e hz he]; simp
    have e3 : (flat es).drop (i * sz + sz) = flat (es.drop (i + 1)):=by rw [flat_drop es (i + 1) hz,Nat.succ_mul]
    rw [e3]
    generalize (flat es).take (i * sz) = A at *
    generalize flat (es.drop (i + 1)) = C at *
    rw [e2,← hA]
    rw [Nat.add_assoc,List.take_length_add_append,List.drop_length_add_append,List.take_append_of_le_length (by omega),List.drop_append_of_le_length (by omega)]
    simp
  have hkn : i * sz + off + vs.length ≤ vals.length:=by omega
  have hlist : c.toList.take (i * sz + off) ++ (vs ++ c.toList.drop (i * sz + off + vs.length)) = (vals.take (i * sz + off) ++ (vs ++ vals.drop (i * sz + off + vs.length))) ++ rest:=by
    rw [hc,List.take_append_of_le_length (by omega),List.drop_append_of_le_length (by omega)]; simp
  obtain ⟨r1,r2,r3,r4⟩:=setCells_rest (b:=b) vs (i * sz + off) w
  have hblk : E.blk id (.gro sz es frz) = some b:=by simp [Env.blk,hb]
  have hone : ∀ v ∈ vals.take (i * sz + off) ++ (vs ++ vals.drop (i * sz + off + vs.length)) ++ rest,v.oneCell' = true:=by
    intro v hv'
    simp only [List.mem_append] at hv'
    rcases hv' with (h' | h' | h') | h'
    · exact h1c v (by rw [hc]; simp [List.mem_of_mem_take h'])
    · exact h1 v h'
    · exact h1c v (by rw [hc]; simp [List.mem_of_mem_drop h'])
    · exact h1c v (by rw [hc]; simp [h'])
  have hkeep : ∀ b',b' ≠ b → (w.setCells b (i * sz + off) vs).heap[b']? = w.heap[b']?:=fun b' hne => heap_setCells_other hne vs _ w
  refine ⟨HTr.setRow h hid (Env.le_refl E) (fun _ _ _ => rfl) (fun _ _ => rfl) rfl ?_ (fun _ _ _ => rfl) ?_ (fun b' _ hne => hkeep b' fun e => hne (e ▸ hblk)) (by omega) r1 r2 r3 ?_,?_,?_⟩
  · intro b' o v hs
    obtain ⟨h2,h3⟩:=h.stab b' o v hs
    refine ⟨?_,h3⟩
    by_cases hbb : b' = b
    · subst hbb
      rw [cell_of_cells hheap]
      rw [cell_of_cells hh] at h2
      have ho : o < frz * sz:=by
        rcases Nat.lt_or_ge o (frz * sz) with h' | h'
        · exact h'
        · rw [hS o h'] at hs; cases hs
      have : frz * sz ≤ i * sz:=Nat.mul_le_mul_right _ hf
      rw [List.getElem?_toArray,List.getElem?_append_left (by simp; omega),List.getElem?_take_of_lt (by omega)]
      simpa using h2
    · rw [cell_of_heap (hkeep b' hbb)]; exact h2
  · intro b' h'
    have : E.blk id (.gro sz (es.set i (reCell e cs')) frz) = some b:=by simp [Env.blk,hb]
    rw [this] at h'; cases h'; exact .inl hblk
  · refine ⟨hsz,?_,?_,.inr ⟨b,_,t,by simpa using hb,hheap,⟨vals.take (i * sz + off) ++ (vs ++ vals.drop (i * sz + off + vs.length)),rest,by simpa using hlist,?_⟩,?_,hS,?_,by simpa using hfz⟩⟩
    · intro e' he'
      rcases List.mem_or_eq_of_mem_set he' with h' | rfl
      · exact hz e' h'
      · rw [hrecell]; exact hlencs
    · intro n hn
      obtain ⟨_,_,h3,_⟩:=h.row _ _ hid
      exact h3 n (by simpa using hn)
    · rw [hflat,← hvl]
      exact (hR.take _).append (hv.append (hR.drop _))
    · intro v hv'
      rw [show (c.toList.take (i * sz + off) ++ (vs ++ c.toList.drop (i * sz + off + vs.length))).toArray.toList = _ from rfl,hlist] at hv'
      exact hone v hv'
    · rw [List.length_set,← hcp]; simp; omega
  · intro j hj
    rw [cell_of_cells hh]
    simp; omega
  · intro j hj
    exact frozen_of_cells hh _
end GoV
