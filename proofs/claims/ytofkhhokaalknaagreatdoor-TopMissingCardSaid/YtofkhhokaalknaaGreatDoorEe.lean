/-
  A reading of the machine's code over plain values, proved to say what the machine does (part 5).
-/
import Derived.Test.YtofkhhokaalknaaGreatDoorEd
set_option linter.unusedSimpArgs false
set_option linter.unusedVariables false
set_option linter.unusedSectionVars false
namespace GoV
open Go
def valO (s : St) (x : Option PV) : Option OpR:=x.map fun v => .val v s
def pickK (c a b : PV) : Option PV:=match c with
  | .bool c => some (if c then a else b)
  | _ => none
def buildK (P : Program) (ok : Bool) (t : Nat) (z : Option PV) (ps : List (Nat × PV)) : Option PV:=if ok then z.bind fun z => (fillPV P t ps z.cells).map .agg else none
def aggO (x : Option (List PV)) : Option PV:=x.map .agg
def fillK (P : Program) (t : Nat) (f : Option (Nat × Nat)) (v : PV) (r : List (Nat × PV)) (cs : List PV) : Option (List PV):=f.bind fun f => (szOf P f.2).bind fun sz => if v.fits sz then (splice cs f.1 v.cells).bind fun cs' => fillPV P t r cs' else none
def fillS (P : Program) (t : Nat) (n : Nat) (sz : Option Nat) (v : PV) (r : List (Nat × PV)) (cs : List PV) : Option (List PV):=sz.bind fun sz => if v.fits sz then (splice cs n v.cells).bind (fillPV P t r) else none
def fillT (P : Program) (t : Nat) (r : List (Nat × PV)) (cs : Option (List PV)) : Option (List PV):=cs.bind (fillPV P t r)
def fAddrK (f : Option (Nat × Nat)) (sz : Option Nat) (x : PV) : Option PV:=f.bind fun f => sz.bind fun sz => if sz = 0 then none else match x with
    | .rop cs => some (.rop (cs.drop f.1))
    | .bptr g s ver o => some (.bptr g s ver (o + f.1))
    | .ptr id ver i o => some (.ptr id ver i (o + f.1))
    | _ => none
def fsz (P : Program) (t i : Nat) : Option Nat:=(fieldT P t i).bind fun f => szOf P f.2
def fieldK (P : Program) (f : Option (Nat × Nat)) (x : PV) : Option PV:=f.bind fun f => match x with
    | .agg cs => partPV P f.2 cs f.1
    | _ => none
def partK (a : Option Bool) (sz : Option Nat) (cs : List PV) (off : Nat) : Option PV:=a.bind fun a => sz.bind fun sz => if a then some (.agg ((cs.drop off).take sz)) else cs[off]?
def elsz (P : Program) (t : Nat) : Option Nat:=(sliceT P t).bind (szOf P)
def iAddrK (sz : Option Nat) (x : PV) (i : Option Int) : Option PV:=sz.bind fun sz => i.bind fun k => match x with
      | .vs sz' es _ => if sz' = sz ∧ 0 ≤ k ∧ k < es.length then (es[k.toNat]?).map fun e => .rop e.cells else none
      | .gsl sz' id ver off len => if sz' = sz ∧ 0 ≤ k ∧ k < len then some (.ptr id ver (off + k.toNat) 0) else none
      | _ => none
def aAddrK (n : Nat) (sz : Option Nat) (x : PV) (i : Option Int) : Option PV:=sz.bind fun sz => i.bind fun k => if 0 ≤ k ∧ k < n then match x with
      | .rop cs => some (.rop (cs.drop (k.toNat * sz)))
      | .bptr f s ver o => some (.bptr f s ver (o + k.toNat * sz))
      | .ptr id ver i o => some (.ptr id ver i (o + k.toNat * sz))
      | _ => none
      else none
def xAddrK (P : Program) (sl : Option Nat) (ar : Option (Nat × Nat)) (x : PV) (i : Option Int) : Option PV:=match sl with
  | some e => iAddrK (szOf P e) x i
  | none => ar.bind fun a => aAddrK a.1 (szOf P a.2) x i
def strK (u : Option TypeDesc) (x i : PV) : Option PV:=match u,x,i with
  | some .string,.str s,.int _ k => if 0 ≤ k then (s[k.toNat]?).map fun b => .int .u8 b.toNat else none
  | _,_,_ => none
def idxK (a b : Option PV) : Option PV:=match a with
  | some r => some r
  | none => b
def byteO (x : Option UInt8) : Option PV:=x.map fun b => .int .u8 b.toNat
def indexK (P : Program) (ar : Option (Nat × Nat)) (x i : PV) : Option PV:=ar.bind fun a => (szOf P a.2).bind fun sz => match x,i with
    | .agg cs,.int _ k => if 0 ≤ k ∧ k < a.1 then partPV P a.2 cs (k.toNat * sz) else none
    | _,_ => none
def sliceK (sz : Option Nat) (x : PV) (lo hi mx : Option (Option Int)) : Option PV:=sz.bind fun sz => if sz = 0 then none else lo.bind fun lo => hi.bind fun hi => mx.bind fun mx => slicePV sz lo hi mx x
def extrK (x : PV) (i : Nat) : Option PV:=match x with
  | .tup vs => vs[i]?
  | _ => none
def loadK (ag : Option Bool) (sz : Option Nat) (cs : Option (List PV)) (s : St) : Option OpR:=ag.bind fun ag => sz.bind fun sz => cs.bind fun cs => (ld ag sz cs).map fun v => .val v s
def storeK (sz : Option Nat) (a x : PV) (s : St) : Option OpR:=sz.bind fun sz => if x.fits sz then (putAt s x.cells a).map fun s' => .val (.tup []) s' else none
def nvK (cx : Ctx) (d : Option Nat) (sz : Option Nat) (v : PV) (s : St) : Option OpR:=sz.bind fun sz => newVarV cx d sz v s
def convK (t u : Option TypeDesc) (x : PV) : Option PV:=match t,u,x with
  | some _,some (.int k),.int _ n => some (.int k (k.wrap n))
  | _,_,_ => none
def accK (P : Program) (t : Option Nat) (s : St) : Option OpR:=t.bind fun e => (szOf P e).bind fun sz => some (.val (.gsl sz s.H.next 0 0 0) ⟨s.fid,s.tmps,s.boxes,s.defers,s.H.add (.gro sz [] 0),s.rc⟩)
def accNv (cx : Ctx) (d : Option Nat) (sz : Nat) (s : St) (esz : Option Nat) : Option OpR:=esz.bind fun esz => newVarV cx d sz (.gsl esz s.H.next 0 0 0) ⟨s.fid,s.tmps,s.boxes,s.defers,s.H.add (.gro esz [] 0),s.rc⟩
def allocK (cx : Ctx) (d : Option Nat) (t : Nat) (sz : Option Nat) (z : Option PV) (s : St) : Option OpR:=z.bind fun z => sz.bind fun sz =>
    if dstIn (cx.pol.accs cx.fn) d && isNils z then accNv cx d sz s (elsz cx.P t) else newVarV cx d sz z s
def bslK (mt : Bool) (sz : Option Nat) (z : Option PV) (len : Nat) (ps : List (Nat × PV)) (s : St) : Option OpR:=sz.bind fun sz => z.bind fun z =>
    if z.fits sz ∧ sz ≠ 0 ∧ len * sz ≤ 16777216 then (fillSl sz ps (List.replicate len z)).map fun es =>
      if mt = true then .val (.gsl sz s.H.next len 0 len) { s with H:=s.H.add (.gro sz es 0) } else .val (.vs sz es (some len)) s
    else none
def bslE (P : Program) (mt : Bool) (e : Option Nat) (len : Nat) (ps : List (Nat × PV)) (s : St) : Option OpR:=e.bind fun e => bslK mt (szOf P e) (zeroT P e) len ps s
def bslF (mt : Bool) (sz len : Nat) (s : St) (es : Option (List PV)) : Option OpR:=es.map fun es => if mt = true then .val (.gsl sz s.H.next len 0 len) ⟨s.fid,s.tmps,s.boxes,s.defers,s.H.add (.gro sz es 0),s.rc⟩ else .val (.vs sz es (some len)) s
def mslK (pl : Bool) (sz bytes : Option Nat) (z : Option PV) (l c : PV) (s : St) : Option OpR:=sz.bind fun sz => bytes.bind fun bytes => z.bind fun z => match l,c with
    | .int .i64 n,.int .i64 m => if n = m ∧ 0 ≤ n ∧ n ≤ maxN ∧ bytes ≤ maxB ∧ z.fits sz ∧ sz ≠ 0 then
        if pl = true then some (.val (.vs sz (List.replicate n.toNat z) (some n.toNat)) s) else some (.val (.gsl sz s.H.next n.toNat 0 n.toNat) { s with H:=s.H.add (.gro sz (List.replicate n.toNat z) 0) }) else none
    | _,_ => none
def mslE (P : Program) (pl : Bool) (e : Option Nat) (l c : PV) (s : St) : Option OpR:=e.bind fun e => mslK pl (szOf P e) (bytesT P e) (zeroT P e) l c s
def lookF (s : St) (z : PV) (ok : Bool) (x : Option (Option (Nat × PV))) : Option OpR:=x.map fun r => .val (lookR z ok r) s
def lookW (P : Program) (s : St) (kt : Nat) (z k : PV) (ok : Bool) : Option Row → Option OpR
  | some (.map es) => if keyChk P kt k = true then lookF s z ok (findPV P kt k es 0) else none
  | _ => none
def lookX (P : Program) (s : St) (kt : Nat) (z k : PV) (ok : Bool) : PV → Option OpR
  | .map id => lookW P s kt z k ok (s.H.rows id)
  | _ => none
def lookZ (P : Program) (s : St) (kt : Nat) (z : Option PV) (x k : PV) (ok : Bool) : Option OpR:=z.bind fun z => lookX P s kt z k ok x
def lookE (P : Program) (s : St) (kt : Option (Nat × Nat)) (x k : PV) (ok : Bool) : Option OpR:=kt.bind fun kt => lookZ P s kt.1 (zeroT P kt.2) x k ok
def updF (s : St) (id : Nat) (x : Option (List (PV × PV))) : Option OpR:=x.map fun es => .val (.tup []) ⟨s.fid,s.tmps,s.boxes,s.defers,s.H.set id (.map es),s.rc⟩
def updG (s : St) (id : Nat) (k v : PV) (es : List (PV × PV)) (x : Option (Option (Nat × PV))) : Option OpR:=x.bind fun r => updF s id (updR k v es r)
def updW (P : Program) (s : St) (id kt : Nat) (k v : PV) : Option Row → Option OpR
  | some (.map es) => if keyChk P kt k = true then updG s id k v es (findPV P kt k es 0) else none
  | _ => none
def updX (P : Program) (s : St) (kt : Nat) (k v : PV) : PV → Option OpR
  | .map id => updW P s id kt k v (s.H.rows id)
  | _ => none
def updE (P : Program) (s : St) (kt : Option (Nat × Nat)) (m k v : PV) : Option OpR:=kt.bind fun kt => updX P s kt.1 k v m
def appF2 (s : St) (x : Option (PV × Heap)) : Option OpR:=x.map fun r => .val r.1 ⟨s.fid,s.tmps,s.boxes,s.defers,r.2,s.rc⟩
def appK (sz bytes : Option Nat) (z : Option PV) (x : PV) (es : Option (List PV)) (s : St) : Option OpR:=sz.bind fun sz => bytes.bind fun bytes => es.bind fun es => if sz = 0 ∨ (z.any fun z => z.fits sz) = false then none else appF2 s (appendV sz bytes s.H x es)
def appE (P : Program) (e u : Option Nat) (x : PV) (es : Option (List PV)) (s : St) : Option OpR:=e.bind fun e => u.bind fun _ => appK (szOf P e) (bytesT P e) (zeroT P e) x es s
def lenK (t : Option TypeDesc) (x : PV) : Option PV:=(lenPV t x).map fun n => .int .i64 n
def recK (rd : Bool) (s : St) : Rc → Option OpR
    | .no => if rd = true then none else some (.val .nili s)
    | .pan v => if rd = true then none else some (.val v ⟨s.fid,s.tmps,s.boxes,s.defers,s.H,.done⟩)
    | .done => none
def panK (s : St) : PV → Option OpR
    | .iface t v => some (.pan (.iface t v) s)
    | _ => none
def defK (rd : Bool) (args : List PV) (s : St) : PV → Option OpR
    | .fn f capt => if rd = true then none else some (.val (.tup []) ⟨s.fid,s.tmps,s.boxes,.call f (args ++ capt) :: s.defers,s.H,s.rc⟩)
    | _ => none
def mkiK (t : Nat) (v : PV) : Option TypeDesc → Option PV
    | some (.interface _) | none => none
    | some _ => some (.iface t v)
section
variable (cx : Ctx) (s : St) (d : Option Nat) (ty : Nat) (pos : String) (aft : Array Edge) (g : Option (Nat × Bool)) (x y z : Operand)
theorem op_move : opV G cx ⟨d,.move x,ty,pos,aft,g⟩ s = some (.val (evS s x) s):=rfl
theorem op_assign : opV G cx ⟨d,.assign x,ty,pos,aft,g⟩ s = if (dstIn (cx.pol.accs cx.fn) d && isNils (evS s x)) = true then accK cx.P (sliceT cx.P ty) s else some (.val (evS s x) s):=rfl
theorem op_pick : opV G cx ⟨d,.pick x y z,ty,pos,aft,g⟩ s = valO s (pickK (evS s x) (evS s y) (evS s z)):=by
  simp only [opV,pureOp,valO,pickK]; rfl
theorem op_build (t : Nat) (ps : Array (Nat × Operand)) : opV G cx ⟨d,.build t ps,ty,pos,aft,g⟩ s = valO s (buildK cx.P (structOK cx.P t) t (zeroT cx.P t) (ps.toList.map fun (i,x) => (i,evS s x))):=rfl
theorem op_bin (op : BinOp) (t u : Nat) : opV G cx ⟨d,.binOp op t x y u,ty,pos,aft,g⟩ s = valO s (binPV cx.P op t x y (evS s x) (evS s y)):=rfl
theorem op_un (op : UnOp) (t : Nat) : opV G cx ⟨d,.unOp op t x,ty,pos,aft,g⟩ s = valO s (unPV op (evS s x)):=rfl
theorem op_convert (t u : Nat) : opV G cx ⟨d,.convert t u x,ty,pos,aft,g⟩ s = valO s (convK (cx.P.underlying t) (cx.P.underlying u) (evS s x)):=by
  have e : opV G cx ⟨d,.convert t u x,ty,pos,aft,g⟩ s = valO s (if (cx.P.underlying t).isSome = true then convPV cx.P u (evS s x) else none):=rfl
  rw [e]
  cases h : cx.P.underlying t with
  | none => simp [convK,valO]
  | some a =>
    simp only [Option.isSome_some,if_true]
    congr 1
    cases evS s x <;> simp only [convPV,convK] <;> (cases hu : cx.P.underlying u with
      | none => rfl
      | some b => cases b <;> rfl)
theorem op_fieldAddr (t i : Nat) : opV G cx ⟨d,.fieldAddr t x i,ty,pos,aft,g⟩ s = valO s (fAddrK (fieldT cx.P t i) (fsz cx.P t i) (evS s x)):=by
  simp only [opV,pureOp,valO,fAddrK,fsz]
  cases fieldT cx.P t i <;> rfl
theorem op_field (t i : Nat) : opV G cx ⟨d,.field t x i,ty,pos,aft,g⟩ s = valO s (fieldK cx.P (fieldT cx.P t i) (evS s x)):=by
  simp only [opV,pureOp,valO,fieldK]
  cases h : fieldT cx.P t i with
  | none => rfl
  | some f => simp only [Option.bind_some]; rfl
theorem op_index (t : Nat) : opV G cx ⟨d,.index t x y,ty,pos,aft,g⟩ s = valO s (idxK (strK (cx.P.underlying t) (evS s x) (evS s y)) (indexK cx.P (arrT cx.P t) (evS s x) (evS s y))):=by
  have e : strIx cx.P t (evS s x) (evS s y) = strK (cx.P.underlying t) (evS s x) (evS s y):=rfl
  simp only [opV,pureOp,valO,indexK,e]
  cases strK (cx.P.underlying t) (evS s x) (evS s y) with
  | some r => rfl
  | none => cases arrT cx.P t with
    | none => rfl
    | some a => obtain ⟨n,e⟩:=a; rfl
theorem op_indexAddr (t : Nat) : opV G cx ⟨d,.indexAddr t x y,ty,pos,aft,g⟩ s = valO s (xAddrK cx.P (sliceT cx.P t) (arrT cx.P t) (evS s x) (idx (evS s y))):=by
  simp only [opV,pureOp,valO,xAddrK]
  cases sliceT cx.P t with
  | none => cases arrT cx.P t with
    | none => rfl
    | some a => obtain ⟨n,e⟩:=a; rfl
  | some e => rfl
theorem op_slice (t : Nat) (lo hi mx : Option Operand) : opV G cx ⟨d,.slice t x lo hi mx,ty,pos,aft,g⟩ s = valO s (sliceK (elsz cx.P t) (evS s x) (optIdx (evS s) lo) (optIdx (evS s) hi) (optIdx (evS s) mx)):=by
  simp only [opV,pureOp,valO,sliceK,elsz]
  cases sliceT cx.P t <;> rfl
theorem op_extract (i : Nat) : opV G cx ⟨d,.extract x i,ty,pos,aft,g⟩ s = valO s (extrK (evS s x) i):=rfl
theorem op_load (t : Nat) : opV G cx ⟨d,.load t x,ty,pos,aft,g⟩ s = loadK (aggT cx.P t) (szOf cx.P t) (getAt s (evS s x)) s:=rfl
theorem op_store (t : Nat) : opV G cx ⟨d,.store t x y,ty,pos,aft,g⟩ s = storeK (szOf cx.P t) (evS s x) (evS s y) s:=rfl
theorem op_box (t : Nat) : opV G cx ⟨d,.box t x,ty,pos,aft,g⟩ s = nvK cx d (szOf cx.P t) (evS s x) s:=rfl
theorem op_alloc (t : Nat) : opV G cx ⟨d,.alloc t,ty,pos,aft,g⟩ s = allocK cx d t (szOf cx.P t) (zeroT cx.P t) s:=by
  simp only [opV,allocK,elsz,accNv]
  congr 1; funext z; congr 1; funext sz
  split
  · cases sliceT cx.P t <;> rfl
  · rfl
theorem op_buildSlice (t len : Nat) (ps : Array (Nat × Operand)) : opV G cx ⟨d,.buildSlice t len ps,ty,pos,aft,g⟩ s = bslE cx.P (dstIn (cx.pol.muts cx.fn) d) (sliceT cx.P t) len (ps.toList.map fun (i,x) => (i,evS s x)) s:=rfl
theorem op_makeSlice (t : Nat) : opV G cx ⟨d,.makeSlice t x y,ty,pos,aft,g⟩ s = mslE cx.P (dstPl (cx.pol.heap cx.fn) d) (sliceT cx.P t) (evS s x) (evS s y) s:=rfl
theorem op_makeMap (t : Nat) : opV G cx ⟨d,.makeMap t none,ty,pos,aft,g⟩ s = some (.val (.map s.H.next) ⟨s.fid,s.tmps,s.boxes,s.defers,s.H.add (.map []),s.rc⟩):=rfl
theorem op_lookup (t : Nat) (ok : Bool) : opV G cx ⟨d,.lookup t x y ok,ty,pos,aft,g⟩ s = lookE cx.P s (mapT cx.P t) (evS s x) (evS s y) ok:=by
  simp only [opV,lookE,lookZ]
  congr 1
theorem op_mapUpdate (t : Nat) : opV G cx ⟨d,.mapUpdate t x y z,ty,pos,aft,g⟩ s = updE cx.P s (mapT cx.P t) (evS s x) (evS s y) (evS s z):=by
  simp only [opV,updE]
  congr 1
theorem op_insert (t : Nat) : opV G cx ⟨d,.insert t x y z,ty,pos,aft,g⟩ s = updE cx.P s (mapT cx.P t) (evS s x) (evS s y) (evS s z):=by
  simp only [opV,updE]
  congr 1
def nilCK (s : St) : PV → Option OpR
  | .rop cs => some (.val (.rop cs) s)
  | .bptr a b c d => some (.val (.bptr a b c d) s)
  | .ptr a b c d => some (.val (.ptr a b c d) s)
  | _ => none
theorem op_nilCheck : opV G cx ⟨d,.nilCheck x,ty,pos,aft,g⟩ s = nilCK s (evS s x):=by
  simp only [opV,pureOp]
  cases evS s x <;> rfl
theorem nilCK_rop (s : St) (cs : List PV) : nilCK s (.rop cs) = some (.val (.rop cs) s):=rfl
theorem nilCK_bptr (s : St) (a b c d : Nat) : nilCK s (.bptr a b c d) = some (.val (.bptr a b c d) s):=rfl
theorem nilCK_ptr (s : St) (a b c d : Nat) : nilCK s (.ptr a b c d) = some (.val (.ptr a b c d) s):=rfl
theorem op_makeInterface (t : Nat) : opV G cx ⟨d,.makeInterface t x,ty,pos,aft,g⟩ s = valO s (mkiK t (evS s x) (cx.P.underlying t)):=by
  simp only [opV,pureOp,valO]
  cases cx.P.underlying t with
  | none => rfl
  | some d => cases d <;> rfl
theorem op_makeFunc (f : Nat) (capt : Array Operand) : opV G cx ⟨d,.makeFunc (.func f) #[] capt,ty,pos,aft,g⟩ s = some (.val (.fn f (capt.toList.map (evS s))) s):=rfl
theorem op_makeBound (f : Nat) : opV G cx ⟨d,.makeFunc (.func f) #[x] #[],ty,pos,aft,g⟩ s = some (.val (.bnd f [evS s x]) s):=rfl
theorem op_len (t : Nat) : opV G cx ⟨d,.call ⟨.builtin .len,#[x],#[t]⟩,ty,pos,aft,g⟩ s = valO s (lenK (cx.P.underlying t) (evS s x)):=rfl
theorem op_max (args : Array Operand) (ts : Array Nat) : opV G cx ⟨d,.call ⟨.builtin .max,args,ts⟩,ty,pos,aft,g⟩ s = valO s (foldPV (fun x y => if y > x then y else x) (args.toList.map (evS s))):=rfl
theorem op_min (args : Array Operand) (ts : Array Nat) : opV G cx ⟨d,.call ⟨.builtin .min,args,ts⟩,ty,pos,aft,g⟩ s = valO s (foldPV (fun x y => if y < x then y else x) (args.toList.map (evS s))):=rfl
theorem op_recover (args : Array Operand) (ts : Array Nat) : opV G cx ⟨d,.call ⟨.builtin .recover,args,ts⟩,ty,pos,aft,g⟩ s = recK cx.round.isSome s s.rc:=by
  simp only [opV,recK]
  cases s.rc with
  | done => simp
  | _ => rfl
theorem opw_panic : opV G cx ⟨d,.panic x,ty,pos,aft,g⟩ s = panK s (evS s x):=by
  simp only [opV,panK]; rfl
theorem opw_defer (f : Operand) (args : Array Operand) (ts : Array Nat) : opV G cx ⟨d,.defer ⟨.value f,args,ts⟩,ty,pos,aft,g⟩ s = defK cx.round.isSome (args.toList.map (evS s)) s (evS s f):=by
  simp only [opV,defK]
  cases evS s f <;> simp
theorem op_append (t u : Nat) : opV G cx ⟨d,.call ⟨.builtin .append,#[x,y],#[t,u]⟩,ty,pos,aft,g⟩ s = appE cx.P (sliceT cx.P t) (sliceT cx.P u) (evS s x) (elemsOf s.H (evS s y)) s:=by
  simp only [opV,appE,appK,appF2]
theorem op_call (f : Operand) (args : Array Operand) (ts : Array Nat) : opV G cx ⟨d,.call ⟨.value f,args,ts⟩,ty,pos,aft,g⟩ s = callV G cx (evS s f) (args.toList.map (evS s)) s:=rfl
variable (p : Prop) [Decidable p]
theorem valO_some (v : PV) : valO s (some v) = some (.val v s):=rfl
theorem valO_none : valO s none = none:=rfl
theorem valO_ite (x y : Option PV) : valO s (if p then x else y) = if p then valO s x else valO s y:=by split <;> rfl
theorem pickK_true (x y : PV) : pickK (.bool true) x y = some x:=rfl
theorem pickK_false (x y : PV) : pickK (.bool false) x y = some y:=rfl
theorem pickK_dec (x y : PV) : pickK (.bool (decide p)) x y = if p then some x else some y:=by simp only [pickK,decide_eq_true_eq]; split <;> rfl
theorem buildK_some (P : Program) (t : Nat) (z : PV) (ps : List (Nat × PV)) : buildK P true t (some z) ps = aggO (fillPV P t ps z.cells):=rfl
theorem aggO_some (cs : List PV) : aggO (some cs) = some (.agg cs):=rfl
theorem fillPV_nil (P : Program) (t : Nat) (cs : List PV) : fillPV P t [] cs = some cs:=rfl
theorem fillPV_cons (P : Program) (t i : Nat) (v : PV) (r : List (Nat × PV)) (cs : List PV) : fillPV P t ((i,v) :: r) cs = fillK P t (partT P t i) v r cs:=rfl
theorem fillK_some (P : Program) (t n ft : Nat) (v : PV) (r : List (Nat × PV)) (cs : List PV) : fillK P t (some (n,ft)) v r cs = fillS P t n (szOf P ft) v r cs:=rfl
theorem fillS_some (P : Program) (t n sz : Nat) (v : PV) (r : List (Nat × PV)) (cs : List PV) : fillS P t n (some sz) v r cs = if v.fits sz = true then fillT P t r (splice cs n v.cells) else none:=rfl
theorem fillT_some (P : Program) (t : Nat) (r : List (Nat × PV)) (cs : List PV) : fillT P t r (some cs) = fillPV P t r cs:=rfl
theorem fAddrK_bptr (o ft sz f t ver b : Nat) : fAddrK (some (o,ft)) (some (sz + 1)) (.bptr f t ver b) = some (.bptr f t ver (b + o)):=by simp [fAddrK]
theorem fAddrK_ptr (o ft sz id ver i b : Nat) : fAddrK (some (o,ft)) (some (sz + 1)) (.ptr id ver i b) = some (.ptr id ver i (b + o)):=by simp [fAddrK]
theorem fAddrK_rop (o ft sz : Nat) (cs : List PV) : fAddrK (some (o,ft)) (some (sz + 1)) (.rop cs) = some (.rop (cs.drop o)):=by simp [fAddrK]
theorem fieldK_agg (P : Program) (o ft : Nat) (cs : List PV) : fieldK P (some (o,ft)) (.agg cs) = partK (aggT P ft) (szOf P ft) cs o:=rfl
theorem partK_agg (sz off : Nat) (cs : List PV) : partK (some true) (some sz) cs off = some (.agg ((cs.drop off).take sz)):=rfl
theorem partK_one (sz off : Nat) (cs : List PV) : partK (some false) (some sz) cs off = cs[off]?:=rfl
theorem xAddrK_slice (P : Program) (e : Nat) (ar : Option (Nat × Nat)) (x : PV) (i : Option Int) : xAddrK P (some e) ar x i = iAddrK (szOf P e) x i:=rfl
theorem xAddrK_arr (P : Program) (n e : Nat) (x : PV) (i : Option Int) : xAddrK P none (some (n,e)) x i = aAddrK n (szOf P e) x i:=rfl
def rowC (x : Option PV) : Option PV:=x.map fun e => .rop e.cells
theorem rowC_some (x : PV) : rowC (some x) = some (.rop x.cells):=rfl
theorem iAddrK_vs (sz n : Nat) (es : List PV) (cap : Option Nat) (k : Int) : iAddrK (some sz) (.vs n es cap) (some k) = if n = sz ∧ 0 ≤ k ∧ k < es.length then rowC es[k.toNat]? else none:=rfl
theorem iAddrK_gsl (sz n id ver off len : Nat) (k : Int) : iAddrK (some sz) (.gsl n id ver off len) (some k) = if n = sz ∧ 0 ≤ k ∧ k < len then some (.ptr id ver (off + k.toNat) 0) else none:=rfl
theorem iAddrK_nils (sz : Option Nat) (k : Option Int) : iAddrK sz .nils k = none:=by cases sz <;> cases k <;> rfl
theorem aAddrK_bptr (n sz f t ver b : Nat) (k : Int) : aAddrK n (some sz) (.bptr f t ver b) (some k) = if 0 ≤ k ∧ k < n then some (.bptr f t ver (b + k.toNat * sz)) else none:=rfl
theorem aAddrK_ptr (n sz id ver j b : Nat) (k : Int) : aAddrK n (some sz) (.ptr id ver j b) (some k) = if 0 ≤ k ∧ k < n then some (.ptr id ver j (b + k.toNat * sz)) else none:=rfl
theorem aAddrK_rop (n sz : Nat) (cs : List PV) (k : Int) : aAddrK n (some sz) (.rop cs) (some k) = if 0 ≤ k ∧ k < n then some (.rop (cs.drop (k.toNat * sz))) else none:=rfl
theorem idx_int (k : IntKind) (n : Int) : idx (.int k n) = some n:=rfl
theorem loadK_agg (n : Nat) (cs : List PV) : loadK (some true) (some n) (some cs) s = if n ≤ cs.length then some (.val (.agg (cs.take n)) s) else none:=by
  simp only [loadK,Option.bind_some,ld,if_true]; split <;> rfl
theorem loadK_one (n : Nat) (v : PV) (cs : List PV) : loadK (some false) (some n) (some (v :: cs)) s = some (.val v s):=rfl
theorem nvK_some (n : Nat) (dd : Option Nat) (v : PV) : nvK cx dd (some n) v s = newVarV cx dd n v s:=rfl
def nextVer : Option (Nat × List PV) → Nat
  | some (n,_) => n + 1
  | none => 0
theorem nextVer_none : nextVer none = 0:=rfl
theorem nextVer_some (n : Nat) (cs : List PV) : nextVer (some (n,cs)) = n + 1:=rfl
theorem newVar_some (n e : Nat) (v : PV) : newVarV cx (some e) n v s = if v.fits n = true then (if (cx.pol.heap cx.fn).contains e = true then some (.val (.ptr s.H.next 1 0 0) ⟨s.fid,s.tmps,s.boxes,s.defers,s.H.add (.gro n [v] 0),s.rc⟩)
      else if (cx.pol.heap cx.fn).contains (e + 1000000) = true then some (.val (.rop v.cells) s) else some (.val (.bptr s.fid e (nextVer (s.boxes e)) 0) ⟨s.fid,s.tmps,upd s.boxes e (some (nextVer (s.boxes e),v.cells)),s.defers,s.H,s.rc⟩)) else none:=by
  simp only [newVarV]; rfl
theorem allocK_some (n t : Nat) (dd : Option Nat) (v : PV) : allocK cx dd t (some n) (some v) s = if (dstIn (cx.pol.accs cx.fn) dd && isNils v) = true then accNv cx dd n s (elsz cx.P t) else newVarV cx dd n v s:=rfl
theorem accNv_some (n e : Nat) (dd : Option Nat) : accNv cx dd n s (some e) = newVarV cx dd n (.gsl e s.H.next 0 0 0) ⟨s.fid,s.tmps,s.boxes,s.defers,s.H.add (.gro e [] 0),s.rc⟩:=rfl
def accK2 (s : St) (sz : Option Nat) : Option OpR:=sz.bind fun sz => some (.val (.gsl sz s.H.next 0 0 0) ⟨s.fid,s.tmps,s.boxes,s.defers,s.H.add (.gro sz [] 0),s.rc⟩)
theorem accK_some (P : Program) (e : Nat) : accK P (some e) s = accK2 s (szOf P e):=rfl
theorem accK2_some (n : Nat) : accK2 s (some n) = some (.val (.gsl n s.H.next 0 0 0) ⟨s.fid,s.tmps,s.boxes,s.defers,s.H.add (.gro n [] 0),s.rc⟩):=rfl
theorem extrK_tup (vs : List PV) (i : Nat) : extrK (.tup vs) i = vs[i]?:=rfl
theorem extrK_ite (x y : PV) (i : Nat) : extrK (if p then x else y) i = if p then extrK x i else extrK y i:=by split <;> rfl
theorem convK_int (t : TypeDesc) (k k' : IntKind) (n : Int) : convK (some t) (some (.int k)) (.int k' n) = some (.int k (k.wrap n)):=rfl
theorem bslE_some (P : Program) (mt : Bool) (e len : Nat) (ps : List (Nat × PV)) : bslE P mt (some e) len ps s = bslK mt (szOf P e) (zeroT P e) len ps s:=rfl
theorem bslK_some (mt : Bool) (sz len : Nat) (z : PV) (ps : List (Nat × PV)) : bslK mt (some sz) (some z) len ps s = if z.fits sz = true ∧ sz ≠ 0 ∧ len * sz ≤ 16777216 then bslF mt sz len s (fillSl sz ps (List.replicate len z)) else none:=rfl
theorem bslF_t (sz len : Nat) (es : List PV) : bslF true sz len s (some es) = some (.val (.gsl sz s.H.next len 0 len) ⟨s.fid,s.tmps,s.boxes,s.defers,s.H.add (.gro sz es 0),s.rc⟩):=rfl
theorem bslF_f (sz len : Nat) (es : List PV) : bslF false sz len s (some es) = some (.val (.vs sz es (some len)) s):=rfl
theorem fillSl_nil (sz : Nat) (es : List PV) : fillSl sz [] es = some es:=rfl
theorem fillSl_cons (sz i : Nat) (v : PV) (r : List (Nat × PV)) (es : List PV) : fillSl sz ((i,v) :: r) es = if v.fits sz = true ∧ i < es.length then fillSl sz r (es.set i v) else none:=rfl
theorem lookE_some (P : Program) (a b : Nat) (x k : PV) (ok : Bool) : lookE P s (some (a,b)) x k ok = lookZ P s a (zeroT P b) x k ok:=rfl
theorem lookZ_some (P : Program) (a : Nat) (z x k : PV) (ok : Bool) : lookZ P s a (some z) x k ok = lookX P s a z k ok x:=rfl
theorem lookX_map (P : Program) (a id : Nat) (z k : PV) (ok : Bool) : lookX P s a z k ok (.map id) = lookW P s a z k ok (s.H.rows id):=rfl
theorem lookW_some (P : Program) (a : Nat) (z k : PV) (ok : Bool) (es : List (PV × PV)) : lookW P s a z k ok (some (.map es)) = if keyChk P a k = true then lookF s z ok (findPV P a k es 0) else none:=rfl
theorem lookF_some (z : PV) (ok : Bool) (r : Option (Nat × PV)) : lookF s z ok (some r) = some (.val (lookR z ok r) s):=rfl
theorem lookR_some (z v : PV) (i : Nat) : lookR z true (some (i,v)) = .tup [v,.bool true] ∧ lookR z false (some (i,v)) = v:=⟨rfl,rfl⟩
theorem lookR_none (z : PV) : lookR z true none = .tup [z,.bool false] ∧ lookR z false none = z:=⟨rfl,rfl⟩
theorem updE_some (P : Program) (a b : Nat) (m k v : PV) : updE P s (some (a,b)) m k v = updX P s a k v m:=rfl
theorem updX_map (P : Program) (a id : Nat) (k v : PV) : updX P s a k v (.map id) = updW P s id a k v (s.H.rows id):=rfl
theorem updW_some (P : Program) (a id : Nat) (k v : PV) (es : List (PV × PV)) : updW P s id a k v (some (.map es)) = if keyChk P a k = true then updG s id k v es (findPV P a k es 0) else none:=rfl
theorem updG_some (id : Nat) (k v : PV) (es : List (PV × PV)) (r : Option (Nat × PV)) : updG s id k v es (some r) = updF s id (updR k v es r):=rfl
theorem updF_some (id : Nat) (es : List (PV × PV)) : updF s id (some es) = some (.val (.tup []) ⟨s.fid,s.tmps,s.boxes,s.defers,s.H.set id (.map es),s.rc⟩):=rfl
theorem mslE_some (P : Program) (pl : Bool) (e : Nat) (l c : PV) : mslE P pl (some e) l c s = mslK pl (szOf P e) (bytesT P e) (zeroT P e) l c s:=rfl
theorem mslK_some (pl : Bool) (sz bytes : Nat) (z : PV) (n m : Int) : mslK pl (some sz) (some bytes) (some z) (.int .i64 n) (.int .i64 m) s = if n = m ∧ 0 ≤ n ∧ n ≤ maxN ∧ bytes ≤ maxB ∧ z.fits sz = true ∧ sz ≠ 0 then
        if pl = true then some (.val (.vs sz (List.replicate n.toNat z) (some n.toNat)) s) else some (.val (.gsl sz s.H.next n.toNat 0 n.toNat) ⟨s.fid,s.tmps,s.boxes,s.defers,s.H.add (.gro sz (List.replicate n.toNat z) 0),s.rc⟩) else none:=rfl
theorem appE_some (P : Program) (e u : Nat) (x : PV) (es : Option (List PV)) : appE P (some e) (some u) x es s = appK (szOf P e) (bytesT P e) (zeroT P e) x es s:=rfl
theorem appK_some (sz bytes : Nat) (z x : PV) (es : List PV) : appK (some sz) (some bytes) (some z) x (some es) s = if sz = 0 ∨ z.fits sz = false then none else appF2 s (appendV sz bytes s.H x es):=by simp [appK]
theorem appF2_some (v : PV) (h : Heap) : appF2 s (some (v,h)) = some (.val v ⟨s.fid,s.tmps,s.boxes,s.defers,h,s.rc⟩):=rfl
theorem elemsOf_nils (H : Heap) : elemsOf H .nils = some []:=rfl
theorem elemsOf_vs (H : Heap) (sz : Nat) (es : List PV) (c : Option Nat) : elemsOf H (.vs sz es c) = some es:=rfl
theorem elemsOf_gsl (H : Heap) (sz id ver off len : Nat) : elemsOf H (.gsl sz id ver off len) = rowEs H id ver off len:=rfl
def appG (sz sz0 bytes : Nat) (H : Heap) (id ver len : Nat) (es : List PV) : Option Row → Option (PV × Heap)
  | some (.gro sz' es0 frz) => if es0.length = ver ∧ len = ver ∧ sz' = sz ∧ sz0 = sz ∧ ver + es.length ≤ 67108864 ∧ bytes ≤ 65536 then
          (if es.isEmpty = true then some (.gsl sz0 id ver 0 len,H) else some (.gsl sz id (ver + es.length) 0 (ver + es.length),H.set id (.gro sz (es0 ++ es) frz))) else none
  | _ => none
theorem appendV_gsl (sz bytes : Nat) (H : Heap) (sz0 id ver len : Nat) (es : List PV) : appendV sz bytes H (.gsl sz0 id ver 0 len) es = if (es.all fun e => e.fits sz) = true then appG sz sz0 bytes H id ver len es (H.rows id) else none:=by
  simp only [appendV,appG,maxN,maxB]
  cases H.rows id with
  | none => rfl
  | some r => cases r <;> rfl
theorem appG_some (sz sz0 bytes : Nat) (H : Heap) (id ver len : Nat) (es : List PV) (sz' frz : Nat) (es0 : List PV) : appG sz sz0 bytes H id ver len es (some (.gro sz' es0 frz)) = if es0.length = ver ∧ len = ver ∧ sz' = sz ∧ sz0 = sz ∧ ver + es.length ≤ 67108864 ∧ bytes ≤ 65536 then
          (if es.isEmpty = true then some (.gsl sz0 id ver 0 len,H) else some (.gsl sz id (ver + es.length) 0 (ver + es.length),H.set id (.gro sz (es0 ++ es) frz))) else none:=rfl
theorem appendV_nils (sz bytes : Nat) (H : Heap) (es : List PV) : appendV sz bytes H .nils es = if (es.all fun e => e.fits sz) = true then (if es.length ≤ 67108864 ∧ bytes ≤ 65536 then (if es.isEmpty = true then some (.nils,H) else some (.gsl sz H.next es.length 0 es.length,H.add (.gro sz es 0))) else none) else none:=rfl
theorem appendV_vs (sz bytes : Nat) (H : Heap) (sz' : Nat) (es0 : List PV) (c : Nat) (es : List PV) : appendV sz bytes H (.vs sz' es0 (some c)) es = if (es.all fun e => e.fits sz) = true then (if c = es0.length ∧ (sz' = sz ∨ es0 = []) ∧ es0.length + es.length ≤ 67108864 ∧ bytes ≤ 65536 then
        (if es.isEmpty = true then some (.vs sz' es0 (some c),H) else some (.gsl sz H.next (es0 ++ es).length 0 (es0 ++ es).length,H.add (.gro sz (es0 ++ es) 0))) else none) else none:=rfl
theorem lenK_vs (e : TypeId) (sz : Nat) (es : List PV) (c : Option Nat) : lenK (some (.slice e)) (.vs sz es c) = some (.int .i64 es.length):=rfl
theorem lenK_gsl (e : TypeId) (sz id ver off len : Nat) : lenK (some (.slice e)) (.gsl sz id ver off len) = some (.int .i64 len):=rfl
theorem lenK_nils (e : TypeId) : lenK (some (.slice e)) .nils = some (.int .i64 0):=rfl
theorem lenK_str (b : ByteArray) : lenK (some .string) (.str b) = some (.int .i64 b.size):=rfl
theorem recK_no : recK false s .no = some (.val .nili s):=rfl
theorem recK_pan (v : PV) : recK false s (.pan v) = some (.val v ⟨s.fid,s.tmps,s.boxes,s.defers,s.H,.done⟩):=rfl
theorem panK_iface (t : TypeId) (v : PV) : panK s (.iface t v) = some (.pan (.iface t v) s):=rfl
theorem defK_fn (args : List PV) (f : Nat) (capt : List PV) : defK false args s (.fn f capt) = some (.val (.tup []) ⟨s.fid,s.tmps,s.boxes,.call f (args ++ capt) :: s.defers,s.H,s.rc⟩):=rfl
theorem idxK_some (r : PV) (b : Option PV) : idxK (some r) b = some r:=rfl
theorem idxK_none (b : Option PV) : idxK none b = b:=rfl
theorem byteO_some (b : UInt8) : byteO (some b) = some (.int .u8 b.toNat):=rfl
theorem strK_str (b : ByteArray) (k : IntKind) (n : Int) : strK (some .string) (.str b) (.int k n) = if 0 ≤ n then byteO (b[n.toNat]?) else none:=rfl
theorem strK_agg (u : Option TypeDesc) (cs : List PV) (i : PV) : strK u (.agg cs) i = none:=by
  cases u with
  | none => rfl
  | some u => cases u <;> rfl
theorem sliceK_some (sz : Nat) (x : PV) (lo hi mx : Option Int) : sliceK (some sz) x (some lo) (some hi) (some mx) = if sz = 0 then none else slicePV sz lo hi mx x:=rfl
theorem optIdx_none (ev : Operand → PV) : optIdx ev none = some none:=rfl
def someO (x : Option Int) : Option (Option Int):=x.map some
theorem optIdx_some (ev : Operand → PV) (o : Operand) : optIdx ev (some o) = someO (idx (ev o)):=rfl
theorem someO_some (n : Int) : someO (some n) = some (some n):=rfl
theorem slicePV_vs (sz0 sz : Nat) (lo hi mx : Option Int) (es : List PV) (cap : Option Nat) : slicePV sz0 lo hi mx (.vs sz es cap) =
    if sz = sz0 ∧ (mx.isSome → hi.isSome) ∧ 0 ≤ lo.getD 0 ∧ lo.getD 0 ≤ hi.getD es.length ∧ hi.getD es.length ≤ mx.getD (hi.getD es.length) ∧ mx.getD (hi.getD es.length) ≤ es.length then some (.vs sz ((es.take (hi.getD es.length).toNat).drop (lo.getD 0).toNat) (match mx with | some m => if es.isEmpty && cap.isNone then none else some (m - lo.getD 0).toNat | none => cap.map (· - (lo.getD 0).toNat))) else none:=rfl
theorem slicePV_gsl (sz0 sz id ver off len : Nat) (lo hi mx : Option Int) : slicePV sz0 lo hi mx (.gsl sz id ver off len) =
    if sz = sz0 ∧ mx.isNone ∧ 0 ≤ lo.getD 0 ∧ lo.getD 0 ≤ hi.getD len ∧ hi.getD len ≤ len then some (if lo.getD 0 = hi.getD len then .vs sz [] none else .gsl sz id ver (off + (lo.getD 0).toNat) (hi.getD len - lo.getD 0).toNat) else none:=rfl
end
noncomputable def ap (P : Program) (pol : Pol) (f : Nat) (args : List PV) : Option CR:=(callF G P pol f args .empty).map fun r => match r.1 with
  | .ret v => .ret (strip2 r.2 v)
  | .pan v => .pan (strip0 v)
def apK (s : St) (H : Heap) (x : Option CR) : Option OpR:=x.map fun r => match r with
  | .ret v => .val v ⟨s.fid,s.tmps,s.boxes,s.defers,H,s.rc⟩
  | .pan v => .pan v ⟨s.fid,s.tmps,s.boxes,s.defers,H,s.rc⟩
theorem apK_ret (s : St) (H : Heap) (v : PV) : apK s H (some (.ret v)) = some (.val v ⟨s.fid,s.tmps,s.boxes,s.defers,H,s.rc⟩):=rfl
theorem apK_pan (s : St) (H : Heap) (v : PV) : apK s H (some (.pan v)) = some (.pan v ⟨s.fid,s.tmps,s.boxes,s.defers,H,s.rc⟩):=rfl
theorem apK_ite (s : St) (H : Heap) (p : Prop) [Decidable p] (x y : Option CR) : apK s H (if p then x else y) = if p then apK s H x else apK s H y:=by split <;> rfl
def cfK (s : St) (x : Option (CR × Heap)) : Option OpR:=x.map fun r => match r.1 with
  | .ret v => .val v ⟨s.fid,s.tmps,s.boxes,s.defers,r.2,s.rc⟩
  | .pan v => .pan v ⟨s.fid,s.tmps,s.boxes,s.defers,r.2,s.rc⟩
theorem cfK_ret (s : St) (H : Heap) (v : PV) : cfK s (some (.ret v,H)) = some (.val v ⟨s.fid,s.tmps,s.boxes,s.defers,H,s.rc⟩):=rfl
theorem cfK_pan (s : St) (H : Heap) (v : PV) : cfK s (some (.pan v,H)) = some (.pan v ⟨s.fid,s.tmps,s.boxes,s.defers,H,s.rc⟩):=rfl
theorem cfK_ite (s : St) (p : Prop) [Decidable p] (x y : Option (CR × Heap)) : cfK s (if p then x else y) = if p then cfK s x else cfK s y:=by split <;> rfl
noncomputable def argK (cx : Ctx) (f : Nat) (s : St) (a : List PV × Heap) (capt : List PV) : Option OpR:=apK s a.2 (ap cx.P cx.pol f (a.1 ++ capt))
noncomputable def callK (cx : Ctx) (iso : Bool) (f : Nat) (capt args : List PV) (s : St) : Option OpR:=
  if iso = true then argK cx f s (freezeArgs s.H args) (capt.map strip0) else cfK s (callF G cx.P cx.pol f (args ++ capt) s.H)
theorem callV_fn (cx : Ctx) (f : Nat) (capt args : List PV) (s : St) : callV G cx (.fn f capt) args s = callK cx (cx.pol.iso f) f capt args s:=by
  simp only [callV,callK,argK,ap,apK,cfK]
  split
  · cases callF G cx.P cx.pol f ((freezeArgs s.H args).1 ++ capt.map strip0) Heap.empty with
    | none => rfl
    | some r => obtain ⟨a,b⟩:=r; cases a <;> rfl
  · cases callF G cx.P cx.pol f (args ++ capt) s.H with
    | none => rfl
    | some r => obtain ⟨a,b⟩:=r; cases a <;> rfl
theorem callV_bnd (cx : Ctx) (f : Nat) (first args : List PV) (s : St) : callV G cx (.bnd f first) args s = if cx.pol.iso f = true then none else cfK s (callF G cx.P cx.pol f (first ++ args) s.H):=by
  simp only [callV,cfK]
  split
  · rfl
  · cases callF G cx.P cx.pol f (first ++ args) s.H with
    | none => rfl
    | some r => obtain ⟨a,b⟩:=r; cases a <;> rfl
theorem callV_yield (cx : Ctx) (l : Nat) (args : List PV) (s : St) : callV G cx (.yield l) args s = cfK s (yieldF G cx.P cx.pol l args s.H):=by
  simp only [callV,cfK]
  cases yieldF G cx.P cx.pol l args s.H with
  | none => rfl
  | some r => obtain ⟨a,b⟩:=r; cases a <;> rfl
theorem callK_iso (cx : Ctx) (f : Nat) (capt args : List PV) (s : St) : callK cx true f capt args s = argK cx f s (freezeArgs s.H args) (capt.map strip0):=rfl
theorem callK_in (cx : Ctx) (f : Nat) (capt args : List PV) (s : St) : callK cx false f capt args s = cfK s (callF G cx.P cx.pol f (args ++ capt) s.H):=rfl
theorem argK_mk (cx : Ctx) (f : Nat) (s : St) (a : List PV) (H : Heap) (capt : List PV) : argK cx f s (a,H) capt = apK s H (ap cx.P cx.pol f (a ++ capt)):=rfl
def consA (x : PV × Heap) (r : List PV) : List PV × Heap:=(x.1 :: (freezeArgs x.2 r).1,(freezeArgs x.2 r).2)
def consB (x : PV) (r : List PV × Heap) : List PV × Heap:=(x :: r.1,r.2)
theorem freezeArgs_nil (H : Heap) : freezeArgs H [] = ([],H):=rfl
theorem freezeArgs_cons (H : Heap) (v : PV) (r : List PV) : freezeArgs H (v :: r) = consA (freezeArg H v) r:=rfl
theorem consA_mk (v : PV) (H : Heap) (r : List PV) : consA (v,H) r = consB v (freezeArgs H r):=rfl
theorem consB_mk (v : PV) (l : List PV) (H : Heap) : consB v (l,H) = (v :: l,H):=rfl
def strip0L : List PV → List PV:=stripW.go fun _ _ _ _ _ => .junk
theorem freezeArg_bool (H : Heap) (b : Bool) : freezeArg H (.bool b) = (.bool b,H):=rfl
theorem freezeArg_int (H : Heap) (k : IntKind) (n : Int) : freezeArg H (.int k n) = (.int k n,H):=rfl
theorem freezeArg_str (H : Heap) (b : ByteArray) : freezeArg H (.str b) = (.str b,H):=rfl
theorem freezeArg_nilp (H : Heap) : freezeArg H .nilp = (.nilp,H):=rfl
theorem freezeArg_nilf (H : Heap) : freezeArg H .nilf = (.nilf,H):=rfl
theorem freezeArg_nili (H : Heap) : freezeArg H .nili = (.nili,H):=rfl
theorem freezeArg_nils (H : Heap) : freezeArg H .nils = (.nils,H):=rfl
def aggA (a : List PV × Heap) : PV × Heap:=(.agg a.1,a.2)
theorem aggA_mk (l : List PV) (H : Heap) : aggA (l,H) = (.agg l,H):=rfl
theorem freezeArg_agg (H : Heap) (cs : List PV) : freezeArg H (.agg cs) = aggA (freezeArgs0 H cs):=rfl
theorem freezeArg_vs (H : Heap) (sz : Nat) (es : List PV) (c : Option Nat) : freezeArg H (.vs sz es c) = (.vs sz (strip0L es) c,H):=rfl
theorem freezeArg_fn (H : Heap) (f : Nat) (cs : List PV) : freezeArg H (.fn f cs) = (.fn f (strip0L cs),H):=rfl
theorem freezeArg_rop (H : Heap) (cs : List PV) : freezeArg H (.rop cs) = (.rop (strip0L cs),H):=rfl
theorem freezeArg_iface (H : Heap) (t : TypeId) (v : PV) : freezeArg H (.iface t v) = (.iface t (strip0 v),H):=rfl
def frzK (H : Heap) (sz id ver off len : Nat) : Option Row → PV × Heap
  | some (.gro sz' es _) => if es.length = ver ∧ off + len ≤ ver ∧ sz' = sz then (.vs sz (((es.drop off).take len).map strip0) none,H.set id (.gro sz es es.length)) else (.junk,H)
  | _ => (.junk,H)
theorem freezeArg_gsl (H : Heap) (sz id ver off len : Nat) : freezeArg H (.gsl sz id ver off len) = frzK H sz id ver off len (H.rows id):=by
  simp only [freezeArg,freezeArg0,frzK]
  cases H.rows id with
  | none => rfl
  | some r => cases r <;> rfl
theorem frzK_some (H : Heap) (sz id ver off len sz' f : Nat) (es : List PV) : frzK H sz id ver off len (some (.gro sz' es f)) = if es.length = ver ∧ off + len ≤ ver ∧ sz' = sz then (.vs sz (((es.drop off).take len).map strip0) none,H.set id (.gro sz es es.length)) else (.junk,H):=rfl
def consC (x : PV × Heap) (r : List PV) : List PV × Heap:=(x.1 :: (freezeArgs0 x.2 r).1,(freezeArgs0 x.2 r).2)
theorem freezeArgs0_nil (H : Heap) : freezeArgs0 H [] = ([],H):=rfl
theorem freezeArgs0_cons (H : Heap) (v : PV) (r : List PV) : freezeArgs0 H (v :: r) = consC (freezeArg0 H v) r:=rfl
theorem consC_mk (v : PV) (H : Heap) (r : List PV) : consC (v,H) r = consB v (freezeArgs0 H r):=rfl
theorem freezeArg0_bool (H : Heap) (b : Bool) : freezeArg0 H (.bool b) = (.bool b,H):=rfl
theorem freezeArg0_int (H : Heap) (k : IntKind) (n : Int) : freezeArg0 H (.int k n) = (.int k n,H):=rfl
theorem freezeArg0_str (H : Heap) (b : ByteArray) : freezeArg0 H (.str b) = (.str b,H):=rfl
theorem freezeArg0_nilp (H : Heap) : freezeArg0 H .nilp = (.nilp,H):=rfl
theorem freezeArg0_nilf (H : Heap) : freezeArg0 H .nilf = (.nilf,H):=rfl
theorem freezeArg0_nili (H : Heap) : freezeArg0 H .nili = (.nili,H):=rfl
theorem freezeArg0_nils (H : Heap) : freezeArg0 H .nils = (.nils,H):=rfl
theorem freezeArg0_agg (H : Heap) (cs : List PV) : freezeArg0 H (.agg cs) = (.agg (strip0L cs),H):=rfl
theorem freezeArg0_vs (H : Heap) (sz : Nat) (es : List PV) (c : Option Nat) : freezeArg0 H (.vs sz es c) = (.vs sz (strip0L es) c,H):=rfl
theorem freezeArg0_fn (H : Heap) (f : Nat) (cs : List PV) : freezeArg0 H (.fn f cs) = (.fn f (strip0L cs),H):=rfl
theorem freezeArg0_rop (H : Heap) (cs : List PV) : freezeArg0 H (.rop cs) = (.rop (strip0L cs),H):=rfl
theorem freezeArg0_iface (H : Heap) (t : TypeId) (v : PV) : freezeArg0 H (.iface t v) = (.iface t (strip0 v),H):=rfl
theorem freezeArg0_gsl (H : Heap) (sz id ver off len : Nat) : freezeArg0 H (.gsl sz id ver off len) = frzK H sz id ver off len (H.rows id):=by
  simp only [freezeArg0,frzK]
  cases H.rows id with
  | none => rfl
  | some r => cases r <;> rfl
theorem strip0L_nil : strip0L [] = []:=rfl
theorem strip0L_cons (v : PV) (r : List PV) : strip0L (v :: r) = strip0 v :: strip0L r:=rfl
theorem strip0L_map (l : List PV) : strip0L l = l.map strip0:=by
  induction l with
  | nil => rfl
  | cons v l ih => rw [strip0L_cons,ih]; rfl
theorem strip0_bool (b : Bool) : strip0 (.bool b) = .bool b:=rfl
theorem strip0_int (k : IntKind) (n : Int) : strip0 (.int k n) = .int k n:=rfl
theorem strip0_str (b : ByteArray) : strip0 (.str b) = .str b:=rfl
theorem strip0_nilp : strip0 .nilp = .nilp:=rfl
theorem strip0_nilf : strip0 .nilf = .nilf:=rfl
theorem strip0_nili : strip0 .nili = .nili:=rfl
theorem strip0_nils : strip0 .nils = .nils:=rfl
theorem strip0_agg (cs : List PV) : strip0 (.agg cs) = .agg (strip0L cs):=rfl
theorem strip0_vs (sz : Nat) (es : List PV) (c : Option Nat) : strip0 (.vs sz es c) = .vs sz (strip0L es) c:=rfl
theorem strip0_fn (f : Nat) (cs : List PV) : strip0 (.fn f cs) = .fn f (strip0L cs):=rfl
theorem strip0_iface (t : TypeId) (v : PV) : strip0 (.iface t v) = .iface t (strip0 v):=rfl
def strip1L (H : Heap) : List PV → List PV:=stripW.go fun sz id ver off len => match rowEs H id ver off len with
  | some es => .vs sz (es.map strip0) none
  | none => .junk
def strip2L (H : Heap) : List PV → List PV:=stripW.go fun sz id ver off len => match rowEs H id ver off len with
  | some es => .vs sz (es.map (strip1 H)) none
  | none => .junk
def vsO (sz : Nat) (f : PV → PV) : Option (List PV) → PV
  | some es => .vs sz (es.map f) none
  | none => .junk
theorem vsO_some (sz : Nat) (f : PV → PV) (es : List PV) : vsO sz f (some es) = .vs sz (es.map f) none:=rfl
section
variable (H : Heap)
theorem strip1L_nil : strip1L H [] = []:=rfl
theorem strip1L_cons (v : PV) (r : List PV) : strip1L H (v :: r) = strip1 H v :: strip1L H r:=rfl
theorem strip1L_map (l : List PV) : strip1L H l = l.map (strip1 H):=by
  induction l with
  | nil => rfl
  | cons v l ih => rw [strip1L_cons,ih]; rfl
theorem strip2L_nil : strip2L H [] = []:=rfl
theorem strip2L_cons (v : PV) (r : List PV) : strip2L H (v :: r) = strip2 H v :: strip2L H r:=rfl
theorem strip2L_map (l : List PV) : strip2L H l = l.map (strip2 H):=by
  induction l with
  | nil => rfl
  | cons v l ih => rw [strip2L_cons,ih]; rfl
theorem strip1_bool (b : Bool) : strip1 H (.bool b) = .bool b:=rfl
theorem strip1_int (k : IntKind) (n : Int) : strip1 H (.int k n) = .int k n:=rfl
theorem strip1_nils : strip1 H .nils = .nils:=rfl
theorem strip1_agg (cs : List PV) : strip1 H (.agg cs) = .agg (strip1L H cs):=rfl
theorem strip1_vs (sz : Nat) (es : List PV) (c : Option Nat) : strip1 H (.vs sz es c) = .vs sz (strip1L H es) c:=rfl
theorem strip1_gsl (sz id ver off len : Nat) : strip1 H (.gsl sz id ver off len) = vsO sz strip0 (rowEs H id ver off len):=rfl
theorem strip2_bool (b : Bool) : strip2 H (.bool b) = .bool b:=rfl
theorem strip2_int (k : IntKind) (n : Int) : strip2 H (.int k n) = .int k n:=rfl
theorem strip2_str (b : ByteArray) : strip2 H (.str b) = .str b:=rfl
theorem strip2_nilp : strip2 H .nilp = .nilp:=rfl
theorem strip2_nilf : strip2 H .nilf = .nilf:=rfl
theorem strip2_nili : strip2 H .nili = .nili:=rfl
theorem strip2_nils : strip2 H .nils = .nils:=rfl
theorem strip2_agg (cs : List PV) : strip2 H (.agg cs) = .agg (strip2L H cs):=rfl
theorem strip2_tup (cs : List PV) : strip2 H (.tup cs) = .tup (strip2L H cs):=rfl
theorem strip2_vs (sz : Nat) (es : List PV) (c : Option Nat) : strip2 H (.vs sz es c) = .vs sz (strip2L H es) c:=rfl
theorem strip2_fn (f : Nat) (cs : List PV) : strip2 H (.fn f cs) = .fn f (strip2L H cs):=rfl
theorem strip2_iface (t : TypeId) (v : PV) : strip2 H (.iface t v) = .iface t (strip2 H v):=rfl
theorem strip2_gsl (sz id ver off len : Nat) : strip2 H (.gsl sz id ver off len) = vsO sz (strip1 H) (rowEs H id ver off len):=rfl
def rowEsK (ver off len : Nat) : Option Row → Option (List PV)
  | some (.gro _ es _) => if es.length = ver ∧ off + len ≤ ver then some ((es.drop off).take len) else none
  | _ => none
theorem rowEs_K (id ver off len : Nat) : rowEs H id ver off len = rowEsK ver off len (H.rows id):=by
  simp only [rowEs,rowEsK]
  cases H.rows id with
  | none => rfl
  | some r => cases r <;> rfl
theorem rowEsK_some (sz ver off len f : Nat) (es : List PV) : rowEsK ver off len (some (.gro sz es f)) = if es.length = ver ∧ off + len ≤ ver then some ((es.drop off).take len) else none:=rfl
end
def boxAt (c : Bool) (ver off : Nat) : Option (Nat × List PV) → Option (List PV)
  | some (v,cs) => if c = true ∧ v = ver then some (cs.drop off) else none
  | none => none
def cellsD (off : Nat) (x : Option PV) : Option (List PV):=x.map fun e => e.cells.drop off
theorem cellsD_some (off : Nat) (x : PV) : cellsD off (some x) = some (x.cells.drop off):=rfl
def rowAt (ver i off : Nat) : Option Row → Option (List PV)
  | some (.gro _ es _) => if es.length = ver then cellsD off es[i]? else none
  | _ => none
theorem getAt_bptr (s : St) (f t ver off : Nat) : getAt s (.bptr f t ver off) = boxAt (decide (f = s.fid)) ver off (s.boxes t):=by
  simp only [getAt,boxAt,decide_eq_true_eq]; cases s.boxes t <;> rfl
theorem getAt_ptr (s : St) (id ver i off : Nat) : getAt s (.ptr id ver i off) = rowAt ver i off (s.H.rows id):=by
  simp only [getAt,rowAt,cellsD]
  cases s.H.rows id with
  | none => rfl
  | some r => cases r <;> rfl
theorem getAt_rop (s : St) (cs : List PV) : getAt s (.rop cs) = some cs:=rfl
theorem boxAt_some (c : Bool) (ver off v : Nat) (cs : List PV) : boxAt c ver off (some (v,cs)) = if c = true ∧ v = ver then some (cs.drop off) else none:=rfl
theorem rowAt_some (ver i off sz frz : Nat) (es : List PV) : rowAt ver i off (some (.gro sz es frz)) = if es.length = ver then cellsD off es[i]? else none:=rfl
def putBS (s : St) (t ver : Nat) (x : Option (List PV)) : Option OpR:=x.map fun cs' => .val (.tup []) ⟨s.fid,s.tmps,upd s.boxes t (some (ver,cs')),s.defers,s.H,s.rc⟩
theorem putBS_some (s : St) (t ver : Nat) (cs : List PV) : putBS s t ver (some cs) = some (.val (.tup []) ⟨s.fid,s.tmps,upd s.boxes t (some (ver,cs)),s.defers,s.H,s.rc⟩):=rfl
def putBox (s : St) (c : Bool) (t ver off : Nat) (v : List PV) : Option (Nat × List PV) → Option OpR
  | some (n,cs) => if c = true ∧ n = ver then putBS s t ver (splice cs off v) else none
  | none => none
def putRS (s : St) (id i sz frz : Nat) (es : List PV) (e : PV) (x : Option (List PV)) : Option OpR:=x.map fun cs' => .val (.tup []) ⟨s.fid,s.tmps,s.boxes,s.defers,s.H.set id (.gro sz (es.set i (reCell e cs')) frz),s.rc⟩
theorem putRS_some (s : St) (id i sz frz : Nat) (es cs : List PV) (e : PV) : putRS s id i sz frz es e (some cs) = some (.val (.tup []) ⟨s.fid,s.tmps,s.boxes,s.defers,s.H.set id (.gro sz (es.set i (reCell e cs)) frz),s.rc⟩):=rfl
def putRE (s : St) (id i sz frz off : Nat) (v es : List PV) (x : Option PV) : Option OpR:=x.bind fun e => putRS s id i sz frz es e (splice e.cells off v)
theorem putRE_some (s : St) (id i sz frz off : Nat) (v es : List PV) (e : PV) : putRE s id i sz frz off v es (some e) = putRS s id i sz frz es e (splice e.cells off v):=rfl
def putRow (s : St) (id ver i off : Nat) (v : List PV) : Option Row → Option OpR
  | some (.gro sz es frz) => if es.length = ver ∧ frz ≤ i then putRE s id i sz frz off v es es[i]? else none
  | _ => none
theorem storeK_bptr (s : St) (n f t ver off : Nat) (x : PV) : storeK (some n) (.bptr f t ver off) x s = if x.fits n = true then putBox s (decide (f = s.fid)) t ver off x.cells (s.boxes t) else none:=by
  simp only [storeK,Option.bind_some,putAt,putBox,putBS]
  split
  · cases h : s.boxes t with
    | none => rfl
    | some q =>
      obtain ⟨v,cs⟩:=q
      simp only [decide_eq_true_eq]
      split <;> simp [Option.map_map,Function.comp_def]
  · rfl
theorem putBox_some (s : St) (c : Bool) (t ver off n : Nat) (v cs : List PV) : putBox s c t ver off v (some (n,cs)) = if c = true ∧ n = ver then putBS s t ver (splice cs off v) else none:=rfl
theorem storeK_ptr (s : St) (n id ver i off : Nat) (x : PV) : storeK (some n) (.ptr id ver i off) x s = if x.fits n = true then putRow s id ver i off x.cells (s.H.rows id) else none:=by
  simp only [storeK,Option.bind_some,putAt,putRow,putRE,putRS]
  split
  · cases h : s.H.rows id with
    | none => rfl
    | some q =>
      cases q with
      | gro sz es frz =>
        simp only
        split
        · cases es[i]? <;> simp [Option.map_map,Function.comp_def]
        · rfl
      | _ => rfl
  · rfl
theorem putRow_some (s : St) (id ver i off sz frz : Nat) (v es : List PV) : putRow s id ver i off v (some (.gro sz es frz)) = if es.length = ver ∧ frz ≤ i then putRE s id i sz frz off v es es[i]? else none:=rfl
theorem splice_eq (cs : List PV) (off : Nat) (new : List PV) : splice cs off new = if off + new.length ≤ cs.length then some (cs.take off ++ (new ++ cs.drop (off + new.length))) else none:=rfl
theorem reCell_agg (cs cs' : List PV) : reCell (.agg cs) cs' = .agg cs':=rfl
theorem reCell_int (k : IntKind) (n : Int) (c : PV) : reCell (.int k n) [c] = c:=rfl
theorem reCell_bool (b : Bool) (c : PV) : reCell (.bool b) [c] = c:=rfl
theorem reCell_gsl (sz id ver off len : Nat) (c : PV) : reCell (.gsl sz id ver off len) [c] = c:=rfl
theorem reCell_vs (sz : Nat) (es : List PV) (k : Option Nat) (c : PV) : reCell (.vs sz es k) [c] = c:=rfl
theorem reCell_nils (c : PV) : reCell .nils [c] = c:=rfl
theorem reCell_nilm (c : PV) : reCell .nilm [c] = c:=rfl
theorem reCell_map (id : Nat) (c : PV) : reCell (.map id) [c] = c:=rfl
theorem reCell_nilp (c : PV) : reCell .nilp [c] = c:=rfl
theorem reCell_ptr (i j k l : Nat) (c : PV) : reCell (.ptr i j k l) [c] = c:=rfl
theorem reCell_bptr (i j k l : Nat) (c : PV) : reCell (.bptr i j k l) [c] = c:=rfl
theorem reCell_nilf (c : PV) : reCell .nilf [c] = c:=rfl
theorem reCell_fn (f : Nat) (cs : List PV) (c : PV) : reCell (.fn f cs) [c] = c:=rfl
theorem heap_set_rows (h : Heap) (id : Nat) (r : Row) (i : Nat) : (h.set id r).rows i = if i = id then some r else h.rows i:=rfl
theorem heap_set_next (h : Heap) (id : Nat) (r : Row) : (h.set id r).next = h.next:=rfl
theorem heap_add_rows (h : Heap) (r : Row) (i : Nat) : (h.add r).rows i = if i = h.next then some r else h.rows i:=rfl
theorem heap_add_next (h : Heap) (r : Row) : (h.add r).next = h.next + 1:=rfl
section
variable (P : Program) (t : Nat) (xo yo : Operand) (k : IntKind) (a b : Int) (p q : Prop) [Decidable p] [Decidable q]
theorem bin_add : binPV P .add t xo yo (.int k a) (.int k b) = some (.int k (k.wrap (a + b))):=by simp [binPV,intBin]
theorem bin_sub : binPV P .sub t xo yo (.int k a) (.int k b) = some (.int k (k.wrap (a - b))):=by simp [binPV,intBin]
theorem bin_mul : binPV P .mul t xo yo (.int k a) (.int k b) = some (.int k (k.wrap (a * b))):=by simp [binPV,intBin]
theorem bin_quo : binPV P .quo t xo yo (.int k a) (.int k b) = if b = 0 then none else some (.int k (k.wrap (a.tdiv b))):=by simp [binPV,intBin]
theorem bin_rem : binPV P .rem t xo yo (.int k a) (.int k b) = if b = 0 then none else some (.int k (a.tmod b)):=by simp [binPV,intBin]
theorem bin_shl (k' : IntKind) : binPV P .shl t xo yo (.int k a) (.int k' b) = if b < 0 then none else some (.int k (k.wrap (a * 2 ^ (min b.toNat k.bits)))):=by simp [binPV]
theorem bin_shr (k' : IntKind) : binPV P .shr t xo yo (.int k a) (.int k' b) = if b < 0 then none else some (.int k (a.fdiv (2 ^ (min b.toNat k.bits)))):=by simp [binPV]
theorem bin_and : binPV P .and t xo yo (.int k a) (.int k b) = some (.int k (k.wrap (BitVec.ofInt k.bits a &&& BitVec.ofInt k.bits b).toNat)):=by simp [binPV,intBin]
theorem bin_or : binPV P .or t xo yo (.int k a) (.int k b) = some (.int k (k.wrap (BitVec.ofInt k.bits a ||| BitVec.ofInt k.bits b).toNat)):=by simp [binPV,intBin]
theorem bin_xor : binPV P .xor t xo yo (.int k a) (.int k b) = some (.int k (k.wrap (BitVec.ofInt k.bits a ^^^ BitVec.ofInt k.bits b).toNat)):=by simp [binPV,intBin]
theorem bin_andNot : binPV P .andNot t xo yo (.int k a) (.int k b) = some (.int k (k.wrap (BitVec.ofInt k.bits a &&& ~~~BitVec.ofInt k.bits b).toNat)):=by simp [binPV,intBin]
theorem bin_eql : binPV P .eql t xo yo (.int k a) (.int k b) = some (.bool (decide (a = b))):=by simp [binPV,intBin]; rfl
theorem bin_neq : binPV P .neq t xo yo (.int k a) (.int k b) = some (.bool (decide (¬ a = b))):=by simp [binPV,intBin,bne]; rfl
theorem bin_lss : binPV P .lss t xo yo (.int k a) (.int k b) = some (.bool (decide (a < b))):=by simp [binPV,intBin]
theorem bin_leq : binPV P .leq t xo yo (.int k a) (.int k b) = some (.bool (decide (a ≤ b))):=by simp [binPV,intBin]
theorem bin_gtr : binPV P .gtr t xo yo (.int k a) (.int k b) = some (.bool (decide (b < a))):=by simp [binPV,intBin]
theorem bin_geq : binPV P .geq t xo yo (.int k a) (.int k b) = some (.bool (decide (b ≤ a))):=by simp [binPV,intBin]
theorem un_neg : unPV .neg (.int k a) = some (.int k (k.wrap (0 - a))):=rfl
theorem un_not : unPV .not (.bool (decide p)) = some (.bool (decide (¬ p))):=by simp [unPV]
theorem un_not_true : unPV .not (.bool true) = some (.bool false):=rfl
theorem un_not_false : unPV .not (.bool false) = some (.bool true):=rfl
def boolO (x : Option Bool) : Option PV:=x.map .bool
def notO (x : Option Bool) : Option PV:=x.map fun b => .bool !b
def eqBK (a b : Bool) : Option TypeDesc → Option Bool
  | some .bool => some (a == b)
  | _ => none
theorem bin_eql_bool (x y : Bool) : binPV P .eql t xo yo (.bool x) (.bool y) = boolO (eqBK x y (P.underlying t)):=by
  simp only [binPV,eqOp,boolO,eqBK]
  change (eqPV P Op.maxDepth t (.bool x) (.bool y)).map PV.bool = _
  congr 1
  cases h : P.underlying t with
  | none => simp [eqPV,Op.maxDepth,h]
  | some d => cases d <;> simp [eqPV,Op.maxDepth,h]
theorem bin_neq_bool (x y : Bool) : binPV P .neq t xo yo (.bool x) (.bool y) = notO (eqBK x y (P.underlying t)):=by
  simp only [binPV,eqOp,notO,eqBK]
  change (eqPV P Op.maxDepth t (.bool x) (.bool y)).map _ = _
  congr 1
  cases h : P.underlying t with
  | none => simp [eqPV,Op.maxDepth,h]
  | some d => cases d <;> simp [eqPV,Op.maxDepth,h]
theorem eqBK_bool (a b : Bool) : eqBK a b (some .bool) = some (a == b):=rfl
theorem boolO_some (a b : Bool) : boolO (some (a == b)) = some (.bool (decide (a = b))):=by cases a <;> cases b <;> rfl
theorem notO_some (a b : Bool) : notO (some (a == b)) = some (.bool (decide (¬ a = b))):=by cases a <;> cases b <;> rfl
theorem fold_max2 : foldPV (fun x y => if y > x then y else x) [.int k a,.int k b] = some (.int k (max a b)):=by
  simp only [foldPV,List.foldlM_cons,List.foldlM_nil,if_true,Option.bind_eq_bind,Option.bind_some,Option.pure_def,Option.some.injEq,PV.int.injEq,true_and]
  omega
theorem fold_min2 : foldPV (fun x y => if y < x then y else x) [.int k a,.int k b] = some (.int k (min a b)):=by
  simp only [foldPV,List.foldlM_cons,List.foldlM_nil,if_true,Option.bind_eq_bind,Option.bind_some,Option.pure_def,Option.some.injEq,PV.int.injEq,true_and]
  omega
theorem fold_max3 (c : Int) : foldPV (fun x y => if y > x then y else x) [.int k a,.int k b,.int k c] = some (.int k (max (max a b) c)):=by
  simp only [foldPV,List.foldlM_cons,List.foldlM_nil,if_true,Option.bind_eq_bind,Option.bind_some,Option.pure_def,Option.some.injEq,PV.int.injEq,true_and]
  omega
end
theorem bin_agg {P : Program} {t : Nat} {xs ys : List PV} {p : Prop} [Decidable p] (g : P.eqGuardType P.depth t = false) (h : ∀ n,eqPV P (n + 9) t (.agg xs) (.agg ys) = some (decide p)) (xo yo : Operand) :
    binPV P .eql t xo yo (.agg xs) (.agg ys) = some (.bool (decide p)) ∧ binPV P .neq t xo yo (.agg xs) (.agg ys) = some (.bool (decide (¬ p))):=by
  have e:=h 9991
  rw [show (9991 + 9 : Nat) = Op.maxDepth from rfl] at e
  constructor
  · simp only [binPV,eqOp,g,Bool.false_eq_true,if_false,e,Option.map_some]
  · simp only [binPV,eqOp,g,Bool.false_eq_true,if_false,e,Option.map_some,decide_not]
theorem ofV_int (k : IntKind) (n : Int) : ofV (.int k n) = some (.int k n):=rfl
theorem ofV_bool (b : Bool) : ofV (.bool b) = some (.bool b):=rfl
theorem ofV_str (b : ByteArray) : ofV (.string b) = some (.str b):=rfl
theorem ofV_nilf : ofV .nilFunc = some .nilf:=rfl
theorem ofV_nili : ofV .nilIface = some .nili:=rfl
theorem ofV_nilp : ofV (.pointer none) = some .nilp:=rfl
theorem ofV_nils : ofV (.slice none 0 0) = some .nils:=rfl
theorem ofV_nilm : ofV (.map none) = some .nilm:=rfl
section
variable (k : IntKind) (n : Int) (cs : List PV)
theorem fits_int : PV.fits (.int k n) 1 = true:=rfl
theorem fits_bool (b : Bool) : PV.fits (.bool b) 1 = true:=rfl
theorem fits_str (b : ByteArray) : PV.fits (.str b) 1 = true:=rfl
theorem fits_agg (m : Nat) : PV.fits (.agg cs) m = decide (cs.length = m):=rfl
theorem fits_vs (sz : Nat) (c : Option Nat) : PV.fits (.vs sz cs c) 1 = true:=rfl
theorem fits_gsl (sz id ver off len : Nat) : PV.fits (.gsl sz id ver off len) 1 = true:=rfl
theorem fits_nils : PV.fits .nils 1 = true:=rfl
theorem fits_nilm : PV.fits .nilm 1 = true:=rfl
theorem fits_map (id : Nat) : PV.fits (.map id) 1 = true:=rfl
theorem fits_nilf : PV.fits .nilf 1 = true:=rfl
theorem fits_nili : PV.fits .nili 1 = true:=rfl
theorem fits_nilp : PV.fits .nilp 1 = true:=rfl
theorem fits_fn (f : Nat) : PV.fits (.fn f cs) 1 = true:=rfl
theorem fits_bnd (f : Nat) : PV.fits (.bnd f cs) 1 = true:=rfl
theorem fits_rop : PV.fits (.rop cs) 1 = true:=rfl
theorem fits_bptr (f t v o : Nat) : PV.fits (.bptr f t v o) 1 = true:=rfl
theorem fits_ptr (f t v o : Nat) : PV.fits (.ptr f t v o) 1 = true:=rfl
theorem fits_iface (t : TypeId) (v : PV) : PV.fits (.iface t v) 1 = true:=rfl
theorem cells_int : PV.cells (.int k n) = [.int k n]:=rfl
theorem cells_bool (b : Bool) : PV.cells (.bool b) = [.bool b]:=rfl
theorem cells_str (b : ByteArray) : PV.cells (.str b) = [.str b]:=rfl
theorem cells_agg : PV.cells (.agg cs) = cs:=rfl
theorem cells_vs (sz : Nat) (c : Option Nat) : PV.cells (.vs sz cs c) = [.vs sz cs c]:=rfl
theorem cells_gsl (sz id ver off len : Nat) : PV.cells (.gsl sz id ver off len) = [.gsl sz id ver off len]:=rfl
theorem cells_nils : PV.cells .nils = [.nils]:=rfl
theorem cells_nilm : PV.cells .nilm = [.nilm]:=rfl
theorem cells_map (id : Nat) : PV.cells (.map id) = [.map id]:=rfl
theorem cells_nilf : PV.cells .nilf = [.nilf]:=rfl
theorem cells_nili : PV.cells .nili = [.nili]:=rfl
theorem cells_fn (f : Nat) : PV.cells (.fn f cs) = [.fn f cs]:=rfl
theorem cells_nilp : PV.cells .nilp = [.nilp]:=rfl
theorem cells_bptr (a b c d : Nat) : PV.cells (.bptr a b c d) = [.bptr a b c d]:=rfl
theorem cells_rop : PV.cells (.rop cs) = [.rop cs]:=rfl
theorem cells_ptr (a b c d : Nat) : PV.cells (.ptr a b c d) = [.ptr a b c d]:=rfl
theorem isNils_int : isNils (.int k n) = false:=rfl
theorem isNils_bool (b : Bool) : isNils (.bool b) = false:=rfl
theorem isNils_str (b : ByteArray) : isNils (.str b) = false:=rfl
theorem isNils_agg : isNils (.agg cs) = false:=rfl
theorem isNils_vs (sz : Nat) (c : Option Nat) : isNils (.vs sz cs c) = false:=rfl
theorem isNils_gsl (sz id ver off len : Nat) : isNils (.gsl sz id ver off len) = false:=rfl
theorem isNils_nilp : isNils .nilp = false:=rfl
theorem isNils_ptr (a b c d : Nat) : isNils (.ptr a b c d) = false:=rfl
theorem isNils_bptr (a b c d : Nat) : isNils (.bptr a b c d) = false:=rfl
theorem isNils_rop : isNils (.rop cs) = false:=rfl
theorem isNils_bnd (f : Nat) : isNils (.bnd f cs) = false:=rfl
theorem isNils_nils : isNils .nils = true:=rfl
theorem isNils_nilm : isNils .nilm = false:=rfl
theorem isNils_map (id : Nat) : isNils (.map id) = false:=rfl
theorem isNils_nilf : isNils .nilf = false:=rfl
theorem isNils_nili : isNils .nili = false:=rfl
theorem isNils_fn (f : Nat) : isNils (.fn f cs) = false:=rfl
theorem dstIn_nil (d : Option Nat) : dstIn [] d = false:=by cases d <;> rfl
theorem dstIn_none (l : List Nat) : dstIn l none = false:=rfl
theorem dstIn_some (l : List Nat) (d : Nat) : dstIn l (some d) = l.contains d:=rfl
end
noncomputable def endK (P : Program) (pol : Pol) (rs : List ResultVar) (m0 : Option PV) (x : St) : Option (CR × Heap):=(unwindV G P pol x.defers m0 x.H).bind fun m => match m.1 with
    | none => (resPV P rs { x with H:=m.2 }).map fun vs => (.ret (tupPV vs),m.2)
    | some v => some (.pan v,m.2)
noncomputable def endF (P : Program) (pol : Pol) (rs : List ResultVar) (x : Option (Ex × St)) : Option (CR × Heap):=x.bind fun x => match x.1 with
    | .normal | .ret => endK P pol rs none x.2
    | .pan v => endK P pol rs (some v) x.2
    | .exit _ => none
def start (H : Heap) (args : List PV) : St:=⟨H.next,fun i => args.getD i .any,fun _ => none,[],⟨H.rows,H.next + 1⟩,.no⟩
inductive Tre where
  | lf
  | no (l r : Tre)
  | nd (l : Tre) (v : PV) (r : Tre)
def pathF : Nat → Nat → List Bool
  | 0,_ => []
  | _ + 1,0 => []
  | f + 1,n + 1 => (n % 2 == 1) :: pathF f (n / 2)
def path (n : Nat) : List Bool:=pathF (n + 1) n
def look : Tre → List Bool → Option PV
  | .lf,_ => none
  | .no _ _,[] => none
  | .nd _ v _,[] => some v
  | .no l r,b :: p => if b then look r p else look l p
  | .nd l _ r,b :: p => if b then look r p else look l p
def ins : Tre → List Bool → PV → Tre
  | .lf,[],v => .nd .lf v .lf
  | .lf,b :: p,v => if b then .no .lf (ins .lf p v) else .no (ins .lf p v) .lf
  | .no l r,[],v => .nd l v r
  | .nd l _ r,[],v => .nd l v r
  | .no l r,b :: p,v => if b then .no l (ins r p v) else .no (ins l p v) r
  | .nd l w r,b :: p,v => if b then .nd l w (ins r p v) else .nd (ins l p v) w r
def tmK (f : Nat → PV) (i : Nat) : Option PV → PV
  | some v => v
  | none => f i
def tm (f : Nat → PV) (T : Tre) (i : Nat) : PV:=tmK f i (look T (path i))
theorem look_ins : ∀ (T : Tre) (p q : List Bool) (v : PV),look (ins T p v) q = if p = q then some v else look T q
  | .lf,[],[],v => by simp [ins,look]
  | .lf,[],b :: q,v => by cases b <;> simp [ins,look]
  | .lf,b :: p,[],v => by cases b <;> simp [ins,look]
  | .lf,b :: p,c :: q,v => by
    have ih:=look_ins .lf p q v
    cases b <;> cases c <;> simp [ins,look,ih]
  | .no l r,[],[],v => by simp [ins,look]
  | .no l r,[],b :: q,v => by cases b <;> simp [ins,look]
  | .no l r,b :: p,[],v => by cases b <;> simp [ins,look]
  | .no l r,b :: p,c :: q,v => by
    have i1:=look_ins l p q v
    have i2:=look_ins r p q v
    cases b <;> cases c <;> simp [ins,look,i1,i2]
  | .nd l w r,[],[],v => by simp [ins,look]
  | .nd l w r,[],b :: q,v => by cases b <;> simp [ins,look]
  | .nd l w r,b :: p,[],v => by cases b <;> simp [ins,look]
  | .nd l w r,b :: p,c :: q,v => by
    have i1:=look_ins l p q v
    have i2:=look_ins r p q v
    cases b <;> cases c <;> simp [ins,look,i1,i2]
theorem pathF_inj : ∀ (f g n m : Nat),n < f → m < g → pathF f n = pathF g m → n = m
  | 0,_,n,_,h,_,_ => by omega
  | _ + 1,0,_,m,_,h,_ => by omega
  | f + 1,g + 1,0,0,_,_,_ => rfl
  | f + 1,g + 1,0,m + 1,_,_,h => by simp [pathF] at h
  | f + 1,g + 1,n + 1,0,_,_,h => by simp [pathF] at h
  | f + 1,g + 1,n + 1,m + 1,h1,h2,h => by
    simp only [pathF,List.cons.injEq] at h
    have:=pathF_inj f g (n / 2) (m / 2) (by omega) (by omega) h.2
    have h3 : n % 2 = m % 2:=by
      have:=h.1
      rcases Nat.mod_two_eq_zero_or_one n with a | a <;> rcases Nat.mod_two_eq_zero_or_one m with b | b <;> simp_all
    omega
theorem upd_tm (f : Nat → PV) (T : Tre) (i : Nat) (v : PV) : upd (tm f T) i v = tm f (ins T (path i) v):=by
  funext j
  simp only [upd,tm,look_ins]
  by_cases h : j = i
  · subst h; simp [tmK]
  · have : path i ≠ path j:=fun e => h (pathF_inj _ _ _ _ (Nat.lt_succ_self _) (Nat.lt_succ_self _) e).symm
    simp [h,this]
theorem tm_apply (f : Nat → PV) (T : Tre) (i : Nat) : tm f T i = tmK f i (look T (path i)):=rfl
theorem tmK_some (f : Nat → PV) (i : Nat) (v : PV) : tmK f i (some v) = v:=rfl
theorem tmK_none (f : Nat → PV) (i : Nat) : tmK f i none = f i:=rfl
theorem look_lf (p : List Bool) : look .lf p = none:=by cases p <;> rfl
theorem look_no0 (l r : Tre) : look (.no l r) [] = none:=rfl
theorem look_nd0 (l r : Tre) (v : PV) : look (.nd l v r) [] = some v:=rfl
theorem look_no_t (l r : Tre) (p : List Bool) : look (.no l r) (true :: p) = look r p:=rfl
theorem look_no_f (l r : Tre) (p : List Bool) : look (.no l r) (false :: p) = look l p:=rfl
theorem look_nd_t (l r : Tre) (v : PV) (p : List Bool) : look (.nd l v r) (true :: p) = look r p:=rfl
theorem look_nd_f (l r : Tre) (v : PV) (p : List Bool) : look (.nd l v r) (false :: p) = look l p:=rfl
theorem ins_lf0 (v : PV) : ins .lf [] v = .nd .lf v .lf:=rfl
theorem ins_no0 (l r : Tre) (v : PV) : ins (.no l r) [] v = .nd l v r:=rfl
theorem ins_nd0 (l r : Tre) (w v : PV) : ins (.nd l w r) [] v = .nd l v r:=rfl
theorem ins_lf_t (p : List Bool) (v : PV) : ins .lf (true :: p) v = .no .lf (ins .lf p v):=rfl
theorem ins_lf_f (p : List Bool) (v : PV) : ins .lf (false :: p) v = .no (ins .lf p v) .lf:=rfl
theorem ins_no_t (l r : Tre) (p : List Bool) (v : PV) : ins (.no l r) (true :: p) v = .no l (ins r p v):=rfl
theorem ins_no_f (l r : Tre) (p : List Bool) (v : PV) : ins (.no l r) (false :: p) v = .no (ins l p v) r:=rfl
theorem ins_nd_t (l r : Tre) (p : List Bool) (w v : PV) : ins (.nd l w r) (true :: p) v = .nd l w (ins r p v):=rfl
theorem ins_nd_f (l r : Tre) (p : List Bool) (w v : PV) : ins (.nd l w r) (false :: p) v = .nd (ins l p v) w r:=rfl
theorem start_tm (H : Heap) (args : List PV) : start H args = ⟨H.next,tm (fun i => args.getD i .any) .lf,fun _ => none,[],⟨H.rows,H.next + 1⟩,.no⟩:=by
  have : tm (fun i => args.getD i .any) .lf = fun i => args.getD i .any:=by funext i; simp [tm,tmK,look_lf]
  rw [this]; rfl
theorem callF_eq {P : Program} {pol : Pol} {f : Nat} {fn : Func} {c : Code} {nt : Nat} {rs : Array ResultVar} (args : List PV) (H : Heap) (hf : P.funcs[f]? = some fn) (hb : fn.body = some c) (hn : fn.ntmps = nt) (hr : fn.results = rs) (hok : codeOK c = true) (hnm : (fn.name == "runtime.NumGoroutine") = false) (ha : args.length ≤ nt) :
    callF G P pol f args H = endF P pol rs.toList (W ⟨P,pol,f,nt,none⟩ c (start H args)):=by
  subst hn; subst hr
  simp only [callF,bodyOf,hf,Option.bind_some,hb]
  rw [if_pos ⟨ha,hnm⟩]
  have hG : G ⟨P,pol,f,fn.ntmps,none⟩ c = W ⟨P,pol,f,fn.ntmps,none⟩ c:=by
    funext s; simp only [G,guardR,hok,if_true]
  rw [hG]
  unfold start
  cases h : W ⟨P,pol,f,fn.ntmps,none⟩ c ⟨H.next,fun i => args.getD i .any,fun _ => none,[],⟨H.rows,H.next + 1⟩,.no⟩ with
  | none => simp [endF]
  | some x =>
    obtain ⟨ex,s⟩:=x
    cases ex <;> simp [endF,endK] <;> rfl
def apE (x : Option (CR × Heap)) : Option CR:=x.map fun r => match r.1 with
  | .ret v => .ret (strip2 r.2 v)
  | .pan v => .pan (strip0 v)
theorem ap_eq {P : Program} {pol : Pol} {f : Nat} {fn : Func} {c : Code} {nt : Nat} {rs : Array ResultVar} (args : List PV) (hf : P.funcs[f]? = some fn) (hb : fn.body = some c) (hn : fn.ntmps = nt) (hr : fn.results = rs) (hok : codeOK c = true) (hnm : (fn.name == "runtime.NumGoroutine") = false) (ha : args.length ≤ nt) :
    ap P pol f args = apE (endF P pol rs.toList (W ⟨P,pol,f,nt,none⟩ c (start .empty args))):=by
  rw [← callF_eq args .empty hf hb hn hr hok hnm ha]; rfl
section
variable (P : Program) (pol : Pol) (rs : List ResultVar) (p : Prop) [Decidable p] (s : St)
theorem endF_none : endF P pol rs none = none:=rfl
theorem endF_normal : endF P pol rs (some (.normal,s)) = endK P pol rs none s:=rfl
theorem endF_ret : endF P pol rs (some (.ret,s)) = endK P pol rs none s:=rfl
theorem endF_pan (v : PV) : endF P pol rs (some (.pan v,s)) = endK P pol rs (some v) s:=rfl
theorem endF_ite (x y : Option (Ex × St)) : endF P pol rs (if p then x else y) = if p then endF P pol rs x else endF P pol rs y:=by split <;> rfl
def resK (x : Option (List PV)) (H : Heap) : Option (CR × Heap):=x.map fun vs => (.ret (tupPV vs),H)
theorem endK_none (f : Nat) (t : Nat → PV) (b : Nat → Option (Nat × List PV)) (H : Heap) (rc : Rc) : endK P pol rs none ⟨f,t,b,[],H,rc⟩ = resK (resPV P rs ⟨f,t,b,[],H,rc⟩) H:=rfl
theorem endK_pan (v : PV) (f : Nat) (t : Nat → PV) (b : Nat → Option (Nat × List PV)) (H : Heap) (rc : Rc) : endK P pol rs (some v) ⟨f,t,b,[],H,rc⟩ = some (.pan v,H):=rfl
theorem endK_nd (h : s.defers = []) : endK P pol rs none s = resK (resPV P rs s) s.H:=by
  obtain ⟨f,t,b,d,H,rc⟩:=s
  simp only at h; subst h; rfl
theorem resK_some (vs : List PV) (H : Heap) : resK (some vs) H = some (.ret (tupPV vs),H):=rfl
theorem resK_ite (x y : Option (List PV)) (H : Heap) : resK (if p then x else y) H = if p then resK x H else resK y H:=by split <;> rfl
theorem apE_none : apE none = none:=rfl
theorem apE_ret (v : PV) (H : Heap) : apE (some (.ret v,H)) = some (.ret (strip2 H v)):=rfl
theorem apE_pan (v : PV) (H : Heap) : apE (some (.pan v,H)) = some (.pan (strip0 v)):=rfl
theorem apE_ite (x y : Option (CR × Heap)) : apE (if p then x else y) = if p then apE x else apE y:=by split <;> rfl
def res1 (P : Program) (s : St) : ResultVar → Option PV
  | .tmp t => some (s.tmps t)
  | .cell a t => (aggT P t).bind fun ag => (szOf P t).bind fun sz => (getAt s (s.tmps a)).bind fun cs => ld ag sz cs
def consO : Option PV → Option (List PV) → Option (List PV)
  | some v,some vs => some (v :: vs)
  | _,_ => none
def ldO (ag : Option Bool) (sz : Option Nat) (cs : Option (List PV)) : Option PV:=ag.bind fun ag => sz.bind fun sz => cs.bind fun cs => ld ag sz cs
theorem resPV_nil : resPV P [] s = some []:=rfl
theorem mapM_consO {α : Type} (f : α → Option PV) (r : α) (l : List α) : (r :: l).mapM f = consO (f r) (l.mapM f):=by
  simp only [List.mapM_cons]
  cases f r with
  | none => rfl
  | some v =>
    simp only [Option.pure_def,Option.bind_eq_bind,Option.bind_some]
    cases l.mapM f <;> rfl
theorem resPV_mapM (l : List ResultVar) : resPV P l s = l.mapM (res1 P s):=by
  unfold resPV
  congr 1
theorem resPV_cons (r : ResultVar) (l : List ResultVar) : resPV P (r :: l) s = consO (res1 P s r) (resPV P l s):=by
  rw [resPV_mapM,resPV_mapM,mapM_consO]
theorem res1_tmp (t : Nat) : res1 P s (.tmp t) = some (s.tmps t):=rfl
theorem res1_cell (a t : Nat) : res1 P s (.cell a t) = ldO (aggT P t) (szOf P t) (getAt s (s.tmps a)):=rfl
theorem ldO_agg (n : Nat) (cs : List PV) : ldO (some true) (some n) (some cs) = if n ≤ cs.length then some (.agg (cs.take n)) else none:=by
  simp [ldO,ld]
theorem ldO_one (n : Nat) (v : PV) (cs : List PV) : ldO (some false) (some n) (some (v :: cs)) = some v:=rfl
theorem consO_some (v : PV) (vs : List PV) : consO (some v) (some vs) = some (v :: vs):=rfl
theorem tupPV_1 (v : PV) : tupPV [v] = v:=rfl
theorem tupPV_0 : tupPV [] = .tup []:=rfl
theorem tupPV_2 (v w : PV) (r : List PV) : tupPV (v :: w :: r) = .tup (v :: w :: r):=rfl
end
theorem loop_end {cx : Ctx} {c : Code} {s0 : St} {L : Option (Ex × St)} (hL : W cx (.loop c) s0 = L) {α : Type} (m : α → Nat) (Inv : α → St → Prop) (Post : Ex → St → Prop) (x0 : α) (h0 : Inv x0 s0)
    (step : ∀ x s,Inv x s → ∃ ex s',W cx c s = some (ex,s') ∧ ((ex = .normal ∧ ∃ y,Inv y s' ∧ m y < m x) ∨ (ex ≠ .normal ∧ Post ex s'))) : ∃ ex s',L = some (ex,s') ∧ Post ex s':=by
  subst hL
  have key : ∀ n x s,m x ≤ n → Inv x s → ∃ ex s',W cx (.loop c) s = some (ex,s') ∧ Post ex s':=by
    intro n
    induction n with
    | zero =>
      intro x s hn hi
      obtain ⟨ex,s',hv,h⟩:=step x s hi
      rcases h with ⟨rfl,y,hy,hm⟩ | ⟨hne,hp⟩
      · omega
      · refine ⟨ex,s',?_,hp⟩
        rw [WW_loop,hv]
        cases ex <;> first | rfl | exact absurd rfl hne
    | succ n ih =>
      intro x s hn hi
      obtain ⟨ex,s',hv,h⟩:=step x s hi
      rcases h with ⟨rfl,y,hy,hm⟩ | ⟨hne,hp⟩
      · obtain ⟨ex2,s2,h2,hp⟩:=ih y s' (by omega) hy
        refine ⟨ex2,s2,?_,hp⟩
        rw [WW_loop,hv]
        exact h2
      · refine ⟨ex,s',?_,hp⟩
        rw [WW_loop,hv]
        cases ex <;> first | rfl | exact absurd rfl hne
  exact key _ x0 s0 (Nat.le_refl _) h0
def Step {α : Type} (m : α → Nat) (Inv : α → St → Prop) (Post : Ex → St → Prop) (x : α) (r : Option (Ex × St)) : Prop:=
  ∃ ex s',r = some (ex,s') ∧ ((ex = .normal ∧ ∃ y,Inv y s' ∧ m y < m x) ∨ (ex ≠ .normal ∧ Post ex s'))
theorem loop_at {cx : Ctx} {c : Code} {s0 : St} {L : Option (Ex × St)} (hL : W cx (.loop c) s0 = L) {α : Type} (m : α → Nat) (Inv : St → α → St → Prop) (Post : St → Ex → St → Prop) (x0 : α) (h0 : Inv s0 x0 s0)
    (step : ∀ x s r,W cx c s = r → Inv s0 x s → Step m (Inv s0) (Post s0) x r) : ∃ ex s',L = some (ex,s') ∧ Post s0 ex s':=
  loop_end hL m (Inv s0) (Post s0) x0 h0 fun x s h => step x s _ rfl h
section
variable {α : Type} {m : α → Nat} {Inv : α → St → Prop} {Post : Ex → St → Prop} {x : α}
theorem rd_ite {p : Prop} [Decidable p] {u v : Option (Ex × St)} (h1 : p → Step m Inv Post x u) (h2 : ¬ p → Step m Inv Post x v) : Step m Inv Post x (if p then u else v):=by
  split
  · exact h1 ‹_›
  · exact h2 ‹_›
theorem rd_next (y : α) {s1 : St} (h : Inv y s1) (hm : m y < m x) : Step m Inv Post x (some (.normal,s1)):=⟨_,_,rfl,.inl ⟨rfl,y,h,hm⟩⟩
theorem rd_exit {s1 : St} {id : Nat} (h : Post (.exit id) s1) : Step m Inv Post x (some (.exit id,s1)):=⟨_,_,rfl,.inr ⟨by simp,h⟩⟩
theorem rd_ret {s1 : St} (h : Post .ret s1) : Step m Inv Post x (some (.ret,s1)):=⟨_,_,rfl,.inr ⟨by simp,h⟩⟩
theorem rd_pan {s1 : St} {v : PV} (h : Post (.pan v) s1) : Step m Inv Post x (some (.pan v,s1)):=⟨_,_,rfl,.inr ⟨by simp,h⟩⟩
end
theorem G_eq (cx : Ctx) (c : Code) (s : St) : G cx c s = if codeOK c = true then W cx c s else none:=rfl
theorem codeOK_region (id : Nat) (ops : Array Oper) : codeOK (.region id ops false) = true:=rfl
theorem codeOK_seq (a b : Code) : codeOK (.seq a b) = (codeOK a && codeOK b):=rfl
theorem codeOK_cond (o : Operand) (a b : Code) : codeOK (.cond o a b) = (codeOK a && codeOK b):=rfl
theorem codeOK_block (i : Nat) (a : Code) : codeOK (.block i a) = codeOK a:=rfl
theorem codeOK_loop (a : Code) : codeOK (.loop a) = codeOK a:=rfl
theorem codeOK_skip : codeOK .skip = true:=rfl
theorem codeOK_ret : codeOK .ret = true:=rfl
theorem codeOK_exit (i : Nat) : codeOK (.exit i) = true:=rfl
theorem codeOK_label (i : Nat) : codeOK (.label i) = true:=rfl
theorem codeOK_range (f : Operand) (ps : Array Nat) (a b : Code) : codeOK (.rangeFunc f ps a b) = (codeOK a && codeOK b):=rfl
def rngR (l : Nat) (s : St) (H : Heap) : Option Row → Option (Ex × St)
  | some (.loop .ready ..) => some (.normal,⟨s.fid,s.tmps,s.boxes,s.defers,⟨upd H.rows l none,H.next⟩,s.rc⟩)
  | some (.loop (.over (some .ret)) ..) => some (.ret,⟨s.fid,s.tmps,s.boxes,s.defers,⟨upd H.rows l none,H.next⟩,s.rc⟩)
  | some (.loop (.over (some (.exit id))) ..) => some (.exit id,⟨s.fid,s.tmps,s.boxes,s.defers,⟨upd H.rows l none,H.next⟩,s.rc⟩)
  | _ => none
def rngK (l : Nat) (s : St) (x : Option (CR × Heap)) : Option (Ex × St):=x.bind fun r => match r.1 with
  | .ret _ => rngR l s r.2 (r.2.rows l)
  | .pan v => some (.pan v,⟨s.fid,s.tmps,s.boxes,s.defers,r.2,s.rc⟩)
noncomputable def rngC (cx : Ctx) (ps : List Nat) (a b : Code) (s : St) (d g : Nat) (capt : List PV) : Option (Ex × St):=
  rngK s.H.next s (callF G cx.P cx.pol g (.yield s.H.next :: capt) (s.H.add (.loop .ready cx.fn cx.nt s.tmps ps a b d)))
noncomputable def rangeK (cx : Ctx) (ps : List Nat) (a b : Code) (s : St) : PV → Option (Ex × St)
  | .fn g capt => match cx.round with
    | none => rngC cx ps a b ⟨s.fid,s.tmps,s.boxes,.coll s.H.next :: s.defers,s.H.add .dfr,s.rc⟩ s.H.next g capt
    | some l => match s.H.rows l with
      | some (.loop _ _ _ _ _ _ _ d) => rngC cx ps a b s d g capt
      | _ => none
  | _ => none
theorem WW_range (cx : Ctx) (f : Operand) (ps : Array Nat) (a b : Code) (s : St) : W cx (.rangeFunc f ps a b) s = rangeK cx ps.toList a b s (evS s f):=by
  rw [W_eq]
  simp only [stepW,stepV,rangeK,rngC,rngK]
  change (match evS s f with | .fn g capt => _ | _ => _) = _
  cases hf : evS s f with
  | fn g capt =>
    simp only
    cases hr : cx.round with
    | none =>
      simp only [Option.bind_some]
      congr 1
    | some l =>
      simp only
      cases hl : s.H.rows l with
      | none => rfl
      | some row => cases row with
        | loop st _ _ _ _ _ _ d =>
          simp only [Option.bind_some]
          congr 1
        | _ => rfl
  | _ => rfl
theorem rangeK_none (P : Program) (pol : Pol) (fn nt : Nat) (ps : List Nat) (a b : Code) (s : St) (g : Nat) (capt : List PV) : rangeK ⟨P,pol,fn,nt,none⟩ ps a b s (.fn g capt) = rngC ⟨P,pol,fn,nt,none⟩ ps a b ⟨s.fid,s.tmps,s.boxes,.coll s.H.next :: s.defers,s.H.add .dfr,s.rc⟩ s.H.next g capt:=rfl
theorem rngC_eq (cx : Ctx) (ps : List Nat) (a b : Code) (s : St) (d g : Nat) (capt : List PV) : rngC cx ps a b s d g capt = rngK s.H.next s (callF G cx.P cx.pol g (.yield s.H.next :: capt) (s.H.add (.loop .ready cx.fn cx.nt s.tmps ps a b d))):=rfl
theorem rngK_ret (l : Nat) (s : St) (v : PV) (H : Heap) : rngK l s (some (.ret v,H)) = rngR l s H (H.rows l):=rfl
theorem rngR_ready (l : Nat) (s : St) (H : Heap) (fn nt : Nat) (t : Nat → PV) (ps : List Nat) (a b : Code) (d : Nat) : rngR l s H (some (.loop .ready fn nt t ps a b d)) = some (.normal,⟨s.fid,s.tmps,s.boxes,s.defers,⟨upd H.rows l none,H.next⟩,s.rc⟩):=rfl
theorem rngR_ret (l : Nat) (s : St) (H : Heap) (fn nt : Nat) (t : Nat → PV) (ps : List Nat) (a b : Code) (d : Nat) : rngR l s H (some (.loop (.over (some .ret)) fn nt t ps a b d)) = some (.ret,⟨s.fid,s.tmps,s.boxes,s.defers,⟨upd H.rows l none,H.next⟩,s.rc⟩):=rfl
theorem rngR_exit (l : Nat) (s : St) (H : Heap) (fn nt : Nat) (t : Nat → PV) (ps : List Nat) (a b : Code) (d id : Nat) : rngR l s H (some (.loop (.over (some (.exit id))) fn nt t ps a b d)) = some (.exit id,⟨s.fid,s.tmps,s.boxes,s.defers,⟨upd H.rows l none,H.next⟩,s.rc⟩):=rfl
def yE2 (l : Nat) (H : Heap) (ex : Ex) : Option Row → Option (CR × Heap)
  | some (.loop _ fn nt t ps a b d) => match ex with
    | .normal => some (.ret (.bool true),H.set l (.loop .ready fn nt t ps a b d))
    | .ret => some (.ret (.bool false),H.set l (.loop (.over (some .ret)) fn nt t ps a b d))
    | .exit id => some (.ret (.bool false),H.set l (.loop (.over (some (.exit id))) fn nt t ps a b d))
    | .pan v => some (.pan v,H)
  | _ => none
def yE1 (l : Nat) (ex : Ex) (s : St) : List VD → Option (CR × Heap)
  | [] => yE2 l s.H ex (s.H.rows l)
  | _ => none
def yE (l : Nat) (x : Option (Ex × St)) : Option (CR × Heap):=x.bind fun q => yE1 l q.1 q.2 q.2.defers
noncomputable def yB (P : Program) (pol : Pol) (l fn nt : Nat) (body : Code) (s : St) : Option Row → Option (CR × Heap)
  | some (.loop .ready fn' nt' t' ps' a' b' d') => yE l (G ⟨P,pol,fn,nt,some l⟩ body ⟨s.fid,s.tmps,s.boxes,s.defers,s.H.set l (.loop .busy fn' nt' t' ps' a' b' d'),s.rc⟩)
  | _ => none
noncomputable def yA (P : Program) (pol : Pol) (l fn nt : Nat) (body : Code) (x : Option (Ex × St)) : Option (CR × Heap):=x.bind fun r => match r.1,r.2.defers with
  | .normal,[] => yB P pol l fn nt body r.2 (r.2.H.rows l)
  | _,_ => none
noncomputable def yT (P : Program) (pol : Pol) (l fn nt : Nat) (assign body : Code) (H : Heap) (t : Option (Nat → PV)) : Option (CR × Heap):=t.bind fun t0 => yA P pol l fn nt body (G ⟨P,pol,fn,nt,some l⟩ assign ⟨H.next,t0,fun _ => none,[],⟨H.rows,H.next + 1⟩,.no⟩)
noncomputable def yK (P : Program) (pol : Pol) (l : Nat) (args : List PV) (H : Heap) : Option Row → Option (CR × Heap)
  | some (.loop .ready fn nt t ps a b _) => if (P.funcs[fn]?).isNone = true then none else yT P pol l fn nt a b H (putPs nt ps args t)
  | _ => none
theorem yieldF_eq (P : Program) (pol : Pol) (l : Nat) (args : List PV) (H : Heap) : yieldF G P pol l args H = yK P pol l args H (H.rows l):=by
  unfold yieldF yK
  cases hr : H.rows l with
  | none => rfl
  | some row => cases row with
    | loop st fn nt t ps a b d => cases st with
      | ready =>
        simp only
        split
        · rfl
        · simp only [yT]
          congr 1
          funext t0
          simp only [yA]
          congr 1
          funext r
          obtain ⟨ex,s⟩:=r
          simp only
          cases ex with
          | normal =>
            cases hd : s.defers with
            | nil =>
              simp only
              cases hs : s.H.rows l with
              | none => rfl
              | some row => cases row with
                | loop st _ _ _ _ _ _ _ => cases st with
                  | ready =>
                    simp only [yB,yE,hd]
                    congr 1
                    funext q
                    obtain ⟨ex,q⟩:=q
                    simp only [yE1]
                    cases hq : q.defers with
                    | nil =>
                      simp only [yE2]
                      cases q.H.rows l with
                      | none => rfl
                      | some row => cases row with
                        | loop _ _ _ _ _ _ _ _ => cases ex <;> rfl
                        | _ => rfl
                    | cons _ _ => rfl
                  | _ => rfl
                | _ => rfl
            | cons _ _ => rfl
          | _ => rfl
      | _ => rfl
    | _ => rfl
section
variable (P : Program) (pol : Pol) (l fn nt : Nat) (a b : Code) (H : Heap) (s : St) (ps : List Nat) (t : Nat → PV) (d : Nat) (args : List PV) (st : LoopSt)
theorem yK_ready : yK P pol l args H (some (.loop .ready fn nt t ps a b d)) = if (P.funcs[fn]?).isNone = true then none else yT P pol l fn nt a b H (putPs nt ps args t):=rfl
theorem yT_some : yT P pol l fn nt a b H (some t) = yA P pol l fn nt b (G ⟨P,pol,fn,nt,some l⟩ a ⟨H.next,t,fun _ => none,[],⟨H.rows,H.next + 1⟩,.no⟩):=rfl
theorem yA_normal (f : Nat) (bx : Nat → Option (Nat × List PV)) (rc : Rc) : yA P pol l fn nt b (some (.normal,⟨f,t,bx,[],H,rc⟩)) = yB P pol l fn nt b ⟨f,t,bx,[],H,rc⟩ (H.rows l):=rfl
theorem yB_ready (fn' nt' : Nat) (ps' : List Nat) (a' b' : Code) : yB P pol l fn nt b s (some (.loop .ready fn' nt' t ps' a' b' d)) = yE l (G ⟨P,pol,fn,nt,some l⟩ b ⟨s.fid,s.tmps,s.boxes,s.defers,s.H.set l (.loop .busy fn' nt' t ps' a' b' d),s.rc⟩):=rfl
theorem yE_some (ex : Ex) (f : Nat) (bx : Nat → Option (Nat × List PV)) (rc : Rc) : yE l (some (ex,⟨f,t,bx,[],H,rc⟩)) = yE2 l H ex (H.rows l):=rfl
theorem yE_ite (p : Prop) [Decidable p] (x y : Option (Ex × St)) : yE l (if p then x else y) = if p then yE l x else yE l y:=by split <;> rfl
theorem yE2_normal : yE2 l H .normal (some (.loop st fn nt t ps a b d)) = some (.ret (.bool true),H.set l (.loop .ready fn nt t ps a b d)):=rfl
theorem yE2_ret : yE2 l H .ret (some (.loop st fn nt t ps a b d)) = some (.ret (.bool false),H.set l (.loop (.over (some .ret)) fn nt t ps a b d)):=rfl
theorem yE2_exit (id : Nat) : yE2 l H (.exit id) (some (.loop st fn nt t ps a b d)) = some (.ret (.bool false),H.set l (.loop (.over (some (.exit id))) fn nt t ps a b d)):=rfl
theorem putPs_nil : putPs nt [] [] t = some t:=rfl
theorem putPs_cons (p : Nat) (v : PV) (vs : List PV) : putPs nt (p :: ps) (v :: vs) t = if p < nt then putPs nt ps vs (upd t p v) else none:=rfl
end
noncomputable def endC (P : Program) (pol : Pol) (rs : List ResultVar) (m : Option PV) (f : Nat) (t : Nat → PV) (b : Nat → Option (Nat × List PV)) (ds : List VD) (rc : Rc) (H : Heap) (id : Nat) : Option Row → Option (CR × Heap)
  | some .dfr => endK P pol rs m ⟨f,t,b,ds,⟨upd H.rows id none,H.next⟩,rc⟩
  | _ => none
theorem endK_coll (P : Program) (pol : Pol) (rs : List ResultVar) (m : Option PV) (f : Nat) (t : Nat → PV) (b : Nat → Option (Nat × List PV)) (ds : List VD) (rc : Rc) (H : Heap) (id : Nat) :
    endK P pol rs m ⟨f,t,b,.coll id :: ds,H,rc⟩ = endC P pol rs m f t b ds rc H id (H.rows id):=by
  simp only [endK,unwindV,endC]
  cases hr : H.rows id with
  | none => rfl
  | some r => cases r <;> rfl
theorem endC_dfr (P : Program) (pol : Pol) (rs : List ResultVar) (m : Option PV) (f : Nat) (t : Nat → PV) (b : Nat → Option (Nat × List PV)) (ds : List VD) (rc : Rc) (H : Heap) (id : Nat) :
    endC P pol rs m f t b ds rc H id (some .dfr) = endK P pol rs m ⟨f,t,b,ds,⟨upd H.rows id none,H.next⟩,rc⟩:=rfl
end GoV
namespace GoV
open Go
theorem RUN : (((((((((type_of% @WW_skip ∧ type_of% @WW_label) ∧ (type_of% @WW_exit ∧ type_of% @WW_ret)) ∧ ((type_of% @WW_seq ∧ type_of% @WW_cond) ∧ (type_of% @WW_block ∧ type_of% @WW_reg))) ∧ (((type_of% @WW_draw ∧ type_of% @drawK_true) ∧ (type_of% @orK_some ∧ type_of% @orK_none)) ∧ ((type_of% @orK_ite ∧ type_of% @drK_none) ∧ (type_of% @drK_some ∧ (type_of% @drK_ite ∧ type_of% @seqK_none))))) ∧ ((((type_of% @seqK_normal ∧ type_of% @seqK_ret) ∧ (type_of% @seqK_exit ∧ type_of% @seqK_pan)) ∧ ((type_of% @seqK_ite ∧ type_of% @condK_true) ∧ (type_of% @condK_false ∧ (type_of% @condK_dec ∧ type_of% @condK_ite)))) ∧ (((type_of% @blockK_none ∧ type_of% @blockK_normal) ∧ (type_of% @blockK_ret ∧ type_of% @blockK_exit)) ∧ ((type_of% @blockK_pan ∧ type_of% @blockK_ite) ∧ (type_of% @regK_none ∧ (type_of% @regK_normal ∧ type_of% @regK_pan)))))) ∧ (((((type_of% @regK_ite ∧ type_of% @chkL_nil) ∧ (type_of% @chkL_ro ∧ type_of% @dstAt_arr)) ∧ ((type_of% @dstL_zero ∧ type_of% @dstL_succ) ∧ (type_of% @runL_nil ∧ (type_of% @runL_go ∧ type_of% @runL_if)))) ∧ (((type_of% @ifK_some ∧ type_of% @grK_tt) ∧ (type_of% @grK_ff ∧ type_of% @grK_tf)) ∧ ((type_of% @grK_ft ∧ type_of% @grK_tup) ∧ (type_of% @grK_ite ∧ (type_of% @opK_none ∧ type_of% @opK_val))))) ∧ ((((type_of% @opK_pan ∧ type_of% @opK_ite) ∧ (type_of% @putK_none ∧ type_of% @putK_some)) ∧ ((type_of% @evS_tmp ∧ type_of% @evS_const) ∧ (type_of% @evS_func ∧ (type_of% @grK_dec ∧ type_of% @runD_nil)))) ∧ (((type_of% @runD_go ∧ type_of% @runD_if) ∧ (type_of% @dIf_some ∧ type_of% @dGr_tt)) ∧ ((type_of% @dGr_ff ∧ type_of% @dGr_tf) ∧ (type_of% @dGr_ft ∧ (type_of% @dGr_tup ∧ type_of% @dGr_dec))))))) ∧ ((((((type_of% @dOp_none ∧ type_of% @dOp_val) ∧ (type_of% @dOp_ite ∧ type_of% @dPut_none)) ∧ ((type_of% @dPut_some ∧ type_of% @addL_nil) ∧ (type_of% @addL_r ∧ (type_of% @addL_w ∧ type_of% @mf_move)))) ∧ (((type_of% @mf_pick ∧ type_of% @mf_build) ∧ (type_of% @mf_bin ∧ type_of% @mf_un)) ∧ ((type_of% @mf_convert ∧ type_of% @mf_fieldAddr) ∧ (type_of% @mf_field ∧ (type_of% @mf_index ∧ type_of% @mf_indexAddr))))) ∧ ((((type_of% @mf_slice ∧ type_of% @mf_extract) ∧ (type_of% @mf_makeInterface ∧ type_of% @mf_makeFunc)) ∧ ((type_of% @mf_len ∧ type_of% @mf_max) ∧ (type_of% @mf_min ∧ (type_of% @mf_assign ∧ type_of% @mf_load)))) ∧ (((type_of% @mf_store ∧ type_of% @mf_box) ∧ (type_of% @mf_alloc ∧ type_of% @mf_buildSlice)) ∧ ((type_of% @mf_makeSlice ∧ type_of% @dstPl_none) ∧ (type_of% @dstPl_some ∧ (type_of% @mf_makeMap ∧ type_of% @mf_lookup)))))) ∧ (((((type_of% @mf_mapUpdate ∧ type_of% @mf_insert) ∧ (type_of% @mf_nilCheck ∧ type_of% @mapF_map)) ∧ ((type_of% @mf_append ∧ type_of% @mf_call) ∧ (type_of% @mfCall_fn ∧ (type_of% @mfCall_bnd ∧ type_of% @mfCall_yield)))) ∧ (((type_of% @newF_some ∧ type_of% @addrF_bptr) ∧ (type_of% @addrF_ptr ∧ type_of% @addrF_rop)) ∧ ((type_of% @slF_int ∧ type_of% @slF_bool) ∧ (type_of% @slF_str ∧ (type_of% @slF_agg ∧ type_of% @slF_vs))))) ∧ ((((type_of% @slF_gsl ∧ type_of% @slF_nils) ∧ (type_of% @slF_nilf ∧ type_of% @slF_nili)) ∧ ((type_of% @slF_nilp ∧ type_of% @slF_fn) ∧ (type_of% @slF_iface ∧ (type_of% @slF_ptr ∧ type_of% @slF_bptr)))) ∧ (((type_of% @slF_map ∧ type_of% @slF_rop) ∧ (type_of% @slF0_int ∧ type_of% @slF0_bool)) ∧ ((type_of% @slF0_str ∧ type_of% @slF0_vs) ∧ (type_of% @slF0_gsl ∧ (type_of% @slF0_nils ∧ type_of% @slF0_nilf)))))))) ∧ (((((((type_of% @slF0_nili ∧ type_of% @slF0_nilp) ∧ (type_of% @slF0_fn ∧ type_of% @slF0_iface)) ∧ ((type_of% @slF0_ptr ∧ type_of% @slF0_bptr) ∧ (type_of% @slF0_map ∧ type_of% @slF0_rop))) ∧ (((type_of% @slF0_agg ∧ type_of% @appF_gsl) ∧ (type_of% @appF_nils ∧ type_of% @appF_vs)) ∧ ((type_of% @both_mk ∧ type_of% @op_move) ∧ (type_of% @op_assign ∧ (type_of% @op_pick ∧ type_of% @op_build))))) ∧ ((((type_of% @op_bin ∧ type_of% @op_un) ∧ (type_of% @op_convert ∧ type_of% @op_fieldAddr)) ∧ ((type_of% @op_field ∧ type_of% @op_index) ∧ (type_of% @op_indexAddr ∧ (type_of% @op_slice ∧ type_of% @op_extract)))) ∧ (((type_of% @op_load ∧ type_of% @op_store) ∧ (type_of% @op_box ∧ type_of% @op_alloc)) ∧ ((type_of% @op_buildSlice ∧ type_of% @op_makeSlice) ∧ (type_of% @op_makeMap ∧ (type_of% @op_lookup ∧ type_of% @op_mapUpdate)))))) ∧ (((((type_of% @op_insert ∧ type_of% @op_nilCheck) ∧ (type_of% @nilCK_rop ∧ type_of% @nilCK_bptr)) ∧ ((type_of% @nilCK_ptr ∧ type_of% @op_makeInterface) ∧ (type_of% @op_makeFunc ∧ (type_of% @op_makeBound ∧ type_of% @op_len)))) ∧ (((type_of% @op_max ∧ type_of% @op_min) ∧ (type_of% @op_recover ∧ type_of% @opw_panic)) ∧ ((type_of% @opw_defer ∧ type_of% @op_append) ∧ (type_of% @op_call ∧ (type_of% @valO_some ∧ type_of% @valO_none))))) ∧ ((((type_of% @valO_ite ∧ type_of% @pickK_true) ∧ (type_of% @pickK_false ∧ type_of% @pickK_dec)) ∧ ((type_of% @buildK_some ∧ type_of% @aggO_some) ∧ (type_of% @fillPV_nil ∧ (type_of% @fillPV_cons ∧ type_of% @fillK_some)))) ∧ (((type_of% @fillS_some ∧ type_of% @fillT_some) ∧ (type_of% @fAddrK_bptr ∧ type_of% @fAddrK_ptr)) ∧ ((type_of% @fAddrK_rop ∧ type_of% @fieldK_agg) ∧ (type_of% @partK_agg ∧ (type_of% @partK_one ∧ type_of% @xAddrK_slice))))))) ∧ ((((((type_of% @xAddrK_arr ∧ type_of% @rowC_some) ∧ (type_of% @iAddrK_vs ∧ type_of% @iAddrK_gsl)) ∧ ((type_of% @iAddrK_nils ∧ type_of% @aAddrK_bptr) ∧ (type_of% @aAddrK_ptr ∧ (type_of% @aAddrK_rop ∧ type_of% @idx_int)))) ∧ (((type_of% @loadK_agg ∧ type_of% @loadK_one) ∧ (type_of% @nvK_some ∧ type_of% @nextVer_none)) ∧ ((type_of% @nextVer_some ∧ type_of% @newVar_some) ∧ (type_of% @allocK_some ∧ (type_of% @accNv_some ∧ type_of% @accK_some))))) ∧ ((((type_of% @accK2_some ∧ type_of% @extrK_tup) ∧ (type_of% @extrK_ite ∧ type_of% @convK_int)) ∧ ((type_of% @bslE_some ∧ type_of% @bslK_some) ∧ (type_of% @bslF_t ∧ (type_of% @bslF_f ∧ type_of% @fillSl_nil)))) ∧ (((type_of% @fillSl_cons ∧ type_of% @lookE_some) ∧ (type_of% @lookZ_some ∧ type_of% @lookX_map)) ∧ ((type_of% @lookW_some ∧ type_of% @lookF_some) ∧ (type_of% @lookR_some ∧ (type_of% @lookR_none ∧ type_of% @updE_some)))))) ∧ (((((type_of% @updX_map ∧ type_of% @updW_some) ∧ (type_of% @updG_some ∧ type_of% @updF_some)) ∧ ((type_of% @mslE_some ∧ type_of% @mslK_some) ∧ (type_of% @appE_some ∧ (type_of% @appK_some ∧ type_of% @appF2_some)))) ∧ (((type_of% @elemsOf_nils ∧ type_of% @elemsOf_vs) ∧ (type_of% @elemsOf_gsl ∧ type_of% @appendV_gsl)) ∧ ((type_of% @appG_some ∧ type_of% @appendV_nils) ∧ (type_of% @appendV_vs ∧ (type_of% @lenK_vs ∧ type_of% @lenK_gsl))))) ∧ ((((type_of% @lenK_nils ∧ type_of% @lenK_str) ∧ (type_of% @recK_no ∧ type_of% @recK_pan)) ∧ ((type_of% @panK_iface ∧ type_of% @defK_fn) ∧ (type_of% @idxK_some ∧ (type_of% @idxK_none ∧ type_of% @byteO_some)))) ∧ (((type_of% @strK_str ∧ type_of% @strK_agg) ∧ (type_of% @sliceK_some ∧ type_of% @optIdx_none)) ∧ ((type_of% @optIdx_some ∧ type_of% @someO_some) ∧ (type_of% @slicePV_vs ∧ (type_of% @slicePV_gsl ∧ type_of% @apK_ret))))))))) ∧ ((((((((type_of% @apK_pan ∧ type_of% @apK_ite) ∧ (type_of% @cfK_ret ∧ type_of% @cfK_pan)) ∧ ((type_of% @cfK_ite ∧ type_of% @callV_fn) ∧ (type_of% @callV_bnd ∧ type_of% @callV_yield))) ∧ (((type_of% @callK_iso ∧ type_of% @callK_in) ∧ (type_of% @argK_mk ∧ type_of% @freezeArgs_nil)) ∧ ((type_of% @freezeArgs_cons ∧ type_of% @consA_mk) ∧ (type_of% @consB_mk ∧ (type_of% @freezeArg_bool ∧ type_of% @freezeArg_int))))) ∧ ((((type_of% @freezeArg_str ∧ type_of% @freezeArg_nilp) ∧ (type_of% @freezeArg_nilf ∧ type_of% @freezeArg_nili)) ∧ ((type_of% @freezeArg_nils ∧ type_of% @aggA_mk) ∧ (type_of% @freezeArg_agg ∧ (type_of% @freezeArg_vs ∧ type_of% @freezeArg_fn)))) ∧ (((type_of% @freezeArg_rop ∧ type_of% @freezeArg_iface) ∧ (type_of% @freezeArg_gsl ∧ type_of% @frzK_some)) ∧ ((type_of% @freezeArgs0_nil ∧ type_of% @freezeArgs0_cons) ∧ (type_of% @consC_mk ∧ (type_of% @freezeArg0_bool ∧ type_of% @freezeArg0_int)))))) ∧ (((((type_of% @freezeArg0_str ∧ type_of% @freezeArg0_nilp) ∧ (type_of% @freezeArg0_nilf ∧ type_of% @freezeArg0_nili)) ∧ ((type_of% @freezeArg0_nils ∧ type_of% @freezeArg0_agg) ∧ (type_of% @freezeArg0_vs ∧ (type_of% @freezeArg0_fn ∧ type_of% @freezeArg0_rop)))) ∧ (((type_of% @freezeArg0_iface ∧ type_of% @freezeArg0_gsl) ∧ (type_of% @strip0L_nil ∧ type_of% @strip0L_cons)) ∧ ((type_of% @strip0_bool ∧ type_of% @strip0_int) ∧ (type_of% @strip0_str ∧ (type_of% @strip0_nilp ∧ type_of% @strip0_nilf))))) ∧ ((((type_of% @strip0_nili ∧ type_of% @strip0_nils) ∧ (type_of% @strip0_agg ∧ type_of% @strip0_vs)) ∧ ((type_of% @strip0_fn ∧ type_of% @strip0_iface) ∧ (type_of% @vsO_some ∧ (type_of% @strip1L_nil ∧ type_of% @strip1L_cons)))) ∧ (((type_of% @strip2L_nil ∧ type_of% @strip2L_cons) ∧ (type_of% @strip1_bool ∧ type_of% @strip1_int)) ∧ ((type_of% @strip1_nils ∧ type_of% @strip1_agg) ∧ (type_of% @strip1_vs ∧ (type_of% @strip1_gsl ∧ type_of% @strip2_bool))))))) ∧ ((((((type_of% @strip2_int ∧ type_of% @strip2_str) ∧ (type_of% @strip2_nilp ∧ type_of% @strip2_nilf)) ∧ ((type_of% @strip2_nili ∧ type_of% @strip2_nils) ∧ (type_of% @strip2_agg ∧ (type_of% @strip2_tup ∧ type_of% @strip2_vs)))) ∧ (((type_of% @strip2_fn ∧ type_of% @strip2_iface) ∧ (type_of% @strip2_gsl ∧ type_of% @rowEs_K)) ∧ ((type_of% @rowEsK_some ∧ type_of% @cellsD_some) ∧ (type_of% @getAt_bptr ∧ (type_of% @getAt_ptr ∧ type_of% @getAt_rop))))) ∧ ((((type_of% @boxAt_some ∧ type_of% @rowAt_some) ∧ (type_of% @putBS_some ∧ type_of% @putRS_some)) ∧ ((type_of% @putRE_some ∧ type_of% @storeK_bptr) ∧ (type_of% @putBox_some ∧ (type_of% @storeK_ptr ∧ type_of% @putRow_some)))) ∧ (((type_of% @splice_eq ∧ type_of% @reCell_agg) ∧ (type_of% @reCell_int ∧ type_of% @reCell_bool)) ∧ ((type_of% @reCell_gsl ∧ type_of% @reCell_vs) ∧ (type_of% @reCell_nils ∧ (type_of% @reCell_nilm ∧ type_of% @reCell_map)))))) ∧ (((((type_of% @reCell_nilp ∧ type_of% @reCell_ptr) ∧ (type_of% @reCell_bptr ∧ type_of% @reCell_nilf)) ∧ ((type_of% @reCell_fn ∧ type_of% @heap_set_rows) ∧ (type_of% @heap_set_next ∧ (type_of% @heap_add_rows ∧ type_of% @heap_add_next)))) ∧ (((type_of% @bin_add ∧ type_of% @bin_sub) ∧ (type_of% @bin_mul ∧ type_of% @bin_quo)) ∧ ((type_of% @bin_rem ∧ type_of% @bin_shl) ∧ (type_of% @bin_shr ∧ (type_of% @bin_and ∧ type_of% @bin_or))))) ∧ ((((type_of% @bin_xor ∧ type_of% @bin_andNot) ∧ (type_of% @bin_eql ∧ type_of% @bin_neq)) ∧ ((type_of% @bin_lss ∧ type_of% @bin_leq) ∧ (type_of% @bin_gtr ∧ (type_of% @bin_geq ∧ type_of% @un_neg)))) ∧ (((type_of% @un_not ∧ type_of% @un_not_true) ∧ (type_of% @un_not_false ∧ type_of% @bin_eql_bool)) ∧ ((type_of% @bin_neq_bool ∧ type_of% @eqBK_bool) ∧ (type_of% @boolO_some ∧ (type_of% @notO_some ∧ type_of% @fold_max2)))))))) ∧ (((((((type_of% @fold_min2 ∧ type_of% @fold_max3) ∧ (type_of% @ofV_int ∧ type_of% @ofV_bool)) ∧ ((type_of% @ofV_str ∧ type_of% @ofV_nilf) ∧ (type_of% @ofV_nili ∧ type_of% @ofV_nilp))) ∧ (((type_of% @ofV_nils ∧ type_of% @ofV_nilm) ∧ (type_of% @fits_int ∧ type_of% @fits_bool)) ∧ ((type_of% @fits_str ∧ type_of% @fits_agg) ∧ (type_of% @fits_vs ∧ (type_of% @fits_gsl ∧ type_of% @fits_nils))))) ∧ ((((type_of% @fits_nilm ∧ type_of% @fits_map) ∧ (type_of% @fits_nilf ∧ type_of% @fits_nili)) ∧ ((type_of% @fits_nilp ∧ type_of% @fits_fn) ∧ (type_of% @fits_bnd ∧ (type_of% @fits_rop ∧ type_of% @fits_bptr)))) ∧ (((type_of% @fits_ptr ∧ type_of% @fits_iface) ∧ (type_of% @cells_int ∧ type_of% @cells_bool)) ∧ ((type_of% @cells_str ∧ type_of% @cells_agg) ∧ (type_of% @cells_vs ∧ (type_of% @cells_gsl ∧ type_of% @cells_nils)))))) ∧ (((((type_of% @cells_nilm ∧ type_of% @cells_map) ∧ (type_of% @cells_nilf ∧ type_of% @cells_nili)) ∧ ((type_of% @cells_fn ∧ type_of% @cells_nilp) ∧ (type_of% @cells_bptr ∧ (type_of% @cells_rop ∧ type_of% @cells_ptr)))) ∧ (((type_of% @isNils_int ∧ type_of% @isNils_bool) ∧ (type_of% @isNils_str ∧ type_of% @isNils_agg)) ∧ ((type_of% @isNils_vs ∧ type_of% @isNils_gsl) ∧ (type_of% @isNils_nilp ∧ (type_of% @isNils_ptr ∧ type_of% @isNils_bptr))))) ∧ ((((type_of% @isNils_rop ∧ type_of% @isNils_bnd) ∧ (type_of% @isNils_nils ∧ type_of% @isNils_nilm)) ∧ ((type_of% @isNils_map ∧ type_of% @isNils_nilf) ∧ (type_of% @isNils_nili ∧ (type_of% @isNils_fn ∧ type_of% @dstIn_nil)))) ∧ (((type_of% @dstIn_none ∧ type_of% @dstIn_some) ∧ (type_of% @upd_tm ∧ type_of% @tm_apply)) ∧ ((type_of% @tmK_some ∧ type_of% @tmK_none) ∧ (type_of% @look_lf ∧ (type_of% @look_no0 ∧ type_of% @look_nd0))))))) ∧ ((((((type_of% @look_no_t ∧ type_of% @look_no_f) ∧ (type_of% @look_nd_t ∧ type_of% @look_nd_f)) ∧ ((type_of% @ins_lf0 ∧ type_of% @ins_no0) ∧ (type_of% @ins_nd0 ∧ (type_of% @ins_lf_t ∧ type_of% @ins_lf_f)))) ∧ (((type_of% @ins_no_t ∧ type_of% @ins_no_f) ∧ (type_of% @ins_nd_t ∧ type_of% @ins_nd_f)) ∧ ((type_of% @start_tm ∧ type_of% @endF_none) ∧ (type_of% @endF_normal ∧ (type_of% @endF_ret ∧ type_of% @endF_pan))))) ∧ ((((type_of% @endF_ite ∧ type_of% @endK_none) ∧ (type_of% @endK_pan ∧ type_of% @resK_some)) ∧ ((type_of% @resK_ite ∧ type_of% @apE_none) ∧ (type_of% @apE_ret ∧ (type_of% @apE_pan ∧ type_of% @apE_ite)))) ∧ (((type_of% @resPV_nil ∧ type_of% @resPV_cons) ∧ (type_of% @res1_tmp ∧ type_of% @res1_cell)) ∧ ((type_of% @ldO_agg ∧ type_of% @ldO_one) ∧ (type_of% @consO_some ∧ (type_of% @tupPV_1 ∧ type_of% @tupPV_0)))))) ∧ (((((type_of% @tupPV_2 ∧ type_of% @G_eq) ∧ (type_of% @codeOK_region ∧ type_of% @codeOK_seq)) ∧ ((type_of% @codeOK_cond ∧ type_of% @codeOK_block) ∧ (type_of% @codeOK_loop ∧ (type_of% @codeOK_skip ∧ type_of% @codeOK_ret)))) ∧ (((type_of% @codeOK_exit ∧ type_of% @codeOK_label) ∧ (type_of% @codeOK_range ∧ type_of% @WW_range)) ∧ ((type_of% @rangeK_none ∧ type_of% @rngC_eq) ∧ (type_of% @rngK_ret ∧ (type_of% @rngR_ready ∧ type_of% @rngR_ret))))) ∧ ((((type_of% @rngR_exit ∧ type_of% @yieldF_eq) ∧ (type_of% @yK_ready ∧ type_of% @yT_some)) ∧ ((type_of% @yA_normal ∧ type_of% @yB_ready) ∧ (type_of% @yE_some ∧ (type_of% @yE_ite ∧ type_of% @yE2_normal)))) ∧ (((type_of% @yE2_ret ∧ type_of% @yE2_exit) ∧ (type_of% @putPs_nil ∧ type_of% @putPs_cons)) ∧ ((type_of% @endK_coll ∧ type_of% @endC_dfr) ∧ (type_of% @upd_apply ∧ (type_of% @dstAt_eq ∧ type_of% @endK_nd)))))))))):=
  ⟨⟨⟨⟨⟨⟨⟨⟨⟨@WW_skip,@WW_label⟩,⟨@WW_exit,@WW_ret⟩⟩,⟨⟨@WW_seq,@WW_cond⟩,⟨@WW_block,@WW_reg⟩⟩⟩,⟨⟨⟨@WW_draw,@drawK_true⟩,⟨@orK_some,@orK_none⟩⟩,⟨⟨@orK_ite,@drK_none⟩,⟨@drK_some,⟨@drK_ite,@seqK_none⟩⟩⟩⟩⟩,⟨⟨⟨⟨@seqK_normal,@seqK_ret⟩,⟨@seqK_exit,@seqK_pan⟩⟩,⟨⟨@seqK_ite,@condK_true⟩,⟨@condK_false,⟨@condK_dec,@condK_ite⟩⟩⟩⟩,⟨⟨⟨@blockK_none,@blockK_normal⟩,⟨@blockK_ret,@blockK_exit⟩⟩,⟨⟨@blockK_pan,@blockK_ite⟩,⟨@regK_none,⟨@regK_normal,@regK_pan⟩⟩⟩⟩⟩⟩,⟨⟨⟨⟨⟨@regK_ite,@chkL_nil⟩,⟨@chkL_ro,@dstAt_arr⟩⟩,⟨⟨@dstL_zero,@dstL_succ⟩,⟨@runL_nil,⟨@runL_go,@runL_if⟩⟩⟩⟩,⟨⟨⟨@ifK_some,@grK_tt⟩,⟨@grK_ff,@grK_tf⟩⟩,⟨⟨@grK_ft,@grK_tup⟩,⟨@grK_ite,⟨@opK_none,@opK_val⟩⟩⟩⟩⟩,⟨⟨⟨⟨@opK_pan,@opK_ite⟩,⟨@putK_none,@putK_some⟩⟩,⟨⟨@evS_tmp,@evS_const⟩,⟨@evS_func,⟨@grK_dec,@runD_nil⟩⟩⟩⟩,⟨⟨⟨@runD_go,@runD_if⟩,⟨@dIf_some,@dGr_tt⟩⟩,⟨⟨@dGr_ff,@dGr_tf⟩,⟨@dGr_ft,⟨@dGr_tup,@dGr_dec⟩⟩⟩⟩⟩⟩⟩,⟨⟨⟨⟨⟨⟨@dOp_none,@dOp_val⟩,⟨@dOp_ite,@dPut_none⟩⟩,⟨⟨@dPut_some,@addL_nil⟩,⟨@addL_r,⟨@addL_w,@mf_move⟩⟩⟩⟩,⟨⟨⟨@mf_pick,@mf_build⟩,⟨@mf_bin,@mf_un⟩⟩,⟨⟨@mf_convert,@mf_fieldAddr⟩,⟨@mf_field,⟨@mf_index,@mf_indexAddr⟩⟩⟩⟩⟩,⟨⟨⟨⟨@mf_slice,@mf_extract⟩,⟨@mf_makeInterface,@mf_makeFunc⟩⟩,⟨⟨@mf_len,@mf_max⟩,⟨@mf_min,⟨@mf_assign,@mf_load⟩⟩⟩⟩,⟨⟨⟨@mf_store,@mf_box⟩,⟨@mf_alloc,@mf_buildSlice⟩⟩,⟨⟨@mf_makeSlice,@dstPl_none⟩,⟨@dstPl_some,⟨@mf_makeMap,@mf_lookup⟩⟩⟩⟩⟩⟩,⟨⟨⟨⟨⟨@mf_mapUpdate,@mf_insert⟩,⟨@mf_nilCheck,@mapF_map⟩⟩,⟨⟨@mf_append,@mf_call⟩,⟨@mfCall_fn,⟨@mfCall_bnd,@mfCall_yield⟩⟩⟩⟩,⟨⟨⟨@newF_some,@addrF_bptr⟩,⟨@addrF_ptr,@addrF_rop⟩⟩,⟨⟨@slF_int,@slF_bool⟩,⟨@slF_str,⟨@slF_agg,@slF_vs⟩⟩⟩⟩⟩,⟨⟨⟨⟨@slF_gsl,@slF_nils⟩,⟨@slF_nilf,@slF_nili⟩⟩,⟨⟨@slF_nilp,@slF_fn⟩,⟨@slF_iface,⟨@slF_ptr,@slF_bptr⟩⟩⟩⟩,⟨⟨⟨@slF_map,@slF_rop⟩,⟨@slF0_int,@slF0_bool⟩⟩,⟨⟨@slF0_str,@slF0_vs⟩,⟨@slF0_gsl,⟨@slF0_nils,@slF0_nilf⟩⟩⟩⟩⟩⟩⟩⟩,⟨⟨⟨⟨⟨⟨⟨@slF0_nili,@slF0_nilp⟩,⟨@slF0_fn,@slF0_iface⟩⟩,⟨⟨@slF0_ptr,@slF0_bptr⟩,⟨@slF0_map,@slF0_rop⟩⟩⟩,⟨⟨⟨@slF0_agg,@appF_gsl⟩,⟨@appF_nils,@appF_vs⟩⟩,⟨⟨@both_mk,@op_move⟩,⟨@op_assign,⟨@op_pick,@op_build⟩⟩⟩⟩⟩,⟨⟨⟨⟨@op_bin,@op_un⟩,⟨@op_convert,@op_fieldAddr⟩⟩,⟨⟨@op_field,@op_index⟩,⟨@op_indexAddr,⟨@op_slice,@op_extract⟩⟩⟩⟩,⟨⟨⟨@op_load,@op_store⟩,⟨@op_box,@op_alloc⟩⟩,⟨⟨@op_buildSlice,@op_makeSlice⟩,⟨@op_makeMap,⟨@op_lookup,@op_mapUpdate⟩⟩⟩⟩⟩⟩,⟨⟨⟨⟨⟨@op_insert,@op_nilCheck⟩,⟨@nilCK_rop,@nilCK_bptr⟩⟩,⟨⟨@nilCK_ptr,@op_makeInterface⟩,⟨@op_makeFunc,⟨@op_makeBound,@op_len⟩⟩⟩⟩,⟨⟨⟨@op_max,@op_min⟩,⟨@op_recover,@opw_panic⟩⟩,⟨⟨@opw_defer,@op_append⟩,⟨@op_call,⟨@valO_some,@valO_none⟩⟩⟩⟩⟩,⟨⟨⟨⟨@valO_ite,@pickK_true⟩,⟨@pickK_false,@pickK_dec⟩⟩,⟨⟨@buildK_some,@aggO_some⟩,⟨@fillPV_nil,⟨@fillPV_cons,@fillK_some⟩⟩⟩⟩,⟨⟨⟨@fillS_some,@fillT_some⟩,⟨@fAddrK_bptr,@fAddrK_ptr⟩⟩,⟨⟨@fAddrK_rop,@fieldK_agg⟩,⟨@partK_agg,⟨@partK_one,@xAddrK_slice⟩⟩⟩⟩⟩⟩⟩,⟨⟨⟨⟨⟨⟨@xAddrK_arr,@rowC_some⟩,⟨@iAddrK_vs,@iAddrK_gsl⟩⟩,⟨⟨@iAddrK_nils,@aAddrK_bptr⟩,⟨@aAddrK_ptr,⟨@aAddrK_rop,@idx_int⟩⟩⟩⟩,⟨⟨⟨@loadK_agg,@loadK_one⟩,⟨@nvK_some,@nextVer_none⟩⟩,⟨⟨@nextVer_some,@newVar_some⟩,⟨@allocK_some,⟨@accNv_some,@accK_some⟩⟩⟩⟩⟩,⟨⟨⟨⟨@accK2_some,@extrK_tup⟩,⟨@extrK_ite,@convK_int⟩⟩,⟨⟨@bslE_some,@bslK_some⟩,⟨@bslF_t,⟨@bslF_f,@fillSl_nil⟩⟩⟩⟩,⟨⟨⟨@fillSl_cons,@lookE_some⟩,⟨@lookZ_some,@lookX_map⟩⟩,⟨⟨@lookW_some,@lookF_some⟩,⟨@lookR_some,⟨@lookR_none,@updE_some⟩⟩⟩⟩⟩⟩,⟨⟨⟨⟨⟨@updX_map,@updW_some⟩,⟨@updG_some,@updF_some⟩⟩,⟨⟨@mslE_some,@mslK_some⟩,⟨@appE_some,⟨@appK_some,@appF2_some⟩⟩⟩⟩,⟨⟨⟨@elemsOf_nils,@elemsOf_vs⟩,⟨@elemsOf_gsl,@appendV_gsl⟩⟩,⟨⟨@appG_some,@appendV_nils⟩,⟨@appendV_vs,⟨@lenK_vs,@lenK_gsl⟩⟩⟩⟩⟩,⟨⟨⟨⟨@lenK_nils,@lenK_str⟩,⟨@recK_no,@recK_pan⟩⟩,⟨⟨@panK_iface,@defK_fn⟩,⟨@idxK_some,⟨@idxK_none,@byteO_some⟩⟩⟩⟩,⟨⟨⟨@strK_str,@strK_agg⟩,⟨@sliceK_some,@optIdx_none⟩⟩,⟨⟨@optIdx_some,@someO_some⟩,⟨@slicePV_vs,⟨@slicePV_gsl,@apK_ret⟩⟩⟩⟩⟩⟩⟩⟩⟩,⟨⟨⟨⟨⟨⟨⟨⟨@apK_pan,@apK_ite⟩,⟨@cfK_ret,@cfK_pan⟩⟩,⟨⟨@cfK_ite,@callV_fn⟩,⟨@callV_bnd,@callV_yield⟩⟩⟩,⟨⟨⟨@callK_iso,@callK_in⟩,⟨@argK_mk,@freezeArgs_nil⟩⟩,⟨⟨@freezeArgs_cons,@consA_mk⟩,⟨@consB_mk,⟨@freezeArg_bool,@freezeArg_int⟩⟩⟩⟩⟩,⟨⟨⟨⟨@freezeArg_str,@freezeArg_nilp⟩,⟨@freezeArg_nilf,@freezeArg_nili⟩⟩,⟨⟨@freezeArg_nils,@aggA_mk⟩,⟨@freezeArg_agg,⟨@freezeArg_vs,@freezeArg_fn⟩⟩⟩⟩,⟨⟨⟨@freezeArg_rop,@freezeArg_iface⟩,⟨@freezeArg_gsl,@frzK_some⟩⟩,⟨⟨@freezeArgs0_nil,@freezeArgs0_cons⟩,⟨@consC_mk,⟨@freezeArg0_bool,@freezeArg0_int⟩⟩⟩⟩⟩⟩,⟨⟨⟨⟨⟨@freezeArg0_str,@freezeArg0_nilp⟩,⟨@freezeArg0_nilf,@freezeArg0_nili⟩⟩,⟨⟨@freezeArg0_nils,@freezeArg0_agg⟩,⟨@freezeArg0_vs,⟨@freezeArg0_fn,@freezeArg0_rop⟩⟩⟩⟩,⟨⟨⟨@freezeArg0_iface,@freezeArg0_gsl⟩,⟨@strip0L_nil,@strip0L_cons⟩⟩,⟨⟨@strip0_bool,@strip0_int⟩,⟨@strip0_str,⟨@strip0_nilp,@strip0_nilf⟩⟩⟩⟩⟩,⟨⟨⟨⟨@strip0_nili,@strip0_nils⟩,⟨@strip0_agg,@strip0_vs⟩⟩,⟨⟨@strip0_fn,@strip0_iface⟩,⟨@vsO_some,⟨@strip1L_nil,@strip1L_cons⟩⟩⟩⟩,⟨⟨⟨@strip2L_nil,@strip2L_cons⟩,⟨@strip1_bool,@strip1_int⟩⟩,⟨⟨@strip1_nils,@strip1_agg⟩,⟨@strip1_vs,⟨@strip1_gsl,@strip2_bool⟩⟩⟩⟩⟩⟩⟩,⟨⟨⟨⟨⟨⟨@strip2_int,@strip2_str⟩,⟨@strip2_nilp,@strip2_nilf⟩⟩,⟨⟨@strip2_nili,@strip2_nils⟩,⟨@strip2_agg,⟨@strip2_tup,@strip2_vs⟩⟩⟩⟩,⟨⟨⟨@strip2_fn,@strip2_iface⟩,⟨@strip2_gsl,@rowEs_K⟩⟩,⟨⟨@rowEsK_some,@cellsD_some⟩,⟨@getAt_bptr,⟨@getAt_ptr,@getAt_rop⟩⟩⟩⟩⟩,⟨⟨⟨⟨@boxAt_some,@rowAt_some⟩,⟨@putBS_some,@putRS_some⟩⟩,⟨⟨@putRE_some,@storeK_bptr⟩,⟨@putBox_some,⟨@storeK_ptr,@putRow_some⟩⟩⟩⟩,⟨⟨⟨@splice_eq,@reCell_agg⟩,⟨@reCell_int,@reCell_bool⟩⟩,⟨⟨@reCell_gsl,@reCell_vs⟩,⟨@reCell_nils,⟨@reCell_nilm,@reCell_map⟩⟩⟩⟩⟩⟩,⟨⟨⟨⟨⟨@reCell_nilp,@reCell_ptr⟩,⟨@reCell_bptr,@reCell_nilf⟩⟩,⟨⟨@reCell_fn,@heap_set_rows⟩,⟨@heap_set_next,⟨@heap_add_rows,@heap_add_next⟩⟩⟩⟩,⟨⟨⟨@bin_add,@bin_sub⟩,⟨@bin_mul,@bin_quo⟩⟩,⟨⟨@bin_rem,@bin_shl⟩,⟨@bin_shr,⟨@bin_and,@bin_or⟩⟩⟩⟩⟩,⟨⟨⟨⟨@bin_xor,@bin_andNot⟩,⟨@bin_eql,@bin_neq⟩⟩,⟨⟨@bin_lss,@bin_leq⟩,⟨@bin_gtr,⟨@bin_geq,@un_neg⟩⟩⟩⟩,⟨⟨⟨@un_not,@un_not_true⟩,⟨@un_not_false,@bin_eql_bool⟩⟩,⟨⟨@bin_neq_bool,@eqBK_bool⟩,⟨@boolO_some,⟨@notO_some,@fold_max2⟩⟩⟩⟩⟩⟩⟩⟩,⟨⟨⟨⟨⟨⟨⟨@fold_min2,@fold_max3⟩,⟨@ofV_int,@ofV_bool⟩⟩,⟨⟨@ofV_str,@ofV_nilf⟩,⟨@ofV_nili,@ofV_nilp⟩⟩⟩,⟨⟨⟨@ofV_nils,@ofV_nilm⟩,⟨@fits_int,@fits_bool⟩⟩,⟨⟨@fits_str,@fits_agg⟩,⟨@fits_vs,⟨@fits_gsl,@fits_nils⟩⟩⟩⟩⟩,⟨⟨⟨⟨@fits_nilm,@fits_map⟩,⟨@fits_nilf,@fits_nili⟩⟩,⟨⟨@fits_nilp,@fits_fn⟩,⟨@fits_bnd,⟨@fits_rop,@fits_bptr⟩⟩⟩⟩,⟨⟨⟨@fits_ptr,@fits_iface⟩,⟨@cells_int,@cells_bool⟩⟩,⟨⟨@cells_str,@cells_agg⟩,⟨@cells_vs,⟨@cells_gsl,@cells_nils⟩⟩⟩⟩⟩⟩,⟨⟨⟨⟨⟨@cells_nilm,@cells_map⟩,⟨@cells_nilf,@cells_nili⟩⟩,⟨⟨@cells_fn,@cells_nilp⟩,⟨@cells_bptr,⟨@cells_rop,@cells_ptr⟩⟩⟩⟩,⟨⟨⟨@isNils_int,@isNils_bool⟩,⟨@isNils_str,@isNils_agg⟩⟩,⟨⟨@isNils_vs,@isNils_gsl⟩,⟨@isNils_nilp,⟨@isNils_ptr,@isNils_bptr⟩⟩⟩⟩⟩,⟨⟨⟨⟨@isNils_rop,@isNils_bnd⟩,⟨@isNils_nils,@isNils_nilm⟩⟩,⟨⟨@isNils_map,@isNils_nilf⟩,⟨@isNils_nili,⟨@isNils_fn,@dstIn_nil⟩⟩⟩⟩,⟨⟨⟨@dstIn_none,@dstIn_some⟩,⟨@upd_tm,@tm_apply⟩⟩,⟨⟨@tmK_some,@tmK_none⟩,⟨@look_lf,⟨@look_no0,@look_nd0⟩⟩⟩⟩⟩⟩⟩,⟨⟨⟨⟨⟨⟨@look_no_t,@look_no_f⟩,⟨@look_nd_t,@look_nd_f⟩⟩,⟨⟨@ins_lf0,@ins_no0⟩,⟨@ins_nd0,⟨@ins_lf_t,@ins_lf_f⟩⟩⟩⟩,⟨⟨⟨@ins_no_t,@ins_no_f⟩,⟨@ins_nd_t,@ins_nd_f⟩⟩,⟨⟨@start_tm,@endF_none⟩,⟨@endF_normal,⟨@endF_ret,@endF_pan⟩⟩⟩⟩⟩,⟨⟨⟨⟨@endF_ite,@endK_none⟩,⟨@endK_pan,@resK_some⟩⟩,⟨⟨@resK_ite,@apE_none⟩,⟨@apE_ret,⟨@apE_pan,@apE_ite⟩⟩⟩⟩,⟨⟨⟨@resPV_nil,@resPV_cons⟩,⟨@res1_tmp,@res1_cell⟩⟩,⟨⟨@ldO_agg,@ldO_one⟩,⟨@consO_some,⟨@tupPV_1,@tupPV_0⟩⟩⟩⟩⟩⟩,⟨⟨⟨⟨⟨@tupPV_2,@G_eq⟩,⟨@codeOK_region,@codeOK_seq⟩⟩,⟨⟨@codeOK_cond,@codeOK_block⟩,⟨@codeOK_loop,⟨@codeOK_skip,@codeOK_ret⟩⟩⟩⟩,⟨⟨⟨@codeOK_exit,@codeOK_label⟩,⟨@codeOK_range,@WW_range⟩⟩,⟨⟨@rangeK_none,@rngC_eq⟩,⟨@rngK_ret,⟨@rngR_ready,@rngR_ret⟩⟩⟩⟩⟩,⟨⟨⟨⟨@rngR_exit,@yieldF_eq⟩,⟨@yK_ready,@yT_some⟩⟩,⟨⟨@yA_normal,@yB_ready⟩,⟨@yE_some,⟨@yE_ite,@yE2_normal⟩⟩⟩⟩,⟨⟨⟨@yE2_ret,@yE2_exit⟩,⟨@putPs_nil,@putPs_cons⟩⟩,⟨⟨@endK_coll,@endC_dfr⟩,⟨@upd_apply,⟨@dstAt_eq,@endK_nd⟩⟩⟩⟩⟩⟩⟩⟩⟩⟩
theorem PATHS : ((((((((path 0 = [] ∧ (path 1 = [false] ∧ path 2 = [true])) ∧ (path 3 = [false,false] ∧ (path 4 = [true,false] ∧ path 5 = [false,true]))) ∧ ((path 6 = [true,true] ∧ (path 7 = [false,false,false] ∧ path 8 = [true,false,false])) ∧ ((path 9 = [false,true,false] ∧ path 10 = [true,true,false]) ∧ (path 11 = [false,false,true] ∧ path 12 = [true,false,true])))) ∧ (((path 13 = [false,true,true] ∧ (path 14 = [true,true,true] ∧ path 15 = [false,false,false,false])) ∧ (path 16 = [true,false,false,false] ∧ (path 17 = [false,true,false,false] ∧ path 18 = [true,true,false,false]))) ∧ ((path 19 = [false,false,true,false] ∧ (path 20 = [true,false,true,false] ∧ path 21 = [false,true,true,false])) ∧ ((path 22 = [true,true,true,false] ∧ path 23 = [false,false,false,true]) ∧ (path 24 = [true,false,false,true] ∧ path 25 = [false,true,false,true]))))) ∧ ((((path 26 = [true,true,false,true] ∧ (path 27 = [false,false,true,true] ∧ path 28 = [true,false,true,true])) ∧ (path 29 = [false,true,true,true] ∧ (path 30 = [true,true,true,true] ∧ path 31 = [false,false,false,false,false]))) ∧ ((path 32 = [true,false,false,false,false] ∧ (path 33 = [false,true,false,false,false] ∧ path 34 = [true,true,false,false,false])) ∧ ((path 35 = [false,false,true,false,false] ∧ path 36 = [true,false,true,false,false]) ∧ (path 37 = [false,true,true,false,false] ∧ path 38 = [true,true,true,false,false])))) ∧ (((path 39 = [false,false,false,true,false] ∧ (path 40 = [true,false,false,true,false] ∧ path 41 = [false,true,false,true,false])) ∧ (path 42 = [true,true,false,true,false] ∧ (path 43 = [false,false,true,true,false] ∧ path 44 = [true,false,true,true,false]))) ∧ ((path 45 = [false,true,true,true,false] ∧ (path 46 = [true,true,true,true,false] ∧ path 47 = [false,false,false,false,true])) ∧ ((path 48 = [true,false,false,false,true] ∧ path 49 = [false,true,false,false,true]) ∧ (path 50 = [true,true,false,false,true] ∧ path 51 = [false,false,true,false,true])))))) ∧ (((((path 52 = [true,false,true,false,true] ∧ (path 53 = [false,true,true,false,true] ∧ path 54 = [true,true,true,false,true])) ∧ (path 55 = [false,false,false,true,true] ∧ (path 56 = [true,false,false,true,true] ∧ path 57 = [false,true,false,true,true]))) ∧ ((path 58 = [true,true,false,true,true] ∧ (path 59 = [false,false,true,true,true] ∧ path 60 = [true,false,true,true,true])) ∧ ((path 61 = [false,true,true,true,true] ∧ path 62 = [true,true,true,true,true]) ∧ (path 63 = [false,false,false,false,false,false] ∧ path 64 = [true,false,false,false,false,false])))) ∧ (((path 65 = [false,true,false,false,false,false] ∧ (path 66 = [true,true,false,false,false,false] ∧ path 67 = [false,false,true,false,false,false])) ∧ (path 68 = [true,false,true,false,false,false] ∧ (path 69 = [false,true,true,false,false,false] ∧ path 70 = [true,true,true,false,false,false]))) ∧ ((path 71 = [false,false,false,true,false,false] ∧ (path 72 = [true,false,false,true,false,false] ∧ path 73 = [false,true,false,true,false,false])) ∧ ((path 74 = [true,true,false,true,false,false] ∧ path 75 = [false,false,true,true,false,false]) ∧ (path 76 = [true,false,true,true,false,false] ∧ path 77 = [false,true,true,true,false,false]))))) ∧ ((((path 78 = [true,true,true,true,false,false] ∧ (path 79 = [false,false,false,false,true,false] ∧ path 80 = [true,false,false,false,true,false])) ∧ (path 81 = [false,true,false,false,true,false] ∧ (path 82 = [true,true,false,false,true,false] ∧ path 83 = [false,false,true,false,true,false]))) ∧ ((path 84 = [true,false,true,false,true,false] ∧ (path 85 = [false,true,true,false,true,false] ∧ path 86 = [true,true,true,false,true,false])) ∧ ((path 87 = [false,false,false,true,true,false] ∧ path 88 = [true,false,false,true,true,false]) ∧ (path 89 = [false,true,false,true,true,false] ∧ path 90 = [true,true,false,true,true,false])))) ∧ (((path 91 = [false,false,true,true,true,false] ∧ (path 92 = [true,false,true,true,true,false] ∧ path 93 = [false,true,true,true,true,false])) ∧ ((path 94 = [true,true,true,true,true,false] ∧ path 95 = [false,false,false,false,false,true]) ∧ (path 96 = [true,false,false,false,false,true] ∧ path 97 = [false,true,false,false,false,true]))) ∧ ((path 98 = [true,true,false,false,false,true] ∧ (path 99 = [false,false,true,false,false,true] ∧ path 100 = [true,false,true,false,false,true])) ∧ ((path 101 = [false,true,true,false,false,true] ∧ path 102 = [true,true,true,false,false,true]) ∧ (path 103 = [false,false,false,true,false,true] ∧ path 104 = [true,false,false,true,false,true]))))))) ∧ ((((((path 105 = [false,true,false,true,false,true] ∧ (path 106 = [true,true,false,true,false,true] ∧ path 107 = [false,false,true,true,false,true])) ∧ (path 108 = [true,false,true,true,false,true] ∧ (path 109 = [false,true,true,true,false,true] ∧ path 110 = [true,true,true,true,false,true]))) ∧ ((path 111 = [false,false,false,false,true,true] ∧ (path 112 = [true,false,false,false,true,true] ∧ path 113 = [false,true,false,false,true,true])) ∧ ((path 114 = [true,true,false,false,true,true] ∧ path 115 = [false,false,true,false,true,true]) ∧ (path 116 = [true,false,true,false,true,true] ∧ path 117 = [false,true,true,false,true,true])))) ∧ (((path 118 = [true,true,true,false,true,true] ∧ (path 119 = [false,false,false,true,true,true] ∧ path 120 = [true,false,false,true,true,true])) ∧ (path 121 = [false,true,false,true,true,true] ∧ (path 122 = [true,true,false,true,true,true] ∧ path 123 = [false,false,true,true,true,true]))) ∧ ((path 124 = [true,false,true,true,true,true] ∧ (path 125 = [false,true,true,true,true,true] ∧ path 126 = [true,true,true,true,true,true])) ∧ ((path 127 = [false,false,false,false,false,false,false] ∧ path 128 = [true,false,false,false,false,false,false]) ∧ (path 129 = [false,true,false,false,false,false,false] ∧ path 130 = [true,true,false,false,false,false,false]))))) ∧ ((((path 131 = [false,false,true,false,false,false,false] ∧ (path 132 = [true,false,true,false,false,false,false] ∧ path 133 = [false,true,true,false,false,false,false])) ∧ (path 134 = [true,true,true,false,false,false,false] ∧ (path 135 = [false,false,false,true,false,false,false] ∧ path 136 = [true,false,false,true,false,false,false]))) ∧ ((path 137 = [false,true,false,true,false,false,false] ∧ (path 138 = [true,true,false,true,false,false,false] ∧ path 139 = [false,false,true,true,false,false,false])) ∧ ((path 140 = [true,false,true,true,false,false,false] ∧ path 141 = [false,true,true,true,false,false,false]) ∧ (path 142 = [true,true,true,true,false,false,false] ∧ path 143 = [false,false,false,false,true,false,false])))) ∧ (((path 144 = [true,false,false,false,true,false,false] ∧ (path 145 = [false,true,false,false,true,false,false] ∧ path 146 = [true,true,false,false,true,false,false])) ∧ (path 147 = [false,false,true,false,true,false,false] ∧ (path 148 = [true,false,true,false,true,false,false] ∧ path 149 = [false,true,true,false,true,false,false]))) ∧ ((path 150 = [true,true,true,false,true,false,false] ∧ (path 151 = [false,false,false,true,true,false,false] ∧ path 152 = [true,false,false,true,true,false,false])) ∧ ((path 153 = [false,true,false,true,true,false,false] ∧ path 154 = [true,true,false,true,true,false,false]) ∧ (path 155 = [false,false,true,true,true,false,false] ∧ path 156 = [true,false,true,true,true,false,false])))))) ∧ (((((path 157 = [false,true,true,true,true,false,false] ∧ (path 158 = [true,true,true,true,true,false,false] ∧ path 159 = [false,false,false,false,false,true,false])) ∧ (path 160 = [true,false,false,false,false,true,false] ∧ (path 161 = [false,true,false,false,false,true,false] ∧ path 162 = [true,true,false,false,false,true,false]))) ∧ ((path 163 = [false,false,true,false,false,true,false] ∧ (path 164 = [true,false,true,false,false,true,false] ∧ path 165 = [false,true,true,false,false,true,false])) ∧ ((path 166 = [true,true,true,false,false,true,false] ∧ path 167 = [false,false,false,true,false,true,false]) ∧ (path 168 = [true,false,false,true,false,true,false] ∧ path 169 = [false,true,false,true,false,true,false])))) ∧ (((path 170 = [true,true,false,true,false,true,false] ∧ (path 171 = [false,false,true,true,false,true,false] ∧ path 172 = [true,false,true,true,false,true,false])) ∧ (path 173 = [false,true,true,true,false,true,false] ∧ (path 174 = [true,true,true,true,false,true,false] ∧ path 175 = [false,false,false,false,true,true,false]))) ∧ ((path 176 = [true,false,false,false,true,true,false] ∧ (path 177 = [false,true,false,false,true,true,false] ∧ path 178 = [true,true,false,false,true,true,false])) ∧ ((path 179 = [false,false,true,false,true,true,false] ∧ path 180 = [true,false,true,false,true,true,false]) ∧ (path 181 = [false,true,true,false,true,true,false] ∧ path 182 = [true,true,true,false,true,true,false]))))) ∧ ((((path 183 = [false,false,false,true,true,true,false] ∧ (path 184 = [true,false,false,true,true,true,false] ∧ path 185 = [false,true,false,true,true,true,false])) ∧ (path 186 = [true,true,false,true,true,true,false] ∧ (path 187 = [false,false,true,true,true,true,false] ∧ path 188 = [true,false,true,true,true,true,false]))) ∧ ((path 189 = [false,true,true,true,true,true,false] ∧ (path 190 = [true,true,true,true,true,true,false] ∧ path 191 = [false,false,false,false,false,false,true])) ∧ ((path 192 = [true,false,false,false,false,false,true] ∧ path 193 = [false,true,false,false,false,false,true]) ∧ (path 194 = [true,true,false,false,false,false,true] ∧ path 195 = [false,false,true,false,false,false,true])))) ∧ (((path 196 = [true,false,true,false,false,false,true] ∧ (path 197 = [false,true,true,false,false,false,true] ∧ path 198 = [true,true,true,false,false,false,true])) ∧ ((path 199 = [false,false,false,true,false,false,true] ∧ path 200 = [true,false,false,true,false,false,true]) ∧ (path 201 = [false,true,false,true,false,false,true] ∧ path 202 = [true,true,false,true,false,false,true]))) ∧ ((path 203 = [false,false,true,true,false,false,true] ∧ (path 204 = [true,false,true,true,false,false,true] ∧ path 205 = [false,true,true,true,false,false,true])) ∧ ((path 206 = [true,true,true,true,false,false,true] ∧ path 207 = [false,false,false,false,true,false,true]) ∧ (path 208 = [true,false,false,false,true,false,true] ∧ path 209 = [false,true,false,false,true,false,true])))))))) ∧ (((((((path 210 = [true,true,false,false,true,false,true] ∧ (path 211 = [false,false,true,false,true,false,true] ∧ path 212 = [true,false,true,false,true,false,true])) ∧ (path 213 = [false,true,true,false,true,false,true] ∧ (path 214 = [true,true,true,false,true,false,true] ∧ path 215 = [false,false,false,true,true,false,true]))) ∧ ((path 216 = [true,false,false,true,true,false,true] ∧ (path 217 = [false,true,false,true,true,false,true] ∧ path 218 = [true,true,false,true,true,false,true])) ∧ ((path 219 = [false,false,true,true,true,false,true] ∧ path 220 = [true,false,true,true,true,false,true]) ∧ (path 221 = [false,true,true,true,true,false,true] ∧ path 222 = [true,true,true,true,true,false,true])))) ∧ (((path 223 = [false,false,false,false,false,true,true] ∧ (path 224 = [true,false,false,false,false,true,true] ∧ path 225 = [false,true,false,false,false,true,true])) ∧ (path 226 = [true,true,false,false,false,true,true] ∧ (path 227 = [false,false,true,false,false,true,true] ∧ path 228 = [true,false,true,false,false,true,true]))) ∧ ((path 229 = [false,true,true,false,false,true,true] ∧ (path 230 = [true,true,true,false,false,true,true] ∧ path 231 = [false,false,false,true,false,true,true])) ∧ ((path 232 = [true,false,false,true,false,true,true] ∧ path 233 = [false,true,false,true,false,true,true]) ∧ (path 234 = [true,true,false,true,false,true,true] ∧ path 235 = [false,false,true,true,false,true,true]))))) ∧ ((((path 236 = [true,false,true,true,false,true,true] ∧ (path 237 = [false,true,true,true,false,true,true] ∧ path 238 = [true,true,true,true,false,true,true])) ∧ (path 239 = [false,false,false,false,true,true,true] ∧ (path 240 = [true,false,false,false,true,true,true] ∧ path 241 = [false,true,false,false,true,true,true]))) ∧ ((path 242 = [true,true,false,false,true,true,true] ∧ (path 243 = [false,false,true,false,true,true,true] ∧ path 244 = [true,false,true,false,true,true,true])) ∧ ((path 245 = [false,true,true,false,true,true,true] ∧ path 246 = [true,true,true,false,true,true,true]) ∧ (path 247 = [false,false,false,true,true,true,true] ∧ path 248 = [true,false,false,true,true,true,true])))) ∧ (((path 249 = [false,true,false,true,true,true,true] ∧ (path 250 = [true,true,false,true,true,true,true] ∧ path 251 = [false,false,true,true,true,true,true])) ∧ (path 252 = [true,false,true,true,true,true,true] ∧ (path 253 = [false,true,true,true,true,true,true] ∧ path 254 = [true,true,true,true,true,true,true]))) ∧ ((path 255 = [false,false,false,false,false,false,false,false] ∧ (path 256 = [true,false,false,false,false,false,false,false] ∧ path 257 = [false,true,false,false,false,false,false,false])) ∧ ((path 258 = [true,true,false,false,false,false,false,false] ∧ path 259 = [false,false,true,false,false,false,false,false]) ∧ (path 260 = [true,false,true,false,false,false,false,false] ∧ path 261 = [false,true,true,false,false,false,false,false])))))) ∧ (((((path 262 = [true,true,true,false,false,false,false,false] ∧ (path 263 = [false,false,false,true,false,false,false,false] ∧ path 264 = [true,false,false,true,false,false,false,false])) ∧ (path 265 = [false,true,false,true,false,false,false,false] ∧ (path 266 = [true,true,false,true,false,false,false,false] ∧ path 267 = [false,false,true,true,false,false,false,false]))) ∧ ((path 268 = [true,false,true,true,false,false,false,false] ∧ (path 269 = [false,true,true,true,false,false,false,false] ∧ path 270 = [true,true,true,true,false,false,false,false])) ∧ ((path 271 = [false,false,false,false,true,false,false,false] ∧ path 272 = [true,false,false,false,true,false,false,false]) ∧ (path 273 = [false,true,false,false,true,false,false,false] ∧ path 274 = [true,true,false,false,true,false,false,false])))) ∧ (((path 275 = [false,false,true,false,true,false,false,false] ∧ (path 276 = [true,false,true,false,true,false,false,false] ∧ path 277 = [false,true,true,false,true,false,false,false])) ∧ (path 278 = [true,true,true,false,true,false,false,false] ∧ (path 279 = [false,false,false,true,true,false,false,false] ∧ path 280 = [true,false,false,true,true,false,false,false]))) ∧ ((path 281 = [false,true,false,true,true,false,false,false] ∧ (path 282 = [true,true,false,true,true,false,false,false] ∧ path 283 = [false,false,true,true,true,false,false,false])) ∧ ((path 284 = [true,false,true,true,true,false,false,false] ∧ path 285 = [false,true,true,true,true,false,false,false]) ∧ (path 286 = [true,true,true,true,true,false,false,false] ∧ path 287 = [false,false,false,false,false,true,false,false]))))) ∧ ((((path 288 = [true,false,false,false,false,true,false,false] ∧ (path 289 = [false,true,false,false,false,true,false,false] ∧ path 290 = [true,true,false,false,false,true,false,false])) ∧ (path 291 = [false,false,true,false,false,true,false,false] ∧ (path 292 = [true,false,true,false,false,true,false,false] ∧ path 293 = [false,true,true,false,false,true,false,false]))) ∧ ((path 294 = [true,true,true,false,false,true,false,false] ∧ (path 295 = [false,false,false,true,false,true,false,false] ∧ path 296 = [true,false,false,true,false,true,false,false])) ∧ ((path 297 = [false,true,false,true,false,true,false,false] ∧ path 298 = [true,true,false,true,false,true,false,false]) ∧ (path 299 = [false,false,true,true,false,true,false,false] ∧ path 300 = [true,false,true,true,false,true,false,false])))) ∧ (((path 301 = [false,true,true,true,false,true,false,false] ∧ (path 302 = [true,true,true,true,false,true,false,false] ∧ path 303 = [false,false,false,false,true,true,false,false])) ∧ ((path 304 = [true,false,false,false,true,true,false,false] ∧ path 305 = [false,true,false,false,true,true,false,false]) ∧ (path 306 = [true,true,false,false,true,true,false,false] ∧ path 307 = [false,false,true,false,true,true,false,false]))) ∧ ((path 308 = [true,false,true,false,true,true,false,false] ∧ (path 309 = [false,true,true,false,true,true,false,false] ∧ path 310 = [true,true,true,false,true,true,false,false])) ∧ ((path 311 = [false,false,false,true,true,true,false,false] ∧ path 312 = [true,false,false,true,true,true,false,false]) ∧ (path 313 = [false,true,false,true,true,true,false,false] ∧ path 314 = [true,true,false,true,true,true,false,false]))))))) ∧ ((((((path 315 = [false,false,true,true,true,true,false,false] ∧ (path 316 = [true,false,true,true,true,true,false,false] ∧ path 317 = [false,true,true,true,true,true,false,false])) ∧ (path 318 = [true,true,true,true,true,true,false,false] ∧ (path 319 = [false,false,false,false,false,false,true,false] ∧ path 320 = [true,false,false,false,false,false,true,false]))) ∧ ((path 321 = [false,true,false,false,false,false,true,false] ∧ (path 322 = [true,true,false,false,false,false,true,false] ∧ path 323 = [false,false,true,false,false,false,true,false])) ∧ ((path 324 = [true,false,true,false,false,false,true,false] ∧ path 325 = [false,true,true,false,false,false,true,false]) ∧ (path 326 = [true,true,true,false,false,false,true,false] ∧ path 327 = [false,false,false,true,false,false,true,false])))) ∧ (((path 328 = [true,false,false,true,false,false,true,false] ∧ (path 329 = [false,true,false,true,false,false,true,false] ∧ path 330 = [true,true,false,true,false,false,true,false])) ∧ (path 331 = [false,false,true,true,false,false,true,false] ∧ (path 332 = [true,false,true,true,false,false,true,false] ∧ path 333 = [false,true,true,true,false,false,true,false]))) ∧ ((path 334 = [true,true,true,true,false,false,true,false] ∧ (path 335 = [false,false,false,false,true,false,true,false] ∧ path 336 = [true,false,false,false,true,false,true,false])) ∧ ((path 337 = [false,true,false,false,true,false,true,false] ∧ path 338 = [true,true,false,false,true,false,true,false]) ∧ (path 339 = [false,false,true,false,true,false,true,false] ∧ path 340 = [true,false,true,false,true,false,true,false]))))) ∧ ((((path 341 = [false,true,true,false,true,false,true,false] ∧ (path 342 = [true,true,true,false,true,false,true,false] ∧ path 343 = [false,false,false,true,true,false,true,false])) ∧ (path 344 = [true,false,false,true,true,false,true,false] ∧ (path 345 = [false,true,false,true,true,false,true,false] ∧ path 346 = [true,true,false,true,true,false,true,false]))) ∧ ((path 347 = [false,false,true,true,true,false,true,false] ∧ (path 348 = [true,false,true,true,true,false,true,false] ∧ path 349 = [false,true,true,true,true,false,true,false])) ∧ ((path 350 = [true,true,true,true,true,false,true,false] ∧ path 351 = [false,false,false,false,false,true,true,false]) ∧ (path 352 = [true,false,false,false,false,true,true,false] ∧ path 353 = [false,true,false,false,false,true,true,false])))) ∧ (((path 354 = [true,true,false,false,false,true,true,false] ∧ (path 355 = [false,false,true,false,false,true,true,false] ∧ path 356 = [true,false,true,false,false,true,true,false])) ∧ (path 357 = [false,true,true,false,false,true,true,false] ∧ (path 358 = [true,true,true,false,false,true,true,false] ∧ path 359 = [false,false,false,true,false,true,true,false]))) ∧ ((path 360 = [true,false,false,true,false,true,true,false] ∧ (path 361 = [false,true,false,true,false,true,true,false] ∧ path 362 = [true,true,false,true,false,true,true,false])) ∧ ((path 363 = [false,false,true,true,false,true,true,false] ∧ path 364 = [true,false,true,true,false,true,true,false]) ∧ (path 365 = [false,true,true,true,false,true,true,false] ∧ path 366 = [true,true,true,true,false,true,true,false])))))) ∧ (((((path 367 = [false,false,false,false,true,true,true,false] ∧ (path 368 = [true,false,false,false,true,true,true,false] ∧ path 369 = [false,true,false,false,true,true,true,false])) ∧ (path 370 = [true,true,false,false,true,true,true,false] ∧ (path 371 = [false,false,true,false,true,true,true,false] ∧ path 372 = [true,false,true,false,true,true,true,false]))) ∧ ((path 373 = [false,true,true,false,true,true,true,false] ∧ (path 374 = [true,true,true,false,true,true,true,false] ∧ path 375 = [false,false,false,true,true,true,true,false])) ∧ ((path 376 = [true,false,false,true,true,true,true,false] ∧ path 377 = [false,true,false,true,true,true,true,false]) ∧ (path 378 = [true,true,false,true,true,true,true,false] ∧ path 379 = [false,false,true,true,true,true,true,false])))) ∧ (((path 380 = [true,false,true,true,true,true,true,false] ∧ (path 381 = [false,true,true,true,true,true,true,false] ∧ path 382 = [true,true,true,true,true,true,true,false])) ∧ (path 383 = [false,false,false,false,false,false,false,true] ∧ (path 384 = [true,false,false,false,false,false,false,true] ∧ path 385 = [false,true,false,false,false,false,false,true]))) ∧ ((path 386 = [true,true,false,false,false,false,false,true] ∧ (path 387 = [false,false,true,false,false,false,false,true] ∧ path 388 = [true,false,true,false,false,false,false,true])) ∧ ((path 389 = [false,true,true,false,false,false,false,true] ∧ path 390 = [true,true,true,false,false,false,false,true]) ∧ (path 391 = [false,false,false,true,false,false,false,true] ∧ path 392 = [true,false,false,true,false,false,false,true]))))) ∧ ((((path 393 = [false,true,false,true,false,false,false,true] ∧ (path 394 = [true,true,false,true,false,false,false,true] ∧ path 395 = [false,false,true,true,false,false,false,true])) ∧ (path 396 = [true,false,true,true,false,false,false,true] ∧ (path 397 = [false,true,true,true,false,false,false,true] ∧ path 398 = [true,true,true,true,false,false,false,true]))) ∧ ((path 399 = [false,false,false,false,true,false,false,true] ∧ (path 400 = [true,false,false,false,true,false,false,true] ∧ path 401 = [false,true,false,false,true,false,false,true])) ∧ ((path 402 = [true,true,false,false,true,false,false,true] ∧ path 403 = [false,false,true,false,true,false,false,true]) ∧ (path 404 = [true,false,true,false,true,false,false,true] ∧ path 405 = [false,true,true,false,true,false,false,true])))) ∧ (((path 406 = [true,true,true,false,true,false,false,true] ∧ (path 407 = [false,false,false,true,true,false,false,true] ∧ path 408 = [true,false,false,true,true,false,false,true])) ∧ ((path 409 = [false,true,false,true,true,false,false,true] ∧ path 410 = [true,true,false,true,true,false,false,true]) ∧ (path 411 = [false,false,true,true,true,false,false,true] ∧ path 412 = [true,false,true,true,true,false,false,true]))) ∧ ((path 413 = [false,true,true,true,true,false,false,true] ∧ (path 414 = [true,true,true,true,true,false,false,true] ∧ path 415 = [false,false,false,false,false,true,false,true])) ∧ ((path 416 = [true,false,false,false,false,true,false,true] ∧ path 417 = [false,true,false,false,false,true,false,true]) ∧ (path 418 = [true,true,false,false,false,true,false,true] ∧ path 419 = [false,false,true,false,false,true,false,true]))))))))):=
  ⟨⟨⟨⟨⟨⟨⟨⟨rfl,⟨rfl,rfl⟩⟩,⟨rfl,⟨rfl,rfl⟩⟩⟩,⟨⟨rfl,⟨rfl,rfl⟩⟩,⟨⟨rfl,rfl⟩,⟨rfl,rfl⟩⟩⟩⟩,⟨⟨⟨rfl,⟨rfl,rfl⟩⟩,⟨rfl,⟨rfl,rfl⟩⟩⟩,⟨⟨rfl,⟨rfl,rfl⟩⟩,⟨⟨rfl,rfl⟩,⟨rfl,rfl⟩⟩⟩⟩⟩,⟨⟨⟨⟨rfl,⟨rfl,rfl⟩⟩,⟨rfl,⟨rfl,rfl⟩⟩⟩,⟨⟨rfl,⟨rfl,rfl⟩⟩,⟨⟨rfl,rfl⟩,⟨rfl,rfl⟩⟩⟩⟩,⟨⟨⟨rfl,⟨rfl,rfl⟩⟩,⟨rfl,⟨rfl,rfl⟩⟩⟩,⟨⟨rfl,⟨rfl,rfl⟩⟩,⟨⟨rfl,rfl⟩,⟨rfl,rfl⟩⟩⟩⟩⟩⟩,⟨⟨⟨⟨⟨rfl,⟨rfl,rfl⟩⟩,⟨rfl,⟨rfl,rfl⟩⟩⟩,⟨⟨rfl,⟨rfl,rfl⟩⟩,⟨⟨rfl,rfl⟩,⟨rfl,rfl⟩⟩⟩⟩,⟨⟨⟨rfl,⟨rfl,rfl⟩⟩,⟨rfl,⟨rfl,rfl⟩⟩⟩,⟨⟨rfl,⟨rfl,rfl⟩⟩,⟨⟨rfl,rfl⟩,⟨rfl,rfl⟩⟩⟩⟩⟩,⟨⟨⟨⟨rfl,⟨rfl,rfl⟩⟩,⟨rfl,⟨rfl,rfl⟩⟩⟩,⟨⟨rfl,⟨rfl,rfl⟩⟩,⟨⟨rfl,rfl⟩,⟨rfl,rfl⟩⟩⟩⟩,⟨⟨⟨rfl,⟨rfl,rfl⟩⟩,⟨⟨rfl,rfl⟩,⟨rfl,rfl⟩⟩⟩,⟨⟨rfl,⟨rfl,rfl⟩⟩,⟨⟨rfl,rfl⟩,⟨rfl,rfl⟩⟩⟩⟩⟩⟩⟩,⟨⟨⟨⟨⟨⟨rfl,⟨rfl,rfl⟩⟩,⟨rfl,⟨rfl,rfl⟩⟩⟩,⟨⟨rfl,⟨rfl,rfl⟩⟩,⟨⟨rfl,rfl⟩,⟨rfl,rfl⟩⟩⟩⟩,⟨⟨⟨rfl,⟨rfl,rfl⟩⟩,⟨rfl,⟨rfl,rfl⟩⟩⟩,⟨⟨rfl,⟨rfl,rfl⟩⟩,⟨⟨rfl,rfl⟩,⟨rfl,rfl⟩⟩⟩⟩⟩,⟨⟨⟨⟨rfl,⟨rfl,rfl⟩⟩,⟨rfl,⟨rfl,rfl⟩⟩⟩,⟨⟨rfl,⟨rfl,rfl⟩⟩,⟨⟨rfl,rfl⟩,⟨rfl,rfl⟩⟩⟩⟩,⟨⟨⟨rfl,⟨rfl,rfl⟩⟩,⟨rfl,⟨rfl,rfl⟩⟩⟩,⟨⟨rfl,⟨rfl,rfl⟩⟩,⟨⟨rfl,rfl⟩,⟨rfl,rfl⟩⟩⟩⟩⟩⟩,⟨⟨⟨⟨⟨rfl,⟨rfl,rfl⟩⟩,⟨rfl,⟨rfl,rfl⟩⟩⟩,⟨⟨rfl,⟨rfl,rfl⟩⟩,⟨⟨rfl,rfl⟩,⟨rfl,rfl⟩⟩⟩⟩,⟨⟨⟨rfl,⟨rfl,rfl⟩⟩,⟨rfl,⟨rfl,rfl⟩⟩⟩,⟨⟨rfl,⟨rfl,rfl⟩⟩,⟨⟨rfl,rfl⟩,⟨rfl,rfl⟩⟩⟩⟩⟩,⟨⟨⟨⟨rfl,⟨rfl,rfl⟩⟩,⟨rfl,⟨rfl,rfl⟩⟩⟩,⟨⟨rfl,⟨rfl,rfl⟩⟩,⟨⟨rfl,rfl⟩,⟨rfl,rfl⟩⟩⟩⟩,⟨⟨⟨rfl,⟨rfl,rfl⟩⟩,⟨⟨rfl,rfl⟩,⟨rfl,rfl⟩⟩⟩,⟨⟨rfl,⟨rfl,rfl⟩⟩,⟨⟨rfl,rfl⟩,⟨rfl,rfl⟩⟩⟩⟩⟩⟩⟩⟩,⟨⟨⟨⟨⟨⟨⟨rfl,⟨rfl,rfl⟩⟩,⟨rfl,⟨rfl,rfl⟩⟩⟩,⟨⟨rfl,⟨rfl,rfl⟩⟩,⟨⟨rfl,rfl⟩,⟨rfl,rfl⟩⟩⟩⟩,⟨⟨⟨rfl,⟨rfl,rfl⟩⟩,⟨rfl,⟨rfl,rfl⟩⟩⟩,⟨⟨rfl,⟨rfl,rfl⟩⟩,⟨⟨rfl,rfl⟩,⟨rfl,rfl⟩⟩⟩⟩⟩,⟨⟨⟨⟨rfl,⟨rfl,rfl⟩⟩,⟨rfl,⟨rfl,rfl⟩⟩⟩,⟨⟨rfl,⟨rfl,rfl⟩⟩,⟨⟨rfl,rfl⟩,⟨rfl,rfl⟩⟩⟩⟩,⟨⟨⟨rfl,⟨rfl,rfl⟩⟩,⟨rfl,⟨rfl,rfl⟩⟩⟩,⟨⟨rfl,⟨rfl,rfl⟩⟩,⟨⟨rfl,rfl⟩,⟨rfl,rfl⟩⟩⟩⟩⟩⟩,⟨⟨⟨⟨⟨rfl,⟨rfl,rfl⟩⟩,⟨rfl,⟨rfl,rfl⟩⟩⟩,⟨⟨rfl,⟨rfl,rfl⟩⟩,⟨⟨rfl,rfl⟩,⟨rfl,rfl⟩⟩⟩⟩,⟨⟨⟨rfl,⟨rfl,rfl⟩⟩,⟨rfl,⟨rfl,rfl⟩⟩⟩,⟨⟨rfl,⟨rfl,rfl⟩⟩,⟨⟨rfl,rfl⟩,⟨rfl,rfl⟩⟩⟩⟩⟩,⟨⟨⟨⟨rfl,⟨rfl,rfl⟩⟩,⟨rfl,⟨rfl,rfl⟩⟩⟩,⟨⟨rfl,⟨rfl,rfl⟩⟩,⟨⟨rfl,rfl⟩,⟨rfl,rfl⟩⟩⟩⟩,⟨⟨⟨rfl,⟨rfl,rfl⟩⟩,⟨⟨rfl,rfl⟩,⟨rfl,rfl⟩⟩⟩,⟨⟨rfl,⟨rfl,rfl⟩⟩,⟨⟨rfl,rfl⟩,⟨rfl,rfl⟩⟩⟩⟩⟩⟩⟩,⟨⟨⟨⟨⟨⟨rfl,⟨rfl,rfl⟩⟩,⟨rfl,⟨rfl,rfl⟩⟩⟩,⟨⟨rfl,⟨rfl,rfl⟩⟩,⟨⟨rfl,rfl⟩,⟨rfl,rfl⟩⟩⟩⟩,⟨⟨⟨rfl,⟨rfl,rfl⟩⟩,⟨rfl,⟨rfl,rfl⟩⟩⟩,⟨⟨rfl,⟨rfl,rfl⟩⟩,⟨⟨rfl,rfl⟩,⟨rfl,rfl⟩⟩⟩⟩⟩,⟨⟨⟨⟨rfl,⟨rfl,rfl⟩⟩,⟨rfl,⟨rfl,rfl⟩⟩⟩,⟨⟨rfl,⟨rfl,rfl⟩⟩,⟨⟨rfl,rfl⟩,⟨rfl,rfl⟩⟩⟩⟩,⟨⟨⟨rfl,⟨rfl,rfl⟩⟩,⟨rfl,⟨rfl,rfl⟩⟩⟩,⟨⟨rfl,⟨rfl,rfl⟩⟩,⟨⟨rfl,rfl⟩,⟨rfl,rfl⟩⟩⟩⟩⟩⟩,⟨⟨⟨⟨⟨rfl,⟨rfl,rfl⟩⟩,⟨rfl,⟨rfl,rfl⟩⟩⟩,⟨⟨rfl,⟨rfl,rfl⟩⟩,⟨⟨rfl,rfl⟩,⟨rfl,rfl⟩⟩⟩⟩,⟨⟨⟨rfl,⟨rfl,rfl⟩⟩,⟨rfl,⟨rfl,rfl⟩⟩⟩,⟨⟨rfl,⟨rfl,rfl⟩⟩,⟨⟨rfl,rfl⟩,⟨rfl,rfl⟩⟩⟩⟩⟩,⟨⟨⟨⟨rfl,⟨rfl,rfl⟩⟩,⟨rfl,⟨rfl,rfl⟩⟩⟩,⟨⟨rfl,⟨rfl,rfl⟩⟩,⟨⟨rfl,rfl⟩,⟨rfl,rfl⟩⟩⟩⟩,⟨⟨⟨rfl,⟨rfl,rfl⟩⟩,⟨⟨rfl,rfl⟩,⟨rfl,rfl⟩⟩⟩,⟨⟨rfl,⟨rfl,rfl⟩⟩,⟨⟨rfl,rfl⟩,⟨rfl,rfl⟩⟩⟩⟩⟩⟩⟩⟩⟩
theorem BASE : (((((type_of% @Option.getD_some.{0} ∧ type_of% @List.getD_cons_zero.{0}) ∧ (type_of% @List.getD_cons_succ.{0} ∧ (type_of% @List.length_cons.{0} ∧ type_of% @List.length_nil.{0}))) ∧ ((type_of% @List.take_succ_cons.{0} ∧ (type_of% @List.take_zero.{0} ∧ type_of% @List.drop_succ_cons.{0})) ∧ (type_of% @List.drop_zero.{0} ∧ (type_of% @List.nil_append.{0} ∧ type_of% @List.cons_append.{0})))) ∧ (((type_of% @List.append_nil.{0} ∧ type_of% @List.getElem?_cons_zero.{0}) ∧ (type_of% @List.getElem?_cons_succ.{0} ∧ (type_of% @List.set_cons_zero.{0} ∧ type_of% @List.set_cons_succ.{0}))) ∧ ((type_of% @List.contains_nil.{0} ∧ (type_of% @List.contains_cons.{0} ∧ type_of% @List.take_nil.{0})) ∧ (type_of% @List.drop_nil.{0} ∧ (type_of% @List.isEmpty_nil.{0} ∧ type_of% @List.all_cons.{0}))))) ∧ ((((type_of% @List.all_nil.{0} ∧ type_of% @List.isEmpty_cons.{0}) ∧ (type_of% @List.replicate_succ.{0} ∧ (type_of% @List.replicate_zero.{0} ∧ type_of% @Option.isSome_some.{0}))) ∧ ((type_of% @Option.isSome_none.{0} ∧ (type_of% @Option.isNone_none.{0} ∧ type_of% @Option.isNone_some.{0})) ∧ (type_of% @Option.getD_none.{0} ∧ (type_of% @Option.map_some.{0,0} ∧ type_of% @Option.bind_some.{0,0})))) ∧ (((type_of% @List.map_cons.{0,0} ∧ type_of% @List.map_nil.{0,0}) ∧ (type_of% @List.flatMap_cons.{0,0} ∧ (type_of% @List.flatMap_nil.{0,0} ∧ type_of% @Option.map_none.{0,0}))) ∧ ((type_of% @Bool.false_and ∧ (type_of% @Bool.true_and ∧ type_of% @Bool.and_true)) ∧ (type_of% @Bool.and_false ∧ (type_of% @Bool.false_or ∧ type_of% @Bool.true_or)))))):=
  ⟨⟨⟨⟨⟨@Option.getD_some.{0},@List.getD_cons_zero.{0}⟩,⟨@List.getD_cons_succ.{0},⟨@List.length_cons.{0},@List.length_nil.{0}⟩⟩⟩,⟨⟨@List.take_succ_cons.{0},⟨@List.take_zero.{0},@List.drop_succ_cons.{0}⟩⟩,⟨@List.drop_zero.{0},⟨@List.nil_append.{0},@List.cons_append.{0}⟩⟩⟩⟩,⟨⟨⟨@List.append_nil.{0},@List.getElem?_cons_zero.{0}⟩,⟨@List.getElem?_cons_succ.{0},⟨@List.set_cons_zero.{0},@List.set_cons_succ.{0}⟩⟩⟩,⟨⟨@List.contains_nil.{0},⟨@List.contains_cons.{0},@List.take_nil.{0}⟩⟩,⟨@List.drop_nil.{0},⟨@List.isEmpty_nil.{0},@List.all_cons.{0}⟩⟩⟩⟩⟩,⟨⟨⟨⟨@List.all_nil.{0},@List.isEmpty_cons.{0}⟩,⟨@List.replicate_succ.{0},⟨@List.replicate_zero.{0},@Option.isSome_some.{0}⟩⟩⟩,⟨⟨@Option.isSome_none.{0},⟨@Option.isNone_none.{0},@Option.isNone_some.{0}⟩⟩,⟨@Option.getD_none.{0},⟨@Option.map_some.{0,0},@Option.bind_some.{0,0}⟩⟩⟩⟩,⟨⟨⟨@List.map_cons.{0,0},@List.map_nil.{0,0}⟩,⟨@List.flatMap_cons.{0,0},⟨@List.flatMap_nil.{0,0},@Option.map_none.{0,0}⟩⟩⟩,⟨⟨@Bool.false_and,⟨@Bool.true_and,@Bool.and_true⟩⟩,⟨@Bool.and_false,⟨@Bool.false_or,@Bool.true_or⟩⟩⟩⟩⟩⟩
end GoV
