/- Parts of the proof: M1. Conditions: as each statement says. -/
import Derived.WalkKit
import Derived.Orders
import Derived.Deep.MidRow
import Derived.Below
import Derived.Laws.AppendOwn
import Derived.Laws.StructEq
import Derived.Laws.BytesString
import Derived.Laws.Slices
set_option maxRecDepth 100000
set_option maxHeartbeats 8000000
set_option linter.unusedVariables false
set_option linter.unusedSimpArgs false
set_option linter.unusedSectionVars false
namespace Go.Proofs.YthcnhibjddomdaaGreat
open Go
inductive AV where
  | int (k:IntKind) (n:Int)
  | bool (b:Bool)
  | str (s:ByteArray)
  | agg (cs:List AV)
  | tup (cs:List AV)
  | data (bor:Bool) (k:Nat) (es:List (List AV)) (full:Bool)
  | dptr (cs:List AV)
  | own (id gen start len cap:Nat)
  | ptr (id gen e off:Nat)
  | fn (f:Fn) (first caps:List AV)
  | nilfn
  | nilptr
  | unk
  deriving Inhabited
structure zf where
  k:Nat
  gen:Nat
  flat:Bool
  es:List (List AV)
mutual
def AV.stable:AV→Bool
  | .int _ _ | .bool _ | .str _ | .nilfn | .nilptr=>true
  | .data bor _ _ _=> !bor
  | .agg cs | .tup cs=>AV.stableL cs
  | .fn _ a b=>AV.stableL a&&AV.stableL b
  | .dptr _ | .own .. | .ptr .. | .unk=>false
def AV.stableL:List AV→Bool
  | []=>true
  | v::vs=>v.stable&&AV.stableL vs
end
abbrev yF:=List (Nat×AV)
def look:yF→Nat→Option AV
  | [],_=>none
  | (k,v)::r,n=>if k=n then some v else look r n
inductive zD where
  | slot (n:Nat)
  | const (v:AV)
  | glob (g:Nat)
  | func (f:Nat)
inductive Sh where
  | kb | ki | ks
  deriving DecidableEq
inductive zvc where
  | kf | kp | ks
  deriving DecidableEq
inductive AMd where
  | frz | adp | inl | iso | pk
inductive AOp where
  | mov (x:zD)
  | mknil (k:Nat)
  | pick (c a b:zD)
  | alloc (zero:List AV)
  | box (m:Nat) (x:zD)
  | build (zero:List AV) (parts:List (Nat×Nat×zD))
  | mkslice (k n:Nat) (zero:List AV) (parts:List (Nat×zD))
  | mkdata (k n:Nat) (zero:List AV) (parts:List (Nat×zD))
  | load (agg:Bool) (m:Nat) (x:zD)
  | store (agg:Bool) (m:Nat) (p x:zD)
  | nilchk (x:zD)
  | bin (op:BinOp) (x y:zD)
  | eq (agg:Bool) (sh:List Sh) (neg:Bool) (x y:zD)
  | isnil (k:zvc) (neg:Bool) (x:zD)
  | not (x:zD)
  | neg (x:zD)
  | conv (k:IntKind) (x:zD)
  | rstr (x:zD)
  | bstr (x:zD)
  | strb (x:zD)
  | mark (x:zD)
  | melt (x:zD)
  | idxd (k:Nat) (x i:zD)
  | loadd (agg:Bool) (m:Nat) (x:zD)
  | cvs (x:zD)
  | mkfn (f:Fn) (first caps:List zD)
  | mkrow (k bytes:Nat) (zero:List AV) (l c:zD)
  | sl (k:Nat) (x:zD) (lo hi mx:Option zD)
  | slstr (x:zD) (lo hi:Option zD)
  | faddr (off:Nat) (x:zD)
  | field (agg:Bool) (m off:Nat) (x:zD)
  | idx (k:Nat) (x i:zD)
  | idxarr (k n:Nat) (x i:zD)
  | idxv (agg:Bool) (m n:Nat) (x i:zD)
  | idxs (x i:zD)
  | extract (i:Nat) (x:zD)
  | len (isStr:Bool) (x:zD)
  | lenarr (n:Nat)
  | append (k bytes:Nat) (x y:zD)
  | appendD (k bytes:Nat) (x y:zD)
  | copy (k:Nat) (x y:zD)
  | clear (zero:List AV) (x:zD)
  | max (x y:zD)
  | min (x y:zD)
  | call (md:AMd) (f:Nat) (args:List zD)
  | callv (x:zD) (args:List zD)
def AOp.early:AOp→Bool
  | .mkslice .. | .alloc _=>true
  | _=>false
structure zb where
  dst:Option Nat
  guard:Option (Nat×Bool)
  op:AOp
inductive zt where
  | skip
  | region (ops:List zb) (draw:Bool) (live:List Nat)
  | regionQ (ops:List zb) (pm:List Nat) (qs:List (Nat×List Nat)) (live:List Nat)
  | seq (a b:zt)
  | cond (c:zD) (thn els:zt)
  | block (id:Nat) (body:zt)
  | loop (live:List Nat) (body:zt)
  | exit (id:Nat)
  | ret
  | dead
inductive zdj where
  | slot (n:Nat)
  | cell (n:Nat) (agg:Bool) (m:Nat)
structure AFn where
  body:zt
  res:List zdj
structure ASt where
  env:yF
  h:List zf
inductive AEx where
  | normal
  | exit (id:Nat)
  | ret
  deriving DecidableEq
section ops
variable (G:Nat→Option (List AV))
def zo (env:yF):zD→Option AV
  | .slot n=>look env n
  | .const v=>some v
  | .glob g=>(G g).map .dptr
  | .func f=>some (.fn (.func f) [] [])
def zaq (agg:Bool) (m off:Nat) (g:List AV):Option AV:=
  if agg then (if off+m≤g.length then some (.agg ((g.drop off).take m)) else none) else g[off]?
def AV.cells:AV→Option (List AV)
  | .agg cs=>some cs
  | .tup _ | .unk=>none
  | v=>some [v]
def UL (h:List zf) (agg:Bool) (m:Nat):AV→Option AV
  | .ptr id gen e off=>(h[id]?).bind fun r=>if r.gen=gen then (r.es[e]?).bind (zaq agg m off) else none
  | .dptr cs=>zaq agg m 0 cs
  | _=>none
def patch (off:Nat) (cs g:List AV):List AV:=g.take off++cs++g.drop (off+cs.length)
def zf.put (r:zf) (e:Nat) (g:List AV) (st:Bool):zf:={ r with es:=r.es.set e g,flat:=r.flat&&st }
def IR (h:List zf) (agg:Bool) (m:Nat) (p v:AV):Option (List zf):=
  match p with
  | .ptr id gen e off=>(h[id]?).bind fun r=>if r.gen=gen then (r.es[e]?).bind fun g=>
      if agg then
        match v with
        | .agg cs=>if cs.length=m∧off+m≤g.length then some (h.set id (r.put e (patch off cs g) (AV.stableL cs))) else none
        | _=>none
      else
        match v with
        | .agg _ | .tup _ | .unk=>none
        | v=>if off<g.length then some (h.set id (r.put e (g.set off v) v.stable)) else none
    else none
  | _=>none
def Dt (k:IntKind) (n:Int):AV:=.int k (k.wrap n)
def PS:BinOp→AV→AV→Option AV
  | .add,.str a,.str b=>if ((a.size+b.size:Nat):Int)>IntKind.i64.max then none else some (.str (a++b))
  | .shl,.int k a,.int _ b=>if b<0 then none else some (.int k (k.wrap (a * 2^min b.toNat k.bits)))
  | .shr,.int k a,.int _ b=>if b<0 then none else some (.int k (a.fdiv (2^min b.toNat k.bits)))
  | op,.int k a,.int k' b=>
    if k=k' then
      match op with
      | .add=>some (Dt k (a+b))
      | .sub=>some (Dt k (a - b))
      | .mul=>some (Dt k (a * b))
      | .quo=>if b=0 then none else some (Dt k (a.tdiv b))
      | .rem=>if b=0 then none else some (.int k (a.tmod b))
      | .and=>some (Dt k ((BitVec.ofInt k.bits a &&& BitVec.ofInt k.bits b).toNat))
      | .or=>some (Dt k ((BitVec.ofInt k.bits a ||| BitVec.ofInt k.bits b).toNat))
      | .andNot=>some (Dt k ((BitVec.ofInt k.bits a &&& ~~~(BitVec.ofInt k.bits b)).toNat))
      | .eql=>some (.bool (a==b))
      | .neq=>some (.bool (a != b))
      | .lss=>some (.bool (decide (a<b)))
      | .leq=>some (.bool (decide (a≤b)))
      | .gtr=>some (.bool (decide (a>b)))
      | .geq=>some (.bool (decide (a≥b)))
      | _=>none
    else none
  | _,_,_=>none
def WJ:Sh→AV→AV→Option Bool
  | .ki,.int k a,.int k' b=>if k=k' then some (a==b) else none
  | .kb,.bool a,.bool b=>some (a==b)
  | .ks,.str a,.str b=>some (a==b)
  | _,_,_=>none
def vR:List Sh→List AV→List AV→Option Bool
  | [],[],[]=>some true
  | s::ss,a::asx,b::bs=>(WJ s a b).bind fun x=>(vR ss asx bs).bind fun y=>some (x&&y)
  | _,_,_=>none
def aeq:Bool→List Sh→AV→AV→Option Bool
  | true,sh,.agg asx,.agg bs=>vR sh asx bs
  | false,[s],a,b=>WJ s a b
  | _,_,_,_=>none
def zg4:zvc→AV→Option Bool
  | .kf,.nilfn=>some true
  | .kp,.nilptr=>some true
  | .kf,.fn .. =>some false
  | .kp,.ptr .. =>some false
  | .kp,.dptr _=>some false
  | .ks,.own _ _ _ l _=>if 0<l then some false else none
  | .ks,.data _ _ es _=>match es with
    | []=>none
    | _::_=>some false
  | _,_=>none
def LG (s:ByteArray):List (List AV):=s.data.toList.map fun b=>[.int .u8 (b.toNat:Int)]
def AV.tob (b:Bool) (v:AV):AV:=match v with
  | .data c k es f=>.data (b||c) k es f
  | .int k n=>.int k n
  | .bool x=>.bool x
  | .str s=>.str s
  | .nilfn=>.nilfn
  | .nilptr=>.nilptr
  | v=>if b then .unk else v
def zez (b:Bool) (g:List AV):List AV:=g.map (AV.tob b)
def zg3 (b:Bool) (g:List AV):AV:=.dptr (zez b g)
def AV.plain:AV→Bool
  | .int _ _ | .bool _ | .str _ | .nilfn | .nilptr=>true
  | _=>false
def uC (es:List (List AV)):Bool:=es.all fun g=>g.all AV.plain
def oJ (h:List zf) (k:Nat):AV→Option (List (List AV)×Bool)
  | .own id gen s l _=>(h[id]?).bind fun r=>if r.gen=gen∧r.k=k∧s+l≤r.es.length then some ((r.es.drop s).take l,r.flat) else none
  | .data bor k' es _=>if k'=k then (if (!bor||uC es)=true then some (es,true) else none) else none
  | _=>none
def Ig:List (List AV)→Option (List UInt8)
  | []=>some []
  | [.int .u8 n]::es=>(Ig es).map (UInt8.ofNat n.toNat::·)
  | _=>none
def uR (n bytes:Nat):Bool:=decide (n * bytes≤140737488355328)
def zkx (h:List zf) (k bytes:Nat) (x y:AV):Option (AV×List zf):=
  (oJ h k y).bind fun ys=>
  match x with
  | .own id gen s l c=>(h[id]?).bind fun r=>
      if l<c∧l+ys.1.length≤c then (if r.gen=gen∧r.k=k∧s+(l+ys.1.length)≤r.es.length then
        some (.own id gen s (l+ys.1.length) c,h.set id ⟨k,gen,r.flat&&ys.2,r.es.take (s+l)++ys.1++r.es.drop (s+l+ys.1.length)⟩) else none)
      else if r.gen=gen∧r.k=k∧s+l≤r.es.length∧uR (l+ys.1.length) bytes=true then
        some (.own id (gen+1) 0 (l+ys.1.length) (l+ys.1.length),h.set id ⟨k,gen+1,r.flat&&ys.2,(r.es.drop s).take l++ys.1⟩) else none
  | .data bo k' es true=>
    match es with
    | []=>if uR ys.1.length bytes=true then some (.own h.length 0 0 ys.1.length ys.1.length,h++[⟨k,0,ys.2,ys.1⟩]) else none
    | e::es=>match ys.1 with
      | []=>some (x,h)
      | _=>if k'=k∧uR (es.length+1+ys.1.length) bytes=true∧(!bo||uC (e::es))=true then some (.own h.length 0 0 (es.length+1+ys.1.length) (es.length+1+ys.1.length),h++[⟨k,0,ys.2,e::es++ys.1⟩]) else none
  | _=>none
def zhE (h:List zf) (k bytes:Nat) (x y:AV):Option AV:=
  (oJ h k y).bind fun ys=>
  match x with
  | .data false k' es true=>if (es.isEmpty||k'==k)=true∧ys.2=true∧uR (es.length+ys.1.length) bytes=true then some (.data false k (es++ys.1) false) else none
  | _=>none
def zGA (h:List zf) (k:Nat) (x y:AV):Option (AV×List zf):=
  (oJ h k y).bind fun ys=>
  match x with
  | .own id gen s l _=>(h[id]?).bind fun r=>if r.gen=gen∧r.k=k∧s+l≤r.es.length then
      some (.int .i64 (min ys.1.length l:Nat),h.set id ⟨r.k,r.gen,r.flat&&ys.2,r.es.take s++ys.1.take (min ys.1.length l)++r.es.drop (s+min ys.1.length l)⟩) else none
  | _=>none
def om (b:Nat):Option AV→Option Nat
  | none=>some b
  | some (.int _ i)=>if 0≤i then some i.toNat else none
  | _=>none
def zcr (h:List zf) (k:Nat) (x:AV) (lo hi mx:Option AV):Option AV:=
  match x with
  | .own id gen s l c=>(om 0 lo).bind fun a=>(om l hi).bind fun b=>(om c mx).bind fun m=>
      (h[id]?).bind fun r=>if r.gen=gen∧r.k=k then if a≤b∧b≤m∧m≤c then some (.own id gen (s+a) (b - a) (m - a)) else none else none
  | .data bor k' es full=>(om 0 lo).bind fun a=>(om es.length hi).bind fun b=>(om es.length mx).bind fun m=>
      if k'=k then if a≤b∧b≤m∧m≤es.length then some (.data bor k ((es.take b).drop a) (match mx with | some _=>decide (m=b) | none=>full&&decide (b=es.length))) else none else none
  | _=>none
def zEE (x:AV) (lo hi:Option AV):Option AV:=
  match x with
  | .str s=>(om 0 lo).bind fun a=>(om s.size hi).bind fun b=>if a≤b∧b≤s.size then some (.str (s.extract a b)) else none
  | _=>none
def FB (h:List zf) (k:Nat):AV→AV→Option AV
  | .own id gen s l _,.int _ i=>(h[id]?).bind fun r=>if r.gen=gen∧r.k=k then if 0≤i∧i<l then some (.ptr id gen (s+i.toNat) 0) else none else none
  | .data b k' es _,.int _ i=>if k'=k then if 0≤i then (es[i.toNat]?).map (zg3 b) else none else none
  | _,_=>none
def zkQ (k n:Nat):AV→AV→Option AV
  | .ptr id gen e off,.int _ i=>if 0≤i∧i<n then some (.ptr id gen e (off+i.toNat * k)) else none
  | .dptr cs,.int _ i=>if 0≤i∧i<n then some (.dptr (cs.drop (i.toNat * k))) else none
  | _,_=>none
def zAd (agg:Bool) (m n:Nat):AV→AV→Option AV
  | .agg cs,.int _ i=>if 0≤i∧i<n then zaq agg m (i.toNat * m) cs else none
  | _,_=>none
def zGB:AV→AV→Option AV
  | .str s,.int _ i=>if 0≤i then (s.data.toList[i.toNat]?).map fun b=>.int .u8 (b.toNat:Int) else none
  | _,_=>none
def zkE (off:Nat):AV→Option AV
  | .ptr id gen e o=>some (.ptr id gen e (o+off))
  | .dptr cs=>some (.dptr (cs.drop off))
  | _=>none
def Db (zero:List AV):List (Nat×Nat×AV)→Option (List AV)
  | []=>some zero
  | (off,m,v)::ps=>v.cells.bind fun cs=>if cs.length=m∧off+m≤zero.length then Db (patch off cs zero) ps else none
def Dv (k:Nat) (es:List (List AV)):List (Nat×AV)→Option (List (List AV))
  | []=>some es
  | (i,v)::ps=>v.cells.bind fun cs=>if cs.length=k∧i<es.length then Dv k (es.set i cs) ps else none
def Sv (es:List (List AV)):Bool:=es.all AV.stableL
def zbi:Bool→AV→Option AV
  | false,.own _ _ _ l _=>some (.int .i64 l)
  | false,.data _ _ es _=>some (.int .i64 es.length)
  | true,.str s=>some (.int .i64 s.size)
  | _,_=>none
def zgf (f:Int→Int→Bool):AV→AV→Option AV
  | .int k a,.int k' b=>if k=k' then some (.int k (if f b a then b else a)) else none
  | _,_=>none
def zos:AV→Option AV
  | .str _=>none
  | v=>some v
def zbG (env:yF):Option zD→Option (Option AV)
  | none=>some none
  | some o=>(zo G env o).bind fun v=>some (some v)
def dvL (f:AV→Option (AV×List Nat)):List AV→Option (List AV×List Nat)
  | []=>some ([],[])
  | v::vs=>(f v).bind fun p=>(dvL f vs).bind fun q=>some (p.1::q.1,p.2++q.2)
def zFY (f:AV→Option (AV×List Nat)):List (List AV)→Option (List (List AV)×List Nat)
  | []=>some ([],[])
  | g::gs=>(dvL f g).bind fun p=>(zFY f gs).bind fun q=>some (p.1::q.1,p.2++q.2)
def dv (h:List zf):Nat→AV→Option (AV×List Nat)
  | 0,_=>none
  | n+1,.own id g s l _=>(h[id]?).bind fun r=>if r.gen=g∧s+l≤r.es.length then
      (if r.flat=true then some (.data false r.k ((r.es.drop s).take l) false,[id]) else (zFY (dv h n) ((r.es.drop s).take l)).map fun p=>(.data false r.k p.1 false,id::p.2)) else none
  | n+1,.agg cs=>(dvL (dv h n) cs).map fun p=>(.agg p.1,p.2)
  | _+1,v=>if v.stable=true then some (v,[]) else none
def KD:List Nat→List zf→List zf
  | [],h=>h
  | i::is,h=>(h[i]?).elim (KD is h) fun r=>KD is (h.set i ⟨r.k,r.gen+1,true,[]⟩)
def zHz (h:List zf) (v:AV):Option (AV×List zf):=(dv h 8 v).map fun p=>(p.1,KD p.2 h)
def zHo (k:Nat):AV→AV→Option AV
  | .data b k' es _,.int _ i=>if k'=k then if 0≤i then (es[i.toNat]?).map (zg3 b) else none else none
  | _,_=>none
def zx3 (agg:Bool) (m:Nat):AV→Option AV
  | .dptr cs=>zaq agg m 0 cs
  | _=>none
def aop (env:yF) (h:List zf):AOp→Option (AV×List zf)
  | .mov x=>(zo G env x).map (·,h)
  | .mknil k=>some (.own h.length 0 0 0 0,h++[⟨k,0,true,[]⟩])
  | .pick c a b=>(zo G env c).bind fun
    | .bool c=>(zo G env (if c then a else b)).map (·,h)
    | _=>none
  | .alloc zero=>some (.ptr h.length 0 0 0,h++[⟨zero.length,0,AV.stableL zero,[zero]⟩])
  | .box m x=>(zo G env x).bind fun v=>v.cells.bind fun cs=>if cs.length=m then some (.ptr h.length 0 0 0,h++[⟨m,0,AV.stableL cs,[cs]⟩]) else none
  | .build zero parts=>(parts.mapM fun (p:Nat×Nat×zD)=>(zo G env p.2.2).map fun v=>(p.1,p.2.1,v)).bind fun ps=>(Db zero ps).map fun cs=>(.agg cs,h)
  | .mkslice k n zero parts=>(parts.mapM fun (p:Nat×zD)=>(zo G env p.2).map fun v=>(p.1,v)).bind fun ps=>
      (Dv k (List.replicate n zero) ps).map fun es=>(.own h.length 0 0 n n,h++[⟨k,0,Sv es,es⟩])
  | .mkdata k n zero parts=>(parts.mapM fun (p:Nat×zD)=>(zo G env p.2).map fun v=>(p.1,v)).bind fun ps=>
      (Dv k (List.replicate n zero) ps).bind fun es=>if Sv es then some (.data false k es true,h) else none
  | .load agg m x=>(zo G env x).bind fun p=>(UL h agg m p).map (·,h)
  | .store agg m p x=>(zo G env p).bind fun p=>(zo G env x).bind fun v=>(IR h agg m p v).map (.tup [],·)
  | .nilchk x=>(zo G env x).bind fun
    | .ptr id gen e off=>some (.ptr id gen e off,h)
    | .dptr cs=>some (.dptr cs,h)
    | .fn (.func f) a b=>some (.fn (.func f) a b,h)
    | _=>none
  | .bin op x y=>(zo G env x).bind fun x=>(zo G env y).bind fun y=>(PS op x y).map (·,h)
  | .eq agg sh neg x y=>(zo G env x).bind fun x=>(zo G env y).bind fun y=>(aeq agg sh x y).map fun b=>(.bool (b != neg),h)
  | .isnil k neg x=>(zo G env x).bind fun x=>(zg4 k x).map fun b=>(.bool (b != neg),h)
  | .not x=>(zo G env x).bind fun
    | .bool b=>some (.bool (!b),h)
    | _=>none
  | .neg x=>(zo G env x).bind fun
    | .int k n=>some (Dt k (0 - n),h)
    | _=>none
  | .conv k x=>(zo G env x).bind fun
    | .int _ n=>some (Dt k n,h)
    | _=>none
  | .rstr x=>(zo G env x).bind fun
    | .int _ n=>some (.str (Utf8.encode n),h)
    | _=>none
  | .bstr x=>((zo G env x).bind zos).bind fun v=>(oJ h 1 v).bind fun es=>
      (Ig es.1).map fun bs=>(.str ⟨bs.toArray⟩,h)
  | .strb x=>(zo G env x).bind fun
    | .str s=>some (.own h.length 0 0 s.size s.size,h++[⟨1,0,true,LG s⟩])
    | _=>none
  | .melt x=>(zo G env x).bind (zHz h)
  | .idxd k x i=>(zo G env x).bind fun x=>(zo G env i).bind fun i=>(zHo k x i).map (·,h)
  | .loadd agg m x=>(zo G env x).bind fun p=>(zx3 agg m p).map (·,h)
  | .mark x=>(zo G env x).bind fun
    | .own id g s l c=>(h[id]?).bind fun r=>if r.gen=g∧0<l∧r.k=1 then some (.own id g s l c,h) else none
    | _=>none
  | .cvs x=>(zo G env x).bind fun
    | .str s=>some (.str s,h)
    | _=>none
  | .mkfn f first caps=>(first.mapM (zo G env)).bind fun a=>(caps.mapM (zo G env)).map fun b=>(.fn f a b,h)
  | .mkrow k bytes zero l c=>(zo G env l).bind fun l=>(zo G env c).bind fun c=>
      match l,c with
      | .int .i64 l,.int .i64 c=>if 0≤l∧c=l∧uR l.toNat bytes=true∧zero.length=k then
          some (.own h.length 0 0 l.toNat l.toNat,h++[⟨k,0,AV.stableL zero,List.replicate l.toNat zero⟩]) else none
      | _,_=>none
  | .sl k x lo hi mx=>(zo G env x).bind fun x=>(zbG G env lo).bind fun lo=>
      (zbG G env hi).bind fun hi=>(zbG G env mx).bind fun mx=>(zcr h k x lo hi mx).map (·,h)
  | .slstr x lo hi=>(zo G env x).bind fun x=>(zbG G env lo).bind fun lo=>
      (zbG G env hi).bind fun hi=>(zEE x lo hi).map (·,h)
  | .faddr off x=>(zo G env x).bind fun p=>(zkE off p).map (·,h)
  | .field agg m off x=>(zo G env x).bind fun
    | .agg cs=>(zaq agg m off cs).map (·,h)
    | _=>none
  | .idx k x i=>(zo G env x).bind fun x=>(zo G env i).bind fun i=>(FB h k x i).map (·,h)
  | .idxarr k n x i=>(zo G env x).bind fun x=>(zo G env i).bind fun i=>(zkQ k n x i).map (·,h)
  | .idxv agg m n x i=>(zo G env x).bind fun x=>(zo G env i).bind fun i=>(zAd agg m n x i).map (·,h)
  | .idxs x i=>(zo G env x).bind fun x=>(zo G env i).bind fun i=>(zGB x i).map (·,h)
  | .extract i x=>(zo G env x).bind fun
    | .tup vs=>(vs[i]?).map (·,h)
    | _=>none
  | .len b x=>(zo G env x).bind fun x=>(zbi b x).map (·,h)
  | .lenarr n=>some (.int .i64 n,h)
  | .append k bytes x y=>(zo G env x).bind fun x=>(zo G env y).bind fun y=>zkx h k bytes x y
  | .appendD k bytes x y=>(zo G env x).bind fun x=>(zo G env y).bind fun y=>(zhE h k bytes x y).map (·,h)
  | .copy k x y=>(zo G env x).bind fun x=>(zo G env y).bind fun y=>zGA h k x y
  | .clear zero x=>(zo G env x).bind fun
    | .own id gen s l _=>(h[id]?).bind fun r=>if r.gen=gen∧r.k=zero.length∧s+l≤r.es.length then
        some (.tup [],h.set id ⟨r.k,r.gen,r.flat&&AV.stableL zero,r.es.take s++List.replicate l zero++r.es.drop (s+l)⟩) else none
    | _=>none
  | .max x y=>(zo G env x).bind fun x=>(zo G env y).bind fun y=>(zgf (fun b a=>decide (b>a)) x y).map (·,h)
  | .min x y=>(zo G env x).bind fun x=>(zo G env y).bind fun y=>(zgf (fun b a=>decide (b<a)) x y).map (·,h)
  | .call .. | .callv .. =>none
end ops
end Go.Proofs.YthcnhibjddomdaaGreat
namespace Go.Proofs.YthcnhibjddomdaaGreat
open Go
mutual
def AV.ids:AV→List Nat
  | .own id _ _ _ _ | .ptr id _ _ _=>[id]
  | .agg cs | .tup cs=>AV.idsL cs
  | .fn _ a b=>AV.idsL a++AV.idsL b
  | _=>[]
def AV.idsL:List AV→List Nat
  | []=>[]
  | v::vs=>v.ids++AV.idsL vs
end
mutual
def AV.ren (h:List zf) (low off:Nat) (order:List Nat):AV→AV
  | .own id g s l c=>if id<low then .own id g s l c else match h[id]?,order.idxOf? id with
    | some r,some j=>if r.gen=g then .own (off+j) 0 s l c else .unk
    | _,_=>.unk
  | .ptr id g e o=>if id<low then .ptr id g e o else match h[id]?,order.idxOf? id with
    | some r,some j=>if r.gen=g then .ptr (off+j) 0 e o else .unk
    | _,_=>.unk
  | .agg cs=>.agg (AV.renL h low off order cs)
  | .tup cs=>.tup (AV.renL h low off order cs)
  | .fn f a b=>.fn f (AV.renL h low off order a) (AV.renL h low off order b)
  | v=>v
def AV.renL (h:List zf) (low off:Nat) (order:List Nat):List AV→List AV
  | []=>[]
  | v::vs=>v.ren h low off order::AV.renL h low off order vs
end
def zf.ren (h:List zf) (low off:Nat) (order:List Nat) (r:zf):zf:=
  if r.flat then r else { r with es:=r.es.map (AV.renL h low off order) }
def zf.ids (r:zf):List Nat:=if r.flat then [] else r.es.flatMap AV.idsL
def uD (h:List zf) (low:Nat):Nat→List Nat→List Nat→List Nat
  | 0,_,acc=>acc
  | _+1,[],acc=>acc
  | n+1,i::ws,acc=>if i<low∨acc.contains i=true then uD h low n ws acc else
    match h[i]? with
    | some r=>uD h low n (ws++r.ids) (acc++[i])
    | none=>uD h low n ws acc
def uy (live:List Nat) (env:yF):yF:=live.filterMap fun s=>(look env s).map (s,·)
def Wx (h:List zf) (low:Nat) (order:List Nat):Bool:=decide order.Nodup&&order.all fun i=>decide (low≤i)&&decide (i<h.length)
def Fs (h:List zf) (low off:Nat) (order:List Nat):List zf:=order.filterMap fun i=>(h[i]?).map fun r=>{ r.ren h low off order with gen:=0 }
def agc (base:Nat) (live:List Nat) (st:ASt):Option ASt:=
  let env:=uy live st.env
  let order:=uD st.h base 64 (AV.idsL (env.map (·.2))++(st.h.take base).flatMap zf.ids) []
  if Wx st.h base order then
    some ⟨env.map fun p=>(p.1,p.2.ren st.h base base order),(st.h.take base).map (zf.ren st.h base base order)++Fs st.h base base order⟩
  else none
mutual
def ZC (h:List zf):AV→Option AV
  | .own id g s l _=>(h[id]?).bind fun r=>if r.gen=g∧r.flat=true∧s+l≤r.es.length then some (.data true r.k ((r.es.drop s).take l) false) else none
  | .ptr id g e o=>(h[id]?).bind fun r=>if r.gen=g∧r.flat=true then (r.es[e]?).map fun c=>.dptr (c.drop o) else none
  | .agg cs=>(yE h cs).map .agg
  | .tup cs=>(yE h cs).map .tup
  | .fn f a b=>if AV.stableL a&&AV.stableL b then some (.fn f a b) else none
  | .unk=>none
  | v=>some v
def yE (h:List zf):List AV→Option (List AV)
  | []=>some []
  | v::vs=>(ZC h v).bind fun x=>(yE h vs).map (x::·)
end
mutual
def yn (h:List zf):AV→Option AV
  | .own id g s l _=>(h[id]?).bind fun r=>if r.gen=g∧r.flat=true∧s+l≤r.es.length then some (.data false r.k ((r.es.drop s).take l) false) else none
  | .data false k es _=>some (.data false k es false)
  | .agg cs=>(yc h cs).map .agg
  | .tup cs=>(yc h cs).map .tup
  | .int k n=>some (.int k n)
  | .bool b=>some (.bool b)
  | .str s=>some (.str s)
  | .nilfn=>some .nilfn
  | .nilptr=>some .nilptr
  | .fn f a b=>if AV.stableL a&&AV.stableL b then some (.fn f a b) else none
  | _=>none
def yc (h:List zf):List AV→Option (List AV)
  | []=>some []
  | v::vs=>(yn h v).bind fun x=>(yc h vs).map (x::·)
end
mutual
def AV.clean:AV→Bool
  | .data bor _ _ _=> !bor
  | .dptr _=>false
  | .agg cs | .tup cs=>AV.cleanL cs
  | .fn _ a b=>AV.cleanL a&&AV.cleanL b
  | _=>true
def AV.cleanL:List AV→Bool
  | []=>true
  | v::vs=>v.clean&&AV.cleanL vs
end
def zc9 (h h':List zf) (r:AV):Option (AV×List zf):=
  let order:=uD h' 0 64 r.ids []
  if Wx h' 0 order&&r.clean&&order.all (fun i=>match h'[i]? with | some r=>r.flat||r.es.all AV.cleanL | none=>false) then
    some (r.ren h' 0 h.length order,h++Fs h' 0 h.length order)
  else none
mutual
def AV.same:AV→AV→Bool
  | .int k n,.int k' n'=>decide (k=k')&&decide (n=n')
  | .bool a,.bool b=>decide (a=b)
  | .str a,.str b=>decide (a.data.toList=b.data.toList)
  | .agg asx,.agg bs=>AV.sameL asx bs
  | .tup asx,.tup bs=>AV.sameL asx bs
  | .data b k es f,.data b' k' es' f'=>decide (b=b')&&decide (k=k')&&decide (f=f')&&AV.sameLL es es'
  | .dptr asx,.dptr bs=>AV.sameL asx bs
  | .own a b c d e,.own a' b' c' d' e'=>decide (a=a')&&decide (b=b')&&decide (c=c')&&decide (d=d')&&decide (e=e')
  | .ptr a b c d,.ptr a' b' c' d'=>decide (a=a')&&decide (b=b')&&decide (c=c')&&decide (d=d')
  | .fn f asx bs,.fn f' as' bs'=>decide (f=f')&&AV.sameL asx as'&&AV.sameL bs bs'
  | .nilfn,.nilfn=>true
  | .nilptr,.nilptr=>true
  | .unk,.unk=>true
  | _,_=>false
def AV.sameL:List AV→List AV→Bool
  | [],[]=>true
  | a::asx,b::bs=>a.same b&&AV.sameL asx bs
  | _,_=>false
def AV.sameLL:List (List AV)→List (List AV)→Bool
  | [],[]=>true
  | a::asx,b::bs=>AV.sameL a b&&AV.sameLL asx bs
  | _,_=>false
end
mutual
theorem AV.same_iff:∀ (a b:AV),a.same b=true↔a=b
  | .int k n,b=>by cases b<;>simp [AV.same]
  | .bool x,b=>by cases b<;>simp [AV.same]
  | .str x,b=>by
    cases b<;>simp [AV.same]
    rename_i y
    constructor
    · intro h;cases x;cases y;simp at h;rw [h]
    · intro h;rw [h]
  | .agg asx,b=>by cases b<;>simp [AV.same,AV.sameL_iff asx]
  | .tup asx,b=>by cases b<;>simp [AV.same,AV.sameL_iff asx]
  | .data b0 k es f,b=>by cases b<;>simp [AV.same,AV.sameLL_iff es];grind
  | .dptr asx,b=>by cases b<;>simp [AV.same,AV.sameL_iff asx]
  | .own ..,b=>by cases b<;>simp [AV.same];grind
  | .ptr ..,b=>by cases b<;>simp [AV.same];grind
  | .fn f asx bs,b=>by cases b<;>simp [AV.same,AV.sameL_iff asx,AV.sameL_iff bs];grind
  | .nilfn,b=>by cases b<;>simp [AV.same]
  | .nilptr,b=>by cases b<;>simp [AV.same]
  | .unk,b=>by cases b<;>simp [AV.same]
theorem AV.sameL_iff:∀ (a b:List AV),AV.sameL a b=true↔a=b
  | [],b=>by cases b<;>simp [AV.sameL]
  | x::a,b=>by cases b<;>simp [AV.sameL,AV.same_iff x,AV.sameL_iff a]
theorem AV.sameLL_iff:∀ (a b:List (List AV)),AV.sameLL a b=true↔a=b
  | [],b=>by cases b<;>simp [AV.sameLL]
  | x::a,b=>by cases b<;>simp [AV.sameLL,AV.sameL_iff x,AV.sameLL_iff a]
end
instance:DecidableEq AV:=fun a b=>decidable_of_iff _ (AV.same_iff a b)
instance:DecidableEq zf:=fun a b=>decidable_of_iff (a.k=b.k∧a.gen=b.gen∧a.flat=b.flat∧a.es=b.es) (by cases a;cases b;simp)
abbrev uE:=Nat→List AV→List zf→Option (AV×List zf)
mutual
def AV.mapid (f:Nat→Option (Nat×Nat)):AV→AV
  | .own id g s l c=>match f id with
    | some i=>.own i.1 (i.2+g) s l c
    | none=>.unk
  | .ptr id g e o=>match f id with
    | some i=>.ptr i.1 (i.2+g) e o
    | none=>.unk
  | .agg cs=>.agg (AV.mapidL f cs)
  | .tup cs=>.tup (AV.mapidL f cs)
  | .fn g a b=>.fn g (AV.mapidL f a) (AV.mapidL f b)
  | v=>v
def AV.mapidL (f:Nat→Option (Nat×Nat)):List AV→List AV
  | []=>[]
  | v::vs=>v.mapid f::AV.mapidL f vs
end
def zf.mapid (f:Nat→Option (Nat×Nat)) (r:zf):zf:=if r.flat then r else { r with es:=r.es.map (AV.mapidL f) }
def zf.cleanB (r:zf):Bool:=r.flat||r.es.all AV.cleanL
def FO (h:List zf) (order o3 order2:List Nat) (id:Nat):Option (Nat×Nat):=if id<order.length then (if o3.contains id=true then (order[id]?).bind fun i=>(h[i]?).map fun r=>(i,r.gen) else none) else (order2.idxOf? id).map fun j=>(h.length+j,0)
def Lu (f:Nat→Option (Nat×Nat)) (o3:List Nat) (rs:List zf) (t i:Nat) (h:List zf):List zf:=
  match h[i]? with
  | some x=>if o3.contains t=true then (match rs[t]? with
      | some r=>h.set i { r.mapid f with gen:=x.gen+r.gen }
      | none=>h)
    else h.set i ⟨x.k,x.gen+1,true,[]⟩
  | none=>h
def YC (f:Nat→Option (Nat×Nat)) (o3:List Nat) (rs:List zf):Nat→List Nat→List zf→List zf
  | _,[],h=>h
  | t,i::is,h=>YC f o3 rs (t+1) is (Lu f o3 rs t i h)
def zkj (h:List zf) (o3:List Nat) (rs:List zf):Nat→List Nat→Bool
  | _,[]=>true
  | t,i::is=>(!o3.contains t||((rs[t]?).elim false fun r=>r.cleanB&&((h[i]?).elim false fun x=>decide (r.k=x.k))))&&zkj h o3 rs (t+1) is
def zBw (f:Nat→Option (Nat×Nat)) (h:List zf) (order:List Nat):List zf:=order.filterMap fun i=>(h[i]?).map (zf.mapid f)
def zDt (h:List zf) (order:List Nat):Bool:=order.all fun i=>(h[i]?).elim false zf.cleanB
def zpR (h:List zf) (order o3:List Nat) (v:AV) (h':List zf):Option (AV×List zf):=
  let order2:=o3.filter fun i=>decide (order.length≤i)
  if Wx h' 0 o3&&v.clean&&zkj h o3 h' 0 order&&zDt h' order2 then
    some (v.mapid (FO h order o3 order2),YC (FO h order o3 order2) o3 h' 0 order h++zBw (FO h order o3 order2) h' order2)
  else none
def zv4 (h:List zf) (args:List AV) (order:List Nat) (v:AV) (h':List zf):Option (AV×List zf):=
  zpR h order (uD h' 0 64 (v.ids++AV.idsL args) []) v h'
def zoJ (h:List zf) (args:List AV):Option (List AV×List zf×List Nat):=
  let order:=uD h 0 64 (AV.idsL args) []
  if Wx h 0 order then some (AV.renL h 0 0 order args,Fs h 0 0 order,order) else none
def zFs (raw:uE) (f:Nat) (args:List AV) (h:List zf):Option (AV×List zf):=
  (zoJ h args).bind fun p=>(raw f p.1 p.2.1).bind fun r=>zv4 h p.1 p.2.2 r.1 r.2
def AV.scalar:AV→Bool
  | .int _ _ | .bool _ | .str _=>true
  | _=>false
def zzb (raw:uE) (f:Nat) (args:List AV) (h:List zf):Option (AV×List zf):=
  (dvL (dv h 8) args).bind fun p=>(raw f p.1 []).bind fun r=>if r.1.scalar=true then some (r.1,h) else none
def zat (raw:uE) (md:AMd) (f:Nat) (args:List AV) (h:List zf):Option (AV×List zf):=
  match md with
  | .frz=>(yE h args).bind fun asx=>(raw f asx []).bind fun r=>(yn r.2 r.1).map (·,h)
  | .adp=>(yE h args).bind fun asx=>(raw f asx []).bind fun r=>zc9 h r.2 r.1
  | .inl=>raw f args h
  | .iso=>zFs raw f args h
  | .pk=>zzb raw f args h
def LZ (env:yF):Option Nat→AV→yF
  | some d,v=>(d,v)::env
  | none,_=>env
section run
variable (G:Nat→Option (List AV))
def zx (raw:uE) (env:yF) (h:List zf):AOp→Option (AV×List zf)
  | .call md f args=>(args.mapM (zo G env)).bind fun asx=>zat raw md f asx h
  | .callv x args=>(zo G env x).bind fun
    | .fn (.func f) a b=>(args.mapM (zo G env)).bind fun asx=>raw f (a++asx++b) h
    | _=>none
  | op=>aop G env h op
def PO (raw:uE) (o:zb) (st:ASt):Option ASt:=
  match o.guard with
  | none=>(zx G raw st.env st.h o.op).map fun r=>⟨LZ st.env o.dst r.1,r.2⟩
  | some (s,want)=>(look st.env s).bind fun
    | .bool b=>if b=want then (zx G raw st.env st.h o.op).map fun r=>⟨LZ st.env o.dst r.1,r.2⟩ else some ⟨LZ st.env o.dst (.tup []),st.h⟩
    | .tup []=>some ⟨LZ st.env o.dst (.tup []),st.h⟩
    | _=>none
def goes (ao:zb) (env:yF):Option Bool:=match ao.guard with
  | none=>some true
  | some (s,want)=>(look env s).bind fun
    | .bool b=>some (b==want)
    | .tup []=>some false
    | _=>none
def JK (raw:uE):List zb→List ASt→ASt→Option (List ASt)
  | [],acc,st=>some (acc++[st])
  | o::os,acc,st=>(PO G raw o st).bind (JK raw os (acc++[st]))
def UU (raw:uE) (o:zb) (s s':ASt) (hm:List zf):Bool:=
  (goes o s.env).elim false fun b=>if b=true then
    (if o.op.early=true then (s'.h[s.h.length]?).elim false fun r=>r.flat&&decide (hm[s.h.length]? =some r)
    else decide (s'.h=s.h)&&((o.dst).elim false fun d=>(zx G raw s.env hm o.op).elim false fun r=>
      decide (look s'.env d=some r.1)&&decide (r.2=hm)&&r.1.ids.all fun i=>decide (i<s.h.length)))
  else true
def Rb (raw:uE) (A:List zb) (Ts:List ASt) (x M:Nat):Bool:=
  (A[x]?).elim false fun o=>(Ts[x]?).elim false fun s=>(Ts[x+1]?).elim false fun s'=>(Ts[M]?).elim false fun m=>UU G raw o s s' m.h
def Wy (raw:uE) (A:List zb) (qs:List (Nat×List Nat)) (Ts:List ASt):Bool:=qs.all fun q=>q.2.all fun M=>Rb G raw A Ts q.1 M
def zgx (raw:uE) (A:List zb) (qs:List (Nat×List Nat)) (st:ASt):Option ASt:=
  (JK G raw A [] st).bind fun Ts=>if Wy G raw A qs Ts=true then Ts.getLast? else none
def jO (raw:uE):List zb→ASt→Option ASt
  | [],st=>some st
  | o::os,st=>(PO G raw o st).bind (jO raw os)
def ziv (env:yF) (h:List zf):zdj→Option AV
  | .slot n=>look env n
  | .cell n agg m=>(look env n).bind (UL h agg m)
def YL (res:List zdj) (st:ASt):Option AV:=
  (res.mapM (ziv st.env st.h)).map fun
    | [v]=>v
    | vs=>.tup vs
def zl (args:List AV):yF:=args.zipIdx.map fun p=>(p.2,p.1)
inductive Dj where
  | fn (f:AFn)
  | ext (F:List AV→List zf→Option (AV×List zf))
def gH (run:Nat→zt→ASt→Option (AEx×ASt)) (F:Nat→Option Dj):uE:=fun f args h=>
  (F f).bind fun
  | .ext E=>E args h
  | .fn fn=>(run h.length fn.body ⟨zl args,h⟩).bind fun r=>match r.1 with
    | .exit _=>none
    | _=>(YL fn.res r.2).map (·,r.2.h)
variable (F:Nat→Option Dj)
def gM:Nat→Nat→zt→ASt→Option (AEx×ASt)
  | 0,_,_,_=>none
  | n+1,base,c,st=>
    match c with
    | .skip=>some (.normal,st)
    | .region ops _ live=>(jO G (gH (gM n) F) ops st).map fun st'=>(.normal,⟨uy live st'.env,st'.h⟩)
    | .regionQ ops _ qs live=>(zgx G (gH (gM n) F) ops qs st).map fun st'=>(.normal,⟨uy live st'.env,st'.h⟩)
    | .seq a b=>(gM n base a st).bind fun r=>match r.1 with
      | .normal=>gM n base b r.2
      | _=>some r
    | .cond c a b=>(zo G st.env c).bind fun
      | .bool t=>gM n base (if t then a else b) st
      | _=>none
    | .block id b=>(gM n base b st).map fun r=>(if r.1=.exit id then .normal else r.1,r.2)
    | .loop live b=>(agc base live st).bind fun st=>(gM n base b st).bind fun r=>match r.1 with
      | .normal=>gM n base (.loop live b) r.2
      | _=>some r
    | .exit id=>some (.exit id,st)
    | .ret=>some (.ret,st)
    | .dead=>none
end run
end Go.Proofs.YthcnhibjddomdaaGreat
namespace Go.Proofs.YthcnhibjddomdaaGreat
open Go
theorem za {α β:Type} {x:Option α} {f:α→Option β} {r:β}:x.bind f=some r↔∃ a,x=some a∧f a=some r:=by cases x<;>simp
theorem ze {α β:Type} {x:Option α} {f:α→β} {r:β}:x.map f=some r↔∃ a,x=some a∧f a=r:=by cases x<;>simp
section
variable (G:Nat→Option (List AV)) (F:Nat→Option Dj)
abbrev ztM:=Nat→zt→ASt→Option (AEx×ASt)
def ztM.le (a b:ztM):Prop:=∀ n c st r,a n c st=some r→b n c st=some r
def uE.le (a b:uE):Prop:=∀ f asx h r,a f asx h=some r→b f asx h=some r
theorem Rw {a b:ztM} (h:a.le b):uE.le (gH a F) (gH b F):=by
  intro f asx hp r hr
  unfold gH at *
  obtain ⟨e,he,hr⟩:=za.1 hr
  refine za.2 ⟨e,he, ?_⟩
  cases e with
  | ext E=>exact hr
  | fn fn=>
    obtain ⟨x,hx,hr⟩:=za.1 hr
    exact za.2 ⟨x,h _ _ _ _ hx,hr⟩
theorem zqx {a b:uE} (h:a.le b) {md:AMd} {f:Nat} {asx:List AV} {hp:List zf} {r:AV×List zf} (hr:zat a md f asx hp=some r):zat b md f asx hp=some r:=by
  cases md with
  | inl=>exact h _ _ _ _ hr
  | frz=>
    obtain ⟨x,hx,hr⟩:=za.1 hr
    obtain ⟨y,hy,hr⟩:=za.1 hr
    exact za.2 ⟨x,hx,za.2 ⟨y,h _ _ _ _ hy,hr⟩⟩
  | adp=>
    obtain ⟨x,hx,hr⟩:=za.1 hr
    obtain ⟨y,hy,hr⟩:=za.1 hr
    exact za.2 ⟨x,hx,za.2 ⟨y,h _ _ _ _ hy,hr⟩⟩
  | iso=>
    obtain ⟨x,hx,hr⟩:=za.1 hr
    obtain ⟨y,hy,hr⟩:=za.1 hr
    exact za.2 ⟨x,hx,za.2 ⟨y,h _ _ _ _ hy,hr⟩⟩
  | pk=>
    obtain ⟨x,hx,hr⟩:=za.1 hr
    obtain ⟨y,hy,hr⟩:=za.1 hr
    exact za.2 ⟨x,hx,za.2 ⟨y,h _ _ _ _ hy,hr⟩⟩
theorem IW {a b:uE} (h:a.le b) {env:yF} {hp:List zf} {o:AOp} {r:AV×List zf} (hr:zx G a env hp o=some r):zx G b env hp o=some r:=by
  cases o with
  | call md f args=>
    obtain ⟨x,hx,hr⟩:=za.1 hr
    exact za.2 ⟨x,hx,zqx h hr⟩
  | callv x args=>
    obtain ⟨v,hv,hr⟩:=za.1 hr
    refine za.2 ⟨v,hv, ?_⟩
    split at hr
    · obtain ⟨y,hy,hr⟩:=za.1 hr
      exact za.2 ⟨y,hy,h _ _ _ _ hr⟩
    · cases hr
  | _=>exact hr
theorem zg7 {a b:uE} (h:a.le b) {o:zb} {st st':ASt} (hr:PO G a o st=some st'):PO G b o st=some st':=by
  unfold PO at *
  split at hr
  · obtain ⟨x,hx,hr⟩:=ze.1 hr
    exact ze.2 ⟨x,IW G h hx,hr⟩
  · obtain ⟨v,hv,hr⟩:=za.1 hr
    refine za.2 ⟨v,hv, ?_⟩
    split at hr
    · split at hr
      · rename_i hb
        rw [if_pos hb]
        obtain ⟨x,hx,hr⟩:=ze.1 hr
        exact ze.2 ⟨x,IW G h hx,hr⟩
      · rename_i hb
        rw [if_neg hb];exact hr
    · exact hr
    · cases hr
theorem zcv {a b:uE} (h:a.le b):∀ {os:List zb} {st st':ASt},jO G a os st=some st'→jO G b os st=some st'
  | [],_,_,hr=>hr
  | _::_,_,_,hr=>by
    obtain ⟨x,hx,hr⟩:=za.1 hr
    exact za.2 ⟨x,zg7 G h hx,zcv h hr⟩
theorem zfx {a b:uE} (h:a.le b):∀ {os:List zb} {acc:List ASt} {st:ASt} {Ts:List ASt},JK G a os acc st=some Ts→JK G b os acc st=some Ts
  | [],_,_,_,hr=>hr
  | _::_,_,_,_,hr=>by
    obtain ⟨x,hx,hr⟩:=za.1 hr
    exact za.2 ⟨x,zg7 G h hx,zfx h hr⟩
theorem PK {α:Type} {x:Option α} {f g:α→Bool} (h:∀ y,x=some y→f y=true→g y=true) (hx:x.elim false f=true):x.elim false g=true:=by
  cases x with
  | none=>exact hx
  | some y=>exact h y rfl hx
theorem ziJ {a b:uE} (h:a.le b) {o:zb} {s s':ASt} {hm:List zf} (hr:UU G a o s s' hm=true):UU G b o s s' hm=true:=by
  unfold UU at *
  refine PK (fun y _ hy=> ?_) hr
  split
  · rename_i hb
    rw [if_pos hb] at hy
    split
    · rename_i he;rw [if_pos he] at hy;exact hy
    · rename_i he
      rw [if_neg he] at hy
      rw [Bool.and_eq_true] at hy ⊢
      refine ⟨hy.1,PK (fun d _ hd=> ?_) hy.2⟩
      cases e:zx G a s.env hm o.op with
      | none=>rw [e] at hd;cases hd
      | some r=>rw [IW G h e];rw [e] at hd;exact hd
  · rfl
theorem zkJ {a b:uE} (h:a.le b) {A:List zb} {qs:List (Nat×List Nat)} {Ts:List ASt} (hr:Wy G a A qs Ts=true):Wy G b A qs Ts=true:=by
  unfold Wy at *
  rw [List.all_eq_true] at *
  intro q hq
  have:=hr q hq
  rw [List.all_eq_true] at *
  intro M hM
  have:=this M hM
  unfold Rb at *
  exact PK (fun _ _=>PK fun _ _=>PK fun _ _=>PK fun _ _=>ziJ G h) this
theorem zgq {a b:uE} (h:a.le b) {A:List zb} {qs:List (Nat×List Nat)} {st st':ASt} (hr:zgx G a A qs st=some st'):zgx G b A qs st=some st':=by
  obtain ⟨Ts,h1,hr⟩:=za.1 hr
  refine za.2 ⟨Ts,zfx G h h1, ?_⟩
  split at hr
  · rename_i hq;rw [if_pos (zkJ G h hq)];exact hr
  · cases hr
theorem NB:∀ n m,n≤m→ztM.le (gM G F n) (gM G F m):=by
  intro n
  induction n with
  | zero=>intro m _ base c st r hr;cases hr
  | succ n ih=>
    intro m hm base c st r hr
    obtain ⟨m,rfl⟩:∃ k,m=k+1:=⟨m - 1,by omega⟩
    have ih:=ih m (by omega)
    cases c with
    | skip=>exact hr
    | exit id=>exact hr
    | ret=>exact hr
    | dead=>cases hr
    | region ops d live=>
      obtain ⟨x,hx,hr⟩:=ze.1 hr
      exact ze.2 ⟨x,zcv G (Rw F ih) hx,hr⟩
    | regionQ ops pm qs live=>
      obtain ⟨x,hx,hr⟩:=ze.1 hr
      exact ze.2 ⟨x,zgq G (Rw F ih) hx,hr⟩
    | seq a b=>
      obtain ⟨x,hx,hr⟩:=za.1 hr
      refine za.2 ⟨x,ih _ _ _ _ hx, ?_⟩
      split at hr
      · exact ih _ _ _ _ hr
      · exact hr
    | cond c a b=>
      obtain ⟨x,hx,hr⟩:=za.1 hr
      refine za.2 ⟨x,hx, ?_⟩
      split at hr
      · exact ih _ _ _ _ hr
      · cases hr
    | block id b=>
      obtain ⟨x,hx,hr⟩:=ze.1 hr
      exact ze.2 ⟨x,ih _ _ _ _ hx,hr⟩
    | loop live b=>
      obtain ⟨x,hx,hr⟩:=za.1 hr
      obtain ⟨y,hy,hr⟩:=za.1 hr
      refine za.2 ⟨x,hx,za.2 ⟨y,ih _ _ _ _ hy, ?_⟩⟩
      split at hr
      · exact ih _ _ _ _ hr
      · exact hr
open Classical in
noncomputable def aE:ztM:=fun base c st=>if h:∃ r n,gM G F n base c st=some r then some (Classical.choose h) else none
noncomputable def aR:uE:=gH (aE G F) F
theorem vU {base:Nat} {c:zt} {st:ASt} {r:AEx×ASt}:aE G F base c st=some r↔∃ n,gM G F n base c st=some r:=by
  unfold aE
  constructor
  · intro h
    split at h
    · rename_i hx
      obtain ⟨n,hn⟩:=Classical.choose_spec hx
      rw [Option.some.inj h] at hn
      exact ⟨n,hn⟩
    · cases h
  · rintro ⟨n,hn⟩
    have hx:∃ r n,gM G F n base c st=some r:=⟨r,n,hn⟩
    rw [dif_pos hx]
    obtain ⟨m,hm⟩:=Classical.choose_spec hx
    have h1:=NB G F n (n+m) (by omega) _ _ _ _ hn
    have h2:=NB G F m (n+m) (by omega) _ _ _ _ hm
    exact congrArg some (Option.some.inj (h2.symm.trans h1))
theorem Sq (n:Nat):ztM.le (gM G F n) (aE G F):=fun _ _ _ _ h=>(vU G F).2 ⟨n,h⟩
theorem zpL {f:Nat} {asx:List AV} {h:List zf} {r:AV×List zf} (hr:aR G F f asx h=some r):∃ n,∀ m,n≤m→gH (gM G F m) F f asx h=some r:=by
  unfold aR gH at hr
  obtain ⟨e,he,hr⟩:=za.1 hr
  cases e with
  | ext E=>exact ⟨0,fun m _=>za.2 ⟨_,he,hr⟩⟩
  | fn fn=>
    obtain ⟨x,hx,hr⟩:=za.1 hr
    obtain ⟨n,hn⟩:=(vU G F).1 hx
    exact ⟨n,fun m hm=>za.2 ⟨_,he,za.2 ⟨x,NB G F n m hm _ _ _ _ hn,hr⟩⟩⟩
def Fin (a:Nat→uE) (b:uE):Prop:=∀ f asx h r,b f asx h=some r→∃ n,∀ m,n≤m→a m f asx h=some r
theorem zux {a:Nat→uE} {b:uE} (h:Fin a b) {md:AMd} {f:Nat} {asx:List AV} {hp:List zf} {r:AV×List zf} (hr:zat b md f asx hp=some r):
    ∃ n,∀ m,n≤m→zat (a m) md f asx hp=some r:=by
  cases md with
  | inl=>exact h _ _ _ _ hr
  | frz=>
    obtain ⟨x,hx,hr⟩:=za.1 hr
    obtain ⟨y,hy,hr⟩:=za.1 hr
    obtain ⟨n,hn⟩:=h _ _ _ _ hy
    exact ⟨n,fun m hm=>za.2 ⟨x,hx,za.2 ⟨y,hn m hm,hr⟩⟩⟩
  | adp=>
    obtain ⟨x,hx,hr⟩:=za.1 hr
    obtain ⟨y,hy,hr⟩:=za.1 hr
    obtain ⟨n,hn⟩:=h _ _ _ _ hy
    exact ⟨n,fun m hm=>za.2 ⟨x,hx,za.2 ⟨y,hn m hm,hr⟩⟩⟩
  | iso=>
    obtain ⟨x,hx,hr⟩:=za.1 hr
    obtain ⟨y,hy,hr⟩:=za.1 hr
    obtain ⟨n,hn⟩:=h _ _ _ _ hy
    exact ⟨n,fun m hm=>za.2 ⟨x,hx,za.2 ⟨y,hn m hm,hr⟩⟩⟩
  | pk=>
    obtain ⟨x,hx,hr⟩:=za.1 hr
    obtain ⟨y,hy,hr⟩:=za.1 hr
    obtain ⟨n,hn⟩:=h _ _ _ _ hy
    exact ⟨n,fun m hm=>za.2 ⟨x,hx,za.2 ⟨y,hn m hm,hr⟩⟩⟩
theorem FH {a:Nat→uE} {b:uE} (h:Fin a b) {env:yF} {hp:List zf} {o:AOp} {r:AV×List zf} (hr:zx G b env hp o=some r):
    ∃ n,∀ m,n≤m→zx G (a m) env hp o=some r:=by
  cases o with
  | call md f args=>
    obtain ⟨x,hx,hr⟩:=za.1 hr
    obtain ⟨n,hn⟩:=zux h hr
    exact ⟨n,fun m hm=>za.2 ⟨x,hx,hn m hm⟩⟩
  | callv x args=>
    obtain ⟨v,hv,hr⟩:=za.1 hr
    split at hr
    · obtain ⟨y,hy,hr⟩:=za.1 hr
      obtain ⟨n,hn⟩:=h _ _ _ _ hr
      exact ⟨n,fun m hm=>za.2 ⟨_,hv,za.2 ⟨y,hy,hn m hm⟩⟩⟩
    · cases hr
  | _=>exact ⟨0,fun _ _=>hr⟩
theorem zj0 {a:Nat→uE} {b:uE} (h:Fin a b) {o:zb} {st st':ASt} (hr:PO G b o st=some st'):∃ n,∀ m,n≤m→PO G (a m) o st=some st':=by
  unfold PO at *
  split at hr
  · obtain ⟨x,hx,hr⟩:=ze.1 hr
    obtain ⟨n,hn⟩:=FH G h hx
    exact ⟨n,fun m hm=>ze.2 ⟨x,hn m hm,hr⟩⟩
  · obtain ⟨v,hv,hr⟩:=za.1 hr
    split at hr
    · split at hr
      · rename_i hb
        obtain ⟨x,hx,hr⟩:=ze.1 hr
        obtain ⟨n,hn⟩:=FH G h hx
        exact ⟨n,fun m hm=>za.2 ⟨_,hv,by simp only [if_pos hb];exact ze.2 ⟨x,hn m hm,hr⟩⟩⟩
      · rename_i hb
        exact ⟨0,fun m hm=>za.2 ⟨_,hv,by simp only [if_neg hb];exact hr⟩⟩
    · exact ⟨0,fun m hm=>za.2 ⟨_,hv,hr⟩⟩
    · cases hr
theorem zm9 {a:Nat→uE} {b:uE} (h:Fin a b):∀ {os:List zb} {st st':ASt},jO G b os st=some st'→∃ n,∀ m,n≤m→jO G (a m) os st=some st'
  | [],_,_,hr=>⟨0,fun _ _=>hr⟩
  | _::_,_,_,hr=>by
    obtain ⟨x,hx,hr⟩:=za.1 hr
    obtain ⟨n,hn⟩:=zj0 G h hx
    obtain ⟨k,hk⟩:=zm9 h hr
    exact ⟨n+k,fun m hm=>za.2 ⟨x,hn m (by omega),hk m (by omega)⟩⟩
theorem zjR {a:Nat→uE} {b:uE} (h:Fin a b):∀ {os:List zb} {acc:List ASt} {st:ASt} {Ts:List ASt},JK G b os acc st=some Ts→∃ n,∀ m,n≤m→JK G (a m) os acc st=some Ts
  | [],_,_,_,hr=>⟨0,fun _ _=>hr⟩
  | _::_,_,_,_,hr=>by
    obtain ⟨x,hx,hr⟩:=za.1 hr
    obtain ⟨n,hn⟩:=zj0 G h hx
    obtain ⟨k,hk⟩:=zjR h hr
    exact ⟨n+k,fun m hm=>za.2 ⟨x,hn m (by omega),hk m (by omega)⟩⟩
theorem Dz {α:Type} {x:Option α} {f:Nat→α→Bool} {g:α→Bool} (h:∀ y,x=some y→g y=true→∃ n,∀ m,n≤m→f m y=true) (hx:x.elim false g=true):∃ n,∀ m,n≤m→x.elim false (f m)=true:=by
  cases x with
  | none=>cases hx
  | some y=>exact h y rfl hx
theorem zlY {α:Type} {f:Nat→α→Bool} {g:α→Bool}:∀ {l:List α},(∀ y ∈ l,g y=true→∃ n,∀ m,n≤m→f m y=true)→l.all g=true→∃ n,∀ m,n≤m→l.all (f m)=true
  | [],_,_=>⟨0,fun _ _=>rfl⟩
  | y::l,h,hx=>by
    rw [List.all_cons,Bool.and_eq_true] at hx
    obtain ⟨n,hn⟩:=h y (by simp) hx.1
    obtain ⟨k,hk⟩:=zlY (fun z hz=>h z (by simp [hz])) hx.2
    exact ⟨n+k,fun m hm=>by rw [List.all_cons,hn m (by omega),hk m (by omega)];rfl⟩
theorem zlG {a:Nat→uE} {b:uE} (h:Fin a b) {o:zb} {s s':ASt} {hm:List zf} (hr:UU G b o s s' hm=true):∃ n,∀ m,n≤m→UU G (a m) o s s' hm=true:=by
  unfold UU at *
  cases hg:goes o s.env with
  | none=>rw [hg] at hr;cases hr
  | some c=>
    rw [hg] at hr
    simp only [Option.elim_some] at hr ⊢
    cases c with
    | false=>exact ⟨0,fun m _=>by simp⟩
    | true=>
      simp only [if_true] at hr ⊢
      by_cases he:o.op.early=true
      · rw [if_pos he] at hr
        exact ⟨0,fun m _=>by rw [if_pos he];exact hr⟩
      · rw [if_neg he] at hr
        simp only [if_neg he]
        rw [Bool.and_eq_true] at hr
        obtain ⟨n,hn⟩:=Dz (f:=fun m d=>(zx G (a m) s.env hm o.op).elim false fun r=>decide (look s'.env d=some r.1)&&decide (r.2=hm)&&r.1.ids.all fun i=>decide (i<s.h.length)) (fun d _ hd=>by
          cases e:zx G b s.env hm o.op with
          | none=>rw [e] at hd;cases hd
          | some r=>
            obtain ⟨n,hn⟩:=FH G h e
            rw [e] at hd
            exact ⟨n,fun m hm=>by rw [hn m hm];exact hd⟩) hr.2
        exact ⟨n,fun m hm=>by rw [Bool.and_eq_true];exact ⟨hr.1,hn m hm⟩⟩
theorem zmi {a:Nat→uE} {b:uE} (h:Fin a b) {A:List zb} {qs:List (Nat×List Nat)} {Ts:List ASt} (hr:Wy G b A qs Ts=true):∃ n,∀ m,n≤m→Wy G (a m) A qs Ts=true:=by
  unfold Wy at *
  refine zlY (fun q _ hq=>zlY (fun M _ hM=> ?_) hq) hr
  unfold Rb at *
  exact Dz (fun _ _ h1=>Dz (fun _ _ h2=>Dz (fun _ _ h3=>Dz (fun _ _ h4=>zlG G h h4) h3) h2) h1) hM
theorem zvu {a:Nat→uE} {b:uE} (h:Fin a b) {A:List zb} {qs:List (Nat×List Nat)} {st st':ASt} (hr:zgx G b A qs st=some st'):∃ n,∀ m,n≤m→zgx G (a m) A qs st=some st':=by
  obtain ⟨Ts,h1,hr⟩:=za.1 hr
  split at hr
  · rename_i hq
    obtain ⟨n,hn⟩:=zjR G h h1
    obtain ⟨k,hk⟩:=zmi G h hq
    exact ⟨n+k,fun m hm=>za.2 ⟨Ts,hn m (by omega),by rw [if_pos (hk m (by omega))];exact hr⟩⟩
  · cases hr
theorem zac {α:Type} {x y:Option α} (h:∀ r,x=some r↔y=some r):x=y:=by
  cases x with
  | none=>cases y with
    | none=>rfl
    | some b=>exact (h b).2 rfl
  | some a=>exact ((h a).1 rfl).symm
theorem zCM (base:Nat) (st:ASt):aE G F base .skip st=some (.normal,st):=(vU G F).2 ⟨1,rfl⟩
theorem zBp (base id:Nat) (st:ASt):aE G F base (.exit id) st=some (.exit id,st):=(vU G F).2 ⟨1,rfl⟩
theorem zFm (base:Nat) (st:ASt):aE G F base .ret st=some (.ret,st):=(vU G F).2 ⟨1,rfl⟩
theorem zuI (base:Nat) (ops:List zb) (d:Bool) (live:List Nat) (st:ASt):
    aE G F base (.region ops d live) st=(jO G (aR G F) ops st).map fun st'=>(.normal,⟨uy live st'.env,st'.h⟩):=by
  refine zac fun r=>⟨fun h=> ?_,fun h=> ?_⟩
  · obtain ⟨n,hn⟩:=(vU G F).1 h
    cases n with
    | zero=>cases hn
    | succ n=>
      obtain ⟨x,hx,hr⟩:=ze.1 hn
      exact ze.2 ⟨x,zcv G (Rw F (Sq G F n)) hx,hr⟩
  · obtain ⟨x,hx,hr⟩:=ze.1 h
    obtain ⟨n,hn⟩:=zm9 G (a:=fun m=>gH (gM G F m) F) (fun _ _ _ _ h=>zpL G F h) hx
    exact (vU G F).2 ⟨n+1,ze.2 ⟨x,hn n (Nat.le_refl _),hr⟩⟩
theorem zoS (base:Nat) (ops:List zb) (pm:List Nat) (qs:List (Nat×List Nat)) (live:List Nat) (st:ASt):
    aE G F base (.regionQ ops pm qs live) st=(zgx G (aR G F) ops qs st).map fun st'=>(.normal,⟨uy live st'.env,st'.h⟩):=by
  refine zac fun r=>⟨fun h=> ?_,fun h=> ?_⟩
  · obtain ⟨n,hn⟩:=(vU G F).1 h
    cases n with
    | zero=>cases hn
    | succ n=>
      obtain ⟨x,hx,hr⟩:=ze.1 hn
      exact ze.2 ⟨x,zgq G (Rw F (Sq G F n)) hx,hr⟩
  · obtain ⟨x,hx,hr⟩:=ze.1 h
    obtain ⟨n,hn⟩:=zvu G (a:=fun m=>gH (gM G F m) F) (fun _ _ _ _ h=>zpL G F h) hx
    exact (vU G F).2 ⟨n+1,ze.2 ⟨x,hn n (Nat.le_refl _),hr⟩⟩
theorem zEB (base:Nat) (a b:zt) (st:ASt):
    aE G F base (.seq a b) st=(aE G F base a st).bind fun r=>match r.1 with | .normal=>aE G F base b r.2 | _=>some r:=by
  refine zac fun r=>⟨fun h=> ?_,fun h=> ?_⟩
  · obtain ⟨n,hn⟩:=(vU G F).1 h
    cases n with
    | zero=>cases hn
    | succ n=>
      obtain ⟨x,hx,hr⟩:=za.1 hn
      refine za.2 ⟨x,Sq G F n _ _ _ _ hx, ?_⟩
      obtain ⟨e,st1⟩:=x
      cases e with
      | normal=>exact Sq G F n _ _ _ _ hr
      | _=>exact hr
  · obtain ⟨x,hx,hr⟩:=za.1 h
    obtain ⟨n,hn⟩:=(vU G F).1 hx
    split at hr
    · rename_i he
      obtain ⟨k,hk⟩:=(vU G F).1 hr
      refine (vU G F).2 ⟨n+k+1,za.2 ⟨x,NB G F n (n+k) (by omega) _ _ _ _ hn, ?_⟩⟩
      simp only [he]
      exact NB G F k (n+k) (by omega) _ _ _ _ hk
    · rename_i he
      refine (vU G F).2 ⟨n+1,za.2 ⟨x,hn, ?_⟩⟩
      split
      · rename_i h2;exact absurd h2 (by simpa using he)
      · exact hr
theorem zBT (base:Nat) (c:zD) (a b:zt) (st:ASt):
    aE G F base (.cond c a b) st=(zo G st.env c).bind fun v=>match v with | .bool t=>aE G F base (if t then a else b) st | _=>none:=by
  refine zac fun r=>⟨fun h=> ?_,fun h=> ?_⟩
  · obtain ⟨n,hn⟩:=(vU G F).1 h
    cases n with
    | zero=>cases hn
    | succ n=>
      obtain ⟨x,hx,hr⟩:=za.1 hn
      refine za.2 ⟨x,hx, ?_⟩
      split at hr
      · exact Sq G F n _ _ _ _ hr
      · cases hr
  · obtain ⟨x,hx,hr⟩:=za.1 h
    split at hr
    · obtain ⟨n,hn⟩:=(vU G F).1 hr
      exact (vU G F).2 ⟨n+1,za.2 ⟨_,hx,hn⟩⟩
    · cases hr
theorem zAC (base id:Nat) (b:zt) (st:ASt):
    aE G F base (.block id b) st=(aE G F base b st).map fun r=>(if r.1=.exit id then .normal else r.1,r.2):=by
  refine zac fun r=>⟨fun h=> ?_,fun h=> ?_⟩
  · obtain ⟨n,hn⟩:=(vU G F).1 h
    cases n with
    | zero=>cases hn
    | succ n=>
      obtain ⟨x,hx,hr⟩:=ze.1 hn
      exact ze.2 ⟨x,Sq G F n _ _ _ _ hx,hr⟩
  · obtain ⟨x,hx,hr⟩:=ze.1 h
    obtain ⟨n,hn⟩:=(vU G F).1 hx
    exact (vU G F).2 ⟨n+1,ze.2 ⟨x,hn,hr⟩⟩
theorem zlr (base:Nat) (live:List Nat) (b:zt) (st:ASt):
    aE G F base (.loop live b) st=(agc base live st).bind fun st=>(aE G F base b st).bind fun r=>match r.1 with | .normal=>aE G F base (.loop live b) r.2 | _=>some r:=by
  refine zac fun r=>⟨fun h=> ?_,fun h=> ?_⟩
  · obtain ⟨n,hn⟩:=(vU G F).1 h
    cases n with
    | zero=>cases hn
    | succ n=>
      obtain ⟨x,hx,hr⟩:=za.1 hn
      obtain ⟨y,hy,hr⟩:=za.1 hr
      refine za.2 ⟨x,hx,za.2 ⟨y,Sq G F n _ _ _ _ hy, ?_⟩⟩
      obtain ⟨e,st1⟩:=y
      cases e with
      | normal=>exact Sq G F n _ _ _ _ hr
      | _=>exact hr
  · obtain ⟨x,hx,hr⟩:=za.1 h
    obtain ⟨y,hy,hr⟩:=za.1 hr
    obtain ⟨n,hn⟩:=(vU G F).1 hy
    split at hr
    · rename_i he
      obtain ⟨k,hk⟩:=(vU G F).1 hr
      refine (vU G F).2 ⟨n+k+1,za.2 ⟨x,hx,za.2 ⟨y,NB G F n (n+k) (by omega) _ _ _ _ hn, ?_⟩⟩⟩
      simp only [he]
      exact NB G F k (n+k) (by omega) _ _ _ _ hk
    · rename_i he
      refine (vU G F).2 ⟨n+1,za.2 ⟨x,hx,za.2 ⟨y,hn, ?_⟩⟩⟩
      split
      · rename_i h2;exact absurd h2 (by simpa using he)
      · exact hr
theorem zGY {f:Nat} {fn:AFn} (hf:F f=some (.fn fn)) (args:List AV) (h:List zf):
    aR G F f args h=(aE G F h.length fn.body ⟨zl args,h⟩).bind fun r=>match r.1 with | .exit _=>none | _=>(YL fn.res r.2).map (·,r.2.h):=by
  unfold aR gH
  rw [hf];rfl
noncomputable def aP (f:Nat) (args:List AV):Option AV:=(aR G F f args []).bind fun r=>yn r.2 r.1
theorem zvb (f:Nat) (args:List AV) (h:List zf):zat (aR G F) .frz f args h=(yE h args).bind fun asx=>(aP G F f asx).map (·,h):=by
  unfold zat aP
  cases yE h args<;>simp [Option.map_bind,Function.comp_def]
theorem ztK (f:Nat) (args:List AV) (h:List zf):zat (aR G F) .adp f args h=(yE h args).bind fun asx=>(aR G F f asx []).bind fun r=>zc9 h r.2 r.1:=rfl
theorem zuF (f:Nat) (args:List AV) (h:List zf):zat (aR G F) .inl f args h=aR G F f args h:=rfl
end
end Go.Proofs.YthcnhibjddomdaaGreat
namespace Go.Proofs.YthcnhibjddomdaaGreat
open Go
theorem zu8 (k:Nat) (v:AV) (r:yF) (n:Nat):look ((k,v)::r) n=if k=n then some v else look r n:=rfl
theorem zvz (env:yF):uy [] env=[]:=rfl
theorem zpQ (s:Nat) (ss:List Nat) (env:yF):uy (s::ss) env=(look env s).elim (uy ss env) fun v=>(s,v)::uy ss env:=by
  unfold uy
  cases h:look env s<;>simp [h]
theorem zvo (env:yF) (d:Nat) (v:AV):LZ env (some d) v=(d,v)::env:=rfl
theorem zvx (env:yF) (v:AV):LZ env none v=env:=rfl
theorem elim_some {α β:Type} (a:α) (b:β) (f:α→β):(some a).elim b f=f a:=rfl
theorem zuk {α β:Type} (b:β) (f:α→β):(none:Option α).elim b f=b:=rfl
theorem zfY {α β:Type} (a:α) (f:α→Option β):(some a).bind f=f a:=rfl
theorem zt3 {α β:Type} (a:α) (f:α→β):(some a).map f=some (f a):=rfl
section
variable (G:Nat→Option (List AV)) (raw:uE) (env:yF) (h:List zf)
theorem zwZ (st:ASt):jO G raw [] st=some st:=rfl
theorem zvr (d:Option Nat) (op:AOp) (os:List zb):jO G raw (⟨d,none,op⟩::os) ⟨env,h⟩=(zx G raw env h op).bind fun r=>jO G raw os ⟨LZ env d r.1,r.2⟩:=by
  rw [jO]
  simp only [PO]
  cases zx G raw env h op<;>rfl
def zke (b:Bool):AV→Option Bool
  | .bool c=>some (c==b)
  | .tup []=>some false
  | _=>none
theorem zoX (d:Option Nat) (s:Nat) (b:Bool) (op:AOp) (os:List zb):jO G raw (⟨d,some (s,b),op⟩::os) ⟨env,h⟩=
    ((look env s).bind (zke b)).bind fun c=>if c=true then (zx G raw env h op).bind fun r=>jO G raw os ⟨LZ env d r.1,r.2⟩ else jO G raw os ⟨LZ env d (.tup []),h⟩:=by
  rw [jO]
  simp only [PO]
  cases look env s with
  | none=>rfl
  | some v=>
    cases v with
    | bool c=>
      simp only [zfY,zke]
      by_cases hc:c=b
      · subst hc
        cases zx G raw env h op<;>simp
      · simp [hc]
    | tup vs=>cases vs<;>rfl
    | _=>rfl
theorem zqf (b c:Bool):zke b (.bool c)=some (c==b):=rfl
theorem zmu (b:Bool):zke b (.tup [])=some false:=rfl
theorem zBX (n:Nat):zo G env (.slot n)=look env n:=rfl
theorem zxr (v:AV):zo G env (.const v)=some v:=rfl
theorem zBC (f:Nat):zo G env (.func f)=some (.fn (.func f) [] []):=rfl
theorem zBB:([]:List zD).mapM (zo G env)=some []:=rfl
theorem zAH (x:zD) (xs:List zD):(x::xs).mapM (zo G env)=(zo G env x).bind fun v=>(xs.mapM (zo G env)).bind fun vs=>some (v::vs):=by
  simp [List.mapM_cons]
theorem zBW (md:AMd) (f:Nat) (args:List zD):zx G raw env h (.call md f args)=(args.mapM (zo G env)).bind fun asx=>zat raw md f asx h:=rfl
def zDF:AV→Option (Nat×List AV×List AV)
  | .fn (.func f) a b=>some (f,a,b)
  | _=>none
theorem zBL (f:Nat) (a b:List AV):zDF (.fn (.func f) a b)=some (f,a,b):=rfl
theorem zxt (x:zD) (args:List zD):zx G raw env h (.callv x args)=((zo G env x).bind zDF).bind fun p=>(args.mapM (zo G env)).bind fun asx=>raw p.1 (p.2.1++asx++p.2.2) h:=by
  simp only [zx]
  cases zo G env x with
  | none=>rfl
  | some v=>
    cases v with
    | fn f a b=>cases f<;>rfl
    | _=>rfl
theorem zFi (x:zD):zx G raw env h (.mov x)=(zo G env x).map (·,h):=rfl
theorem zxi (k:Nat):zx G raw env h (.mknil k)=some (.own h.length 0 0 0 0,h++[⟨k,0,true,[]⟩]):=rfl
def zr9:AV→Option Bool
  | .bool b=>some b
  | _=>none
theorem zzo (b:Bool):zr9 (.bool b)=some b:=rfl
theorem zBx (c a b:zD):zx G raw env h (.pick c a b)=((zo G env c).bind zr9).bind fun c=>(zo G env (if c then a else b)).map (·,h):=by
  simp only [zx,aop]
  cases zo G env c with
  | none=>rfl
  | some v=>cases v<;>rfl
theorem zys (zero:List AV):zx G raw env h (.alloc zero)=some (.ptr h.length 0 0 0,h++[⟨zero.length,0,AV.stableL zero,[zero]⟩]):=rfl
theorem zE9 (m:Nat) (x:zD):zx G raw env h (.box m x)=(zo G env x).bind fun v=>v.cells.bind fun cs=>if cs.length=m then some (.ptr h.length 0 0 0,h++[⟨m,0,AV.stableL cs,[cs]⟩]) else none:=rfl
def FQ:List (Nat×Nat×zD)→Option (List (Nat×Nat×AV))
  | []=>some []
  | (i,m,x)::ps=>(zo G env x).bind fun v=>(FQ ps).bind fun vs=>some ((i,m,v)::vs)
theorem zt7 (ps:List (Nat×Nat×zD)):(ps.mapM fun (p:Nat×Nat×zD)=>(zo G env p.2.2).map fun v=>(p.1,p.2.1,v))=FQ G env ps:=by
  induction ps with
  | nil=>rfl
  | cons p ps ih=>
    rw [List.mapM_cons,ih]
    obtain ⟨i,m,x⟩:=p
    show _=(zo G env x).bind fun v=>(FQ G env ps).bind fun vs=>some ((i,m,v)::vs)
    cases zo G env x with
    | none=>rfl
    | some v=>cases FQ G env ps<;>rfl
theorem zqV:FQ G env []=some []:=rfl
theorem zmM (i m:Nat) (x:zD) (ps:List (Nat×Nat×zD)):FQ G env ((i,m,x)::ps)=(zo G env x).bind fun v=>(FQ G env ps).bind fun vs=>some ((i,m,v)::vs):=rfl
def Px:List (Nat×zD)→Option (List (Nat×AV))
  | []=>some []
  | (i,x)::ps=>(zo G env x).bind fun v=>(Px ps).bind fun vs=>some ((i,v)::vs)
theorem zgn (ps:List (Nat×zD)):(ps.mapM fun (p:Nat×zD)=>(zo G env p.2).map fun v=>(p.1,v))=Px G env ps:=by
  induction ps with
  | nil=>rfl
  | cons p ps ih=>
    rw [List.mapM_cons,ih]
    obtain ⟨i,x⟩:=p
    show _=(zo G env x).bind fun v=>(Px G env ps).bind fun vs=>some ((i,v)::vs)
    cases zo G env x with
    | none=>rfl
    | some v=>cases Px G env ps<;>rfl
theorem zmC:Px G env []=some []:=rfl
theorem zkZ (i:Nat) (x:zD) (ps:List (Nat×zD)):Px G env ((i,x)::ps)=(zo G env x).bind fun v=>(Px G env ps).bind fun vs=>some ((i,v)::vs):=rfl
theorem zy0 (zero:List AV) (ps:List (Nat×Nat×zD)):zx G raw env h (.build zero ps)=(FQ G env ps).bind fun ps=>(Db zero ps).map fun cs=>(.agg cs,h):=by
  rw [← zt7];rfl
theorem zqy (k n:Nat) (zero:List AV) (ps:List (Nat×zD)):zx G raw env h (.mkslice k n zero ps)=
    (Px G env ps).bind fun ps=>(Dv k (List.replicate n zero) ps).map fun es=>(.own h.length 0 0 n n,h++[⟨k,0,Sv es,es⟩]):=by
  rw [← zgn];rfl
theorem zug (k n:Nat) (zero:List AV) (ps:List (Nat×zD)):zx G raw env h (.mkdata k n zero ps)=
    (Px G env ps).bind fun ps=>(Dv k (List.replicate n zero) ps).bind fun es=>if Sv es then some (.data false k es true,h) else none:=by
  rw [← zgn];rfl
theorem zCT (agg:Bool) (m:Nat) (x:zD):zx G raw env h (.load agg m x)=(zo G env x).bind fun p=>(UL h agg m p).map (·,h):=rfl
theorem zzm (agg:Bool) (m:Nat) (p x:zD):zx G raw env h (.store agg m p x)=(zo G env p).bind fun p=>(zo G env x).bind fun v=>(IR h agg m p v).map (.tup [],·):=rfl
def zHt:AV→Option AV
  | .ptr id gen e off=>some (.ptr id gen e off)
  | .dptr cs=>some (.dptr cs)
  | .fn (.func f) a b=>some (.fn (.func f) a b)
  | _=>none
theorem zAt (id gen e off:Nat):zHt (.ptr id gen e off)=some (.ptr id gen e off):=rfl
theorem zvf (x:zD):zx G raw env h (.nilchk x)=((zo G env x).bind zHt).map (·,h):=by
  simp only [zx,aop]
  cases zo G env x with
  | none=>rfl
  | some v=>
    cases v with
    | fn f a b=>cases f<;>rfl
    | _=>rfl
theorem zEN (op:BinOp) (x y:zD):zx G raw env h (.bin op x y)=(zo G env x).bind fun x=>(zo G env y).bind fun y=>(PS op x y).map (·,h):=rfl
theorem zGL (agg:Bool) (sh:List Sh) (neg:Bool) (x y:zD):zx G raw env h (.eq agg sh neg x y)=(zo G env x).bind fun x=>(zo G env y).bind fun y=>(aeq agg sh x y).map fun b=>(.bool (b != neg),h):=rfl
theorem zAZ (k:zvc) (neg:Bool) (x:zD):zx G raw env h (.isnil k neg x)=(zo G env x).bind fun x=>(zg4 k x).map fun b=>(.bool (b != neg),h):=rfl
theorem zFq (x:zD):zx G raw env h (.not x)=((zo G env x).bind zr9).map fun b=>(.bool (!b),h):=by
  simp only [zx,aop]
  cases zo G env x with
  | none=>rfl
  | some v=>cases v<;>rfl
def zG6:AV→Option (IntKind×Int)
  | .int k n=>some (k,n)
  | _=>none
theorem zBr (k:IntKind) (n:Int):zG6 (.int k n)=some (k,n):=rfl
theorem zBy (k:IntKind) (x:zD):zx G raw env h (.conv k x)=((zo G env x).bind zG6).map fun p=>(Dt k p.2,h):=by
  simp only [zx,aop]
  cases zo G env x with
  | none=>rfl
  | some v=>cases v<;>rfl
theorem zBi (x:zD):zx G raw env h (.bstr x)=((zo G env x).bind zos).bind fun v=>(oJ h 1 v).bind fun es=>(Ig es.1).map fun bs=>(.str ⟨bs.toArray⟩,h):=rfl
theorem zBu (f:Fn) (first caps:List zD):zx G raw env h (.mkfn f first caps)=(first.mapM (zo G env)).bind fun a=>(caps.mapM (zo G env)).map fun b=>(.fn f a b,h):=rfl
theorem zvL:zbG G env none=some none:=rfl
theorem zuM (o:zD):zbG G env (some o)=(zo G env o).bind fun v=>some (some v):=rfl
theorem zHu (k:Nat) (x:zD) (lo hi mx:Option zD):zx G raw env h (.sl k x lo hi mx)=(zo G env x).bind fun x=>(zbG G env lo).bind fun lo=>(zbG G env hi).bind fun hi=>(zbG G env mx).bind fun mx=>
    (zcr h k x lo hi mx).map (·,h):=by
  rfl
theorem zz4 (off:Nat) (x:zD):zx G raw env h (.faddr off x)=(zo G env x).bind fun p=>(zkE off p).map (·,h):=rfl
theorem zGe (k:Nat) (x i:zD):zx G raw env h (.idx k x i)=(zo G env x).bind fun x=>(zo G env i).bind fun i=>(FB h k x i).map (·,h):=rfl
theorem zvO (k n:Nat) (x i:zD):zx G raw env h (.idxarr k n x i)=(zo G env x).bind fun x=>(zo G env i).bind fun i=>(zkQ k n x i).map (·,h):=rfl
theorem zCK (agg:Bool) (m n:Nat) (x i:zD):zx G raw env h (.idxv agg m n x i)=(zo G env x).bind fun x=>(zo G env i).bind fun i=>(zAd agg m n x i).map (·,h):=rfl
def zzA:AV→Option (List AV)
  | .tup cs=>some cs
  | _=>none
theorem zvR (cs:List AV):zzA (.tup cs)=some cs:=rfl
theorem zqU (i:Nat) (x:zD):zx G raw env h (.extract i x)=((zo G env x).bind zzA).bind fun vs=>(vs[i]?).map (·,h):=by
  simp only [zx,aop]
  cases zo G env x with
  | none=>rfl
  | some v=>cases v<;>rfl
theorem zGh (b:Bool) (x:zD):zx G raw env h (.len b x)=(zo G env x).bind fun x=>(zbi b x).map (·,h):=rfl
theorem ztL (k bytes:Nat) (x y:zD):zx G raw env h (.append k bytes x y)=(zo G env x).bind fun x=>(zo G env y).bind fun y=>zkx h k bytes x y:=rfl
theorem zoC (k bytes:Nat) (x y:zD):zx G raw env h (.appendD k bytes x y)=(zo G env x).bind fun x=>(zo G env y).bind fun y=>(zhE h k bytes x y).map (·,h):=rfl
theorem zEU (x y:zD):zx G raw env h (.min x y)=(zo G env x).bind fun x=>(zo G env y).bind fun y=>(zgf (fun b a=>decide (b<a)) x y).map (·,h):=rfl
end
theorem zCy (k:IntKind) (a b:Int):PS .add (.int k a) (.int k b)=some (.int k (k.wrap (a+b))):=by simp [PS,Dt]
theorem zBK (k:IntKind) (a b:Int):PS .sub (.int k a) (.int k b)=some (.int k (k.wrap (a - b))):=by simp [PS,Dt]
theorem zBR (k:IntKind) (a b:Int):PS .eql (.int k a) (.int k b)=some (.bool (decide (a=b))):=by
  have e:(a==b)=decide (a=b):=by by_cases h:a=b<;>simp [h]
  simp [PS,e]
theorem zCu (k:IntKind) (a b:Int):PS .neq (.int k a) (.int k b)=some (.bool (!decide (a=b))):=by
  have e:(a==b)=decide (a=b):=by by_cases h:a=b<;>simp [h]
  simp [PS,bne,e]
theorem zBV (k:IntKind) (a b:Int):PS .lss (.int k a) (.int k b)=some (.bool (decide (a<b))):=by simp [PS]
theorem zCL (k:IntKind) (a b:Int):PS .leq (.int k a) (.int k b)=some (.bool (decide (a≤b))):=by simp [PS]
theorem zC1 (k:IntKind) (a b:Int):PS .gtr (.int k a) (.int k b)=some (.bool (decide (b<a))):=by simp [PS]
theorem zB6 (k:IntKind) (a b:Int):PS .geq (.int k a) (.int k b)=some (.bool (decide (b≤a))):=by simp [PS]
theorem zCc (k:IntKind) (a b:Int):zgf (fun b a=>decide (b<a)) (.int k a) (.int k b)=some (.int k (min a b)):=by
  simp only [zgf,if_true,Option.some.injEq,AV.int.injEq,true_and]
  by_cases h:b<a
  · rw [if_pos (by simpa using h)];omega
  · rw [if_neg (by simpa using h)];omega
theorem zCh (id g s l c:Nat):zbi false (.own id g s l c)=some (.int .i64 l):=rfl
theorem zvY (b:Bool) (k:Nat) (es:List (List AV)) (f:Bool):zbi false (.data b k es f)=some (.int .i64 es.length):=rfl
theorem zvQ (cs:List AV):(AV.agg cs).cells=some cs:=rfl
theorem zvv (k:IntKind) (n:Int):(AV.int k n).cells=some [.int k n]:=rfl
theorem zoW (b:Bool) (k:Nat) (es:List (List AV)) (f:Bool):(AV.data b k es f).cells=some [.data b k es f]:=rfl
theorem zuK (id g s l c:Nat):(AV.own id g s l c).cells=some [.own id g s l c]:=rfl
theorem zw4 (h:List zf) (agg:Bool) (m id gen e off:Nat):UL h agg m (.ptr id gen e off)=(h[id]?).bind fun r=>if r.gen=gen then (r.es[e]?).bind (zaq agg m off) else none:=rfl
theorem zuV (h:List zf) (agg:Bool) (m:Nat) (cs:List AV):UL h agg m (.dptr cs)=zaq agg m 0 cs:=rfl
theorem zAR (m off:Nat) (g:List AV):zaq false m off g=g[off]? :=rfl
theorem zCv (m off:Nat) (g:List AV):zaq true m off g=if off+m≤g.length then some (.agg ((g.drop off).take m)) else none:=rfl
theorem ztW (off id gen e o:Nat):zkE off (.ptr id gen e o)=some (.ptr id gen e (o+off)):=rfl
theorem zoY (off:Nat) (cs:List AV):zkE off (.dptr cs)=some (.dptr (cs.drop off)):=rfl
theorem zBF (h:List zf) (kk id gen s l c:Nat) (k:IntKind) (i:Int):FB h kk (.own id gen s l c) (.int k i)=(h[id]?).bind fun r=>if r.gen=gen∧r.k=kk then if 0≤i∧i<l then some (.ptr id gen (s+i.toNat) 0) else none else none:=rfl
theorem zw7 (h:List zf) (kk:Nat) (b:Bool) (k:Nat) (es:List (List AV)) (f:Bool) (k':IntKind) (i:Int):FB h kk (.data b k es f) (.int k' i)=if k=kk then if 0≤i then (es[i.toNat]?).map (zg3 b) else none else none:=rfl
theorem zoD (k n id gen e off:Nat) (k':IntKind) (i:Int):zkQ k n (.ptr id gen e off) (.int k' i)=if 0≤i∧i<n then some (.ptr id gen e (off+i.toNat * k)) else none:=rfl
theorem zwg (args:List AV):zl args=(args.zipIdx.map fun p=>(p.2,p.1)):=rfl
theorem zpT (h:List zf) (k id gen s l c:Nat):oJ h k (.own id gen s l c)=(h[id]?).bind fun r=>if r.gen=gen∧r.k=k∧s+l≤r.es.length then some ((r.es.drop s).take l,r.flat) else none:=rfl
theorem zmO (h:List zf) (kk:Nat) (b:Bool) (k:Nat) (es:List (List AV)) (f:Bool):oJ h kk (.data b k es f)=if k=kk then (if (!b||uC es)=true then some (es,true) else none) else none:=rfl
theorem zC4 (st:ASt):YL [] st=some (.tup []):=rfl
theorem zB5 (r:zdj) (st:ASt):YL [r] st=ziv st.env st.h r:=by
  simp only [YL,List.mapM_cons,List.mapM_nil]
  cases ziv st.env st.h r<;>rfl
theorem zBQ (r s:zdj) (st:ASt):YL [r,s] st=(ziv st.env st.h r).bind fun x=>(ziv st.env st.h s).bind fun y=>some (.tup [x,y]):=by
  simp only [YL,List.mapM_cons,List.mapM_nil]
  cases ziv st.env st.h r with
  | none=>rfl
  | some x=>cases ziv st.env st.h s<;>rfl
theorem zAW (env:yF) (h:List zf) (n:Nat):ziv env h (.slot n)=look env n:=rfl
theorem zx5 (env:yF) (h:List zf) (n:Nat) (agg:Bool) (m:Nat):ziv env h (.cell n agg m)=(look env n).bind (UL h agg m):=rfl
theorem ZV (n:Int) (h1: -9223372036854775808≤n) (h2:n≤9223372036854775807):IntKind.i64.wrap n=n:=Go.IntWalk.i64_in n ⟨h1,h2⟩
end Go.Proofs.YthcnhibjddomdaaGreat
namespace Go.Proofs.YthcnhibjddomdaaGreat
open Go Go.RowKit
class FrB where
  fr:Nat→Prop
def IQ (w:World) (b:Nat):Prop:=∀ arr ty lo hi,w.heap[b]? =some (.cells arr ty (lo,hi))→∀ j,j<arr.size→¬ (lo≤j∧j<hi)
theorem IQ.of_block {w w':World} {b:Nat} (h:IQ w b) (e:w'.heap[b]? =w.heap[b]?):IQ w' b:=fun arr ty lo hi hb=>h arr ty lo hi (e ▸ hb)
variable [FrB]
inductive uj (w:World) (X:Nat→Prop):AV→Value→Prop
  | int (k:IntKind) (n:Int):uj w X (.int k n) (.int k n)
  | bool (b:Bool):uj w X (.bool b) (.bool b)
  | str (s:ByteArray):uj w X (.str s) (.string s)
  | nilfn:uj w X .nilfn .nilFunc
  | nilptr:uj w X .nilptr (.pointer none)
  | agg (cs:List AV) (vs:List Value):cs.length=vs.length→(∀ v ∈ vs,v.oneCell'=true)→(∀ (i:Nat) c v,cs[i]? =some c→vs[i]? =some v→uj w X c v)→uj w X (.agg cs) (.agg vs.toArray)
  | tup (cs:List AV) (vs:List Value):cs.length=vs.length→(∀ (i:Nat) c v,cs[i]? =some c→vs[i]? =some v→uj w X c v)→uj w X (.tup cs) (.tuple vs.toArray)
  | fn (f:Fn) (asx bs:List AV) (xs ys:List Value):asx.length=xs.length→bs.length=ys.length→(∀ (i:Nat) c v,asx[i]? =some c→xs[i]? =some v→uj w X c v)→
      (∀ (i:Nat) c v,bs[i]? =some c→ys[i]? =some v→uj w X c v)→uj w X (.fn f asx bs) (.func f xs.toArray ys.toArray)
  | data0 (k:Nat) (full:Bool) (a:Option Addr) (cap:Nat):(full=true→cap=0)→uj w X (.data false k [] full) (.slice a 0 cap)
  | data (k:Nat) (es:List (List AV)) (full:Bool) (b off cap:Nat) (val:Nat→Nat→Value):es.length≤cap→(full=true→cap=es.length)→(∀ g ∈ es,g.length=k)→¬ X b→b<w.heap.size→
      (∀ (e j:Nat),e<es.length→j<k→w.cell? ⟨b,off+(e * k+j),none⟩=some (val e j)∧(val e j).oneCell'=true)→
      (∀ (e j:Nat) g c,es[e]? =some g→g[j]? =some c→uj w X c (val e j))→(FrB.fr b→IQ w b)→uj w X (.data false k es full) (.slice (some ⟨b,off,none⟩) es.length cap)
theorem uj.mono {w:World} {X:Nat→Prop} {X':Nat→Prop} {v:AV} {x:Value} (h:uj w X v x) (hx:∀ b,X' b→X b):uj w X' v x:=by
  induction h with
  | int k n=>exact .int k n
  | bool b=>exact .bool b
  | str s=>exact .str s
  | nilfn=>exact .nilfn
  | nilptr=>exact .nilptr
  | agg cs vs hl h1 _ ih=>exact .agg cs vs hl h1 ih
  | tup cs vs hl _ ih=>exact .tup cs vs hl ih
  | fn f asx bs xs ys h1 h2 _ _ i1 i2=>exact .fn f asx bs xs ys h1 h2 i1 i2
  | data0 k full a cap hf=>exact .data0 k full a cap hf
  | data k es full b off cap val h1 h2 h3 hX hb hc _ ht ih=>exact .data k es full b off cap val h1 h2 h3 (fun h=>hX (hx b h)) hb hc ih ht
inductive zan (w:World) (S O:Nat→Prop):AV→Value→Prop
  | s {v:AV} {x:Value}:uj w (fun b=>S b∨O b) v x→zan w S O v x
  | bor0 (k:Nat) (full:Bool) (a:Option Addr) (cap:Nat):(full=true→cap=0)→zan w S O (.data true k [] full) (.slice a 0 cap)
  | bor (k:Nat) (es:List (List AV)) (full:Bool) (b off cap:Nat) (val:Nat→Nat→Value):es.length≤cap→(full=true→cap=es.length)→(∀ g ∈ es,g.length=k)→¬ O b→b<w.heap.size→
      (∀ (e j:Nat),e<es.length→j<k→w.cell? ⟨b,off+(e * k+j),none⟩=some (val e j)∧(val e j).oneCell'=true)→
      (∀ (e j:Nat) g c,es[e]? =some g→g[j]? =some c→uj w (fun b=>False∨O b) c (val e j))→zan w S O (.data true k es full) (.slice (some ⟨b,off,none⟩) es.length cap)
  | unk (x:Value):zan w S O .unk x
theorem zan.imp {w:World} {S O S2 O2:Nat→Prop} {v:AV} {x:Value} (h:zan w S O v x) (hX:∀ b,S2 b∨O2 b→S b∨O b) (hO:∀ b,O2 b→O b):zan w S2 O2 v x:=by
  cases h with
  | s h=>exact .s (h.mono hX)
  | bor0 k full a cap hf=>exact .bor0 k full a cap hf
  | bor k es full b off cap val h1 h2 h3 h4 h5 h6 h7=>exact .bor k es full b off cap val h1 h2 h3 (fun h=>h4 (hO b h)) h5 h6 fun e j g c hg hc=>(h7 e j g c hg hc).mono fun b hb=>hb.imp id (hO b)
  | unk x=>exact .unk x
structure Pl where
  b:Nat
  base:Nat
  k:Nat
  lim:Nat
abbrev Rho:=Nat→Option (Nat×Option Pl)
inductive zB (ρ:Rho) (w:World) (S O:Nat→Prop):AV→Value→Prop
  | s {v:AV} {x:Value}:uj w (fun b=>S b∨O b) v x→zB ρ w S O v x
  | agg (cs:List AV) (vs:List Value):cs.length=vs.length→(∀ v ∈ vs,v.oneCell'=true)→(∀ (i:Nat) c v,cs[i]? =some c→vs[i]? =some v→zB ρ w S O c v)→zB ρ w S O (.agg cs) (.agg vs.toArray)
  | tup (cs:List AV) (vs:List Value):cs.length=vs.length→(∀ (i:Nat) c v,cs[i]? =some c→vs[i]? =some v→zB ρ w S O c v)→zB ρ w S O (.tup cs) (.tuple vs.toArray)
  | fn (f:Fn) (asx bs:List AV) (xs ys:List Value):asx.length=xs.length→bs.length=ys.length→(∀ (i:Nat) c v,asx[i]? =some c→xs[i]? =some v→zB ρ w S O c v)→
      (∀ (i:Nat) c v,bs[i]? =some c→ys[i]? =some v→zB ρ w S O c v)→zB ρ w S O (.fn f asx bs) (.func f xs.toArray ys.toArray)
  | bor0 (k:Nat) (full:Bool) (a:Option Addr) (cap:Nat):(full=true→cap=0)→zB ρ w S O (.data true k [] full) (.slice a 0 cap)
  | bor (k:Nat) (es:List (List AV)) (full:Bool) (b off cap:Nat) (val:Nat→Nat→Value):es.length≤cap→(full=true→cap=es.length)→(∀ g ∈ es,g.length=k)→¬ O b→b<w.heap.size→
      (∀ (e j:Nat),e<es.length→j<k→w.cell? ⟨b,off+(e * k+j),none⟩=some (val e j)∧(val e j).oneCell'=true)→
      (∀ (e j:Nat) g c,es[e]? =some g→g[j]? =some c→uj w (fun b=>False∨O b) c (val e j))→zB ρ w S O (.data true k es full) (.slice (some ⟨b,off,none⟩) es.length cap)
  | dptr (cs:List AV) (b off:Nat) (val:Nat→Value):¬ O b→b<w.heap.size→(∀ j,j<cs.length→w.cell? ⟨b,off+j,none⟩=some (val j)∧(val j).oneCell'=true)→
      (∀ (j:Nat) c,cs[j]? =some c→zan w S O c (val j))→zB ρ w S O (.dptr cs) (.pointer (some ⟨b,off,none⟩))
  | own (id g g':Nat) (pl:Option Pl) (s l c:Nat) (a:Option Addr) (cap:Nat):ρ id=some (g',pl)→g≤g'→l≤cap→c≤cap→(0<cap→a.isSome=true)→
      (g=g'→cap=0∨∃ p,pl=some p∧a=some ⟨p.b,p.base+s * p.k,none⟩∧s+cap≤p.lim)→zB ρ w S O (.own id g s l c) (.slice a l cap)
  | ptr (id g g':Nat) (pl:Option Pl) (e off:Nat) (a:Addr):ρ id=some (g',pl)→g≤g'→(g=g'→∃ p,pl=some p∧a=⟨p.b,p.base+e * p.k+off,none⟩)→zB ρ w S O (.ptr id g e off) (.pointer (some a))
  | unk (x:Value):zB ρ w S O .unk x
def zF0 (k lo hi n:Nat):Prop:=lo≤hi∧(∀ j,j<n→¬ (lo≤j∧j<hi))∧(k≠1→lo=hi)
structure zm (ρ:Rho) (w:World) (S O:Nat→Prop) (r:zf) (p:Pl):Prop where
  k:p.k=r.k
  lim:r.es.length≤p.lim
  own:O p.b
  len:∀ g ∈ r.es,g.length=r.k
  block:∃ arr ty lo hi,w.heap[p.b]? =some (.cells arr ty (lo,hi))∧p.base+p.lim * p.k≤arr.size∧zF0 r.k lo hi arr.size∧
    ∀ (e j:Nat) g c,r.es[e]? =some g→g[j]? =some c→∃ x,arr[p.base+e * p.k+j]? =some x∧x.oneCell'=true∧zB ρ w S O c x∧(r.flat=true→uj w (fun b=>S b∨O b) c x)
def zbQ (ρ:Rho) (w:World) (S O:Nat→Prop) (r:zf):Option Pl→Prop
  | none=>r.es=[]
  | some p=>zm ρ w S O r p
structure Heap (ρ:Rho) (w:World) (S O:Nat→Prop) (h:List zf):Prop where
  row:∀ (id g:Nat) pl,ρ id=some (g,pl)→∃ r,h[id]? =some r∧r.gen=g∧zbQ ρ w S O r pl
  inj:∀ (id id' g g':Nat) p p',ρ id=some (g,some p)→ρ id'=some (g',some p')→p.b=p'.b→id=id'
  bd:∀ b,S b∨O b→b<w.heap.size
  dis:∀ b,O b→¬ S b
structure uB (w:World) (O:Nat→Prop) (w':World) (O':Nat→Prop):Prop where
  os:w'.os=w.os
  tape:w'.tape=w.tape
  output:w'.output=w.output
  size:w.heap.size≤w'.heap.size
  same:∀ b,b<w.heap.size→¬ O b→w'.heap[b]? =w.heap[b]?
  grow:∀ b,O b→O' b
  new:∀ b,O' b→O b∨w.heap.size≤b
structure UF (w:World) (O:Nat→Prop) (w':World) (O':Nat→Prop):Prop where
  os:w'.os=w.os
  tape:w'.tape=w.tape
  output:w'.output=w.output
  size:w.heap.size≤w'.heap.size
  same:∀ b,b<w.heap.size→¬ O b→w'.heap[b]? =w.heap[b]?
  new:∀ b,O' b→O b∨w.heap.size≤b
theorem uB.x {w w':World} {O O':Nat→Prop} (a:uB w O w' O'):UF w O w' O':=⟨a.os,a.tape,a.output,a.size,a.same,a.new⟩
theorem UF.refl (w:World) (O:Nat→Prop):UF w O w O:=⟨rfl,rfl,rfl,Nat.le_refl _,fun _ _ _=>rfl,fun _ h=>.inl h⟩
theorem UF.trans {w w' w'':World} {O O' O'':Nat→Prop} (h:UF w O w' O') (k:UF w' O' w'' O''):UF w O w'' O'':=
  ⟨k.os.trans h.os,k.tape.trans h.tape,k.output.trans h.output,Nat.le_trans h.size k.size,
   fun b hb hO=>(k.same b (Nat.lt_of_lt_of_le hb h.size) (fun hO'=>(h.new b hO').elim hO (fun hs=>by omega))).trans (h.same b hb hO),
   fun b hb=>(k.new b hb).elim (fun h1=>h.new b h1) (fun h1=>.inr (Nat.le_trans h.size h1))⟩
def Ext (ρ ρ':Rho):Prop:=∀ (id g:Nat) pl,ρ id=some (g,pl)→∃ g' pl',ρ' id=some (g',pl')∧g≤g'∧(g=g'→pl=pl')
theorem uB.refl (w:World) (O:Nat→Prop):uB w O w O:=⟨rfl,rfl,rfl,Nat.le_refl _,fun _ _ _=>rfl,fun _ h=>h,fun _ h=>.inl h⟩
theorem uB.trans {w w' w'':World} {O O' O'':Nat→Prop} (h:uB w O w' O') (k:uB w' O' w'' O''):uB w O w'' O'':=
  ⟨k.os.trans h.os,k.tape.trans h.tape,k.output.trans h.output,Nat.le_trans h.size k.size,
   fun b hb hO=>(k.same b (Nat.lt_of_lt_of_le hb h.size) (fun hO'=>(h.new b hO').elim hO (fun hs=>by omega))).trans (h.same b hb hO),
   fun b hb=>k.grow b (h.grow b hb),fun b hb=>(k.new b hb).elim (fun h1=>h.new b h1) (fun h1=>.inr (Nat.le_trans h.size h1))⟩
theorem uB.drew (w:World) (O:Nat→Prop):uB w O w.drew O:=⟨rfl,rfl,rfl,Nat.le_refl _,fun _ _ _=>rfl,fun _ h=>h,fun _ h=>.inl h⟩
theorem Ext.refl (ρ:Rho):Ext ρ ρ:=fun _ g pl h=>⟨g,pl,h,Nat.le_refl _,fun _=>rfl⟩
theorem Ext.trans {ρ ρ' ρ'':Rho} (h:Ext ρ ρ') (k:Ext ρ' ρ''):Ext ρ ρ'':=fun id g pl h0=>by
  obtain ⟨g1,p1,h1,l1,e1⟩:=h id g pl h0
  obtain ⟨g2,p2,h2,l2,e2⟩:=k id g1 p1 h1
  exact ⟨g2,p2,h2,Nat.le_trans l1 l2,fun e=>by
    have a:g=g1:=by omega
    exact (e1 a).trans (e2 (by omega))⟩
theorem uj.advX {w w':World} {S O O':Nat→Prop} {v:AV} {x:Value} (h:uj w (fun b=>S b∨O b) v x) (a:UF w O w' O'):uj w' (fun b=>S b∨O' b) v x:=by
  induction h with
  | int k n=>exact .int k n
  | bool b=>exact .bool b
  | str s=>exact .str s
  | nilfn=>exact .nilfn
  | nilptr=>exact .nilptr
  | agg cs vs hl h1 _ ih=>exact .agg cs vs hl h1 ih
  | tup cs vs hl _ ih=>exact .tup cs vs hl ih
  | fn f asx bs xs ys h1 h2 _ _ i1 i2=>exact .fn f asx bs xs ys h1 h2 i1 i2
  | data0 k full a cap hf=>exact .data0 k full a cap hf
  | data k es full b off cap val h1 h2 h3 hX hb hc _ ht ih=>
    have hO:¬ O b:=fun h=>hX (.inr h)
    refine .data k es full b off cap val h1 h2 h3 (fun h=> ?_) (Nat.lt_of_lt_of_le hb a.size) (fun e j he hj=> ?_) ih (fun hf=>(ht hf).of_block (a.same b hb hO))
    · rcases h with h | h
      · exact hX (.inl h)
      · rcases a.new b h with h | h
        · exact hO h
        · omega
    · rw [World.cell?_of_block (w:=w) (a.same b hb hO)];exact hc e j he hj
theorem uj.adv {w w':World} {S O O':Nat→Prop} {v:AV} {x:Value} (h:uj w (fun b=>S b∨O b) v x) (a:uB w O w' O'):uj w' (fun b=>S b∨O' b) v x:=h.advX a.x
theorem zan.advX {w w':World} {S O O':Nat→Prop} {v:AV} {x:Value} (h:zan w S O v x) (a:UF w O w' O'):zan w' S O' v x:=by
  have nO:∀ b,b<w.heap.size→¬ O b→¬ O' b:=fun b hb hO h=>(a.new b h).elim hO (fun h=>by omega)
  cases h with
  | s h=>exact .s (h.advX a)
  | bor0 k full ad cap hf=>exact .bor0 k full ad cap hf
  | bor k es full b off cap val h1 h2 h3 hO hb hc hr=>
    refine .bor k es full b off cap val h1 h2 h3 (nO b hb hO) (Nat.lt_of_lt_of_le hb a.size) (fun e j he hj=> ?_) fun e j g c hg hc=>(hr e j g c hg hc).advX a
    rw [World.cell?_of_block (w:=w) (a.same b hb hO)];exact hc e j he hj
  | unk x=>exact .unk x
theorem zan.v {ρ:Rho} {w:World} {S O:Nat→Prop} {v:AV} {x:Value} (h:zan w S O v x):zB ρ w S O v x:=by
  cases h with
  | s h=>exact .s h
  | bor0 k full a cap hf=>exact .bor0 k full a cap hf
  | bor k es full b off cap val h1 h2 h3 h4 h5 h6 h7=>exact .bor k es full b off cap val h1 h2 h3 h4 h5 h6 h7
  | unk x=>exact .unk x
theorem zB.advX {ρ ρ':Rho} {w w':World} {S O O':Nat→Prop} {v:AV} {x:Value} (h:zB ρ w S O v x) (e:Ext ρ ρ') (a:UF w O w' O'):zB ρ' w' S O' v x:=by
  have nO:∀ b,b<w.heap.size→¬ O b→¬ O' b:=fun b hb hO h=>(a.new b h).elim hO (fun h=>by omega)
  induction h with
  | s h=>exact .s (h.advX a)
  | agg cs vs hl h1 _ ih=>exact .agg cs vs hl h1 ih
  | tup cs vs hl _ ih=>exact .tup cs vs hl ih
  | fn f asx bs xs ys h1 h2 _ _ i1 i2=>exact .fn f asx bs xs ys h1 h2 i1 i2
  | bor0 k full a cap hf=>exact .bor0 k full a cap hf
  | bor k es full b off cap val h1 h2 h3 hO hb hc hr=>
    refine .bor k es full b off cap val h1 h2 h3 (nO b hb hO) (Nat.lt_of_lt_of_le hb a.size) (fun e j he hj=> ?_) fun e j g c hg hc=>(hr e j g c hg hc).advX a
    rw [World.cell?_of_block (w:=w) (a.same b hb hO)];exact hc e j he hj
  | dptr cs b off val hO hb hc hr=>
    refine .dptr cs b off val (nO b hb hO) (Nat.lt_of_lt_of_le hb a.size) (fun j hj=> ?_) fun j c hj=>(hr j c hj).advX a
    rw [World.cell?_of_block (w:=w) (a.same b hb hO)];exact hc j hj
  | own id g g' pl s l c ad cap h1 h2 h3 hc h4 h5=>
    obtain ⟨g1,p1,e1,l1,q1⟩:=e id g' pl h1
    exact .own id g g1 p1 s l c ad cap e1 (by omega) h3 hc h4 (fun eq=>by
      have a1:g'=g1:=by omega
      have a2:g=g':=by omega
      rw [← q1 a1];exact h5 a2)
  | ptr id g g' pl e0 off ad h1 h2 h3=>
    obtain ⟨g1,p1,e1,l1,q1⟩:=e id g' pl h1
    exact .ptr id g g1 p1 e0 off ad e1 (by omega) (fun eq=>by
      have a1:g'=g1:=by omega
      have a2:g=g':=by omega
      rw [← q1 a1];exact h3 a2)
  | unk x=>exact .unk x
theorem zB.adv {ρ ρ':Rho} {w w':World} {S O O':Nat→Prop} {v:AV} {x:Value} (h:zB ρ w S O v x) (e:Ext ρ ρ') (a:uB w O w' O'):zB ρ' w' S O' v x:=h.advX e a.x
end Go.Proofs.YthcnhibjddomdaaGreat
namespace Go.Proofs.YthcnhibjddomdaaGreat
open Go Go.RowKit
def Jd:Value→AV→Bool
  | .int k n,.int k' n'=>k==k'&&n==n'
  | .bool b,.bool b'=>b==b'
  | .string s,.str t=>s.data==t.data
  | .nilFunc,.nilfn=>true
  | .pointer none,.nilptr=>true
  | .slice none 0 0,.data false _ [] _=>true
  | _,_=>false
def Tn:List Value→List AV→Bool
  | [],[]=>true
  | v::vs,c::cs=>Jd v c&&Tn vs cs
  | _,_=>false
def zJ:Operand→zD→Bool
  | .tmp t,.slot n=>t==n
  | .const v,.const c=>Jd v c
  | .global g,.glob g'=>g==g'
  | .func f,.func f'=>f==f'
  | _,_=>false
def LA:List Operand→List zD→Bool
  | [],[]=>true
  | x::xs,a::asx=>zJ x a&&LA xs asx
  | _,_=>false
def zbe:Option Operand→Option zD→Bool
  | none,none=>true
  | some x,some a=>zJ x a
  | _,_=>false
section
variable (P:Program)
def vP (t:TypeId) (n:Nat):Bool:=match P.info? t with
  | some i=>i.size==n
  | none=>false
def FE (t:TypeId) (zs:List AV):Bool:=match P.info? t with
  | some i=>(match i.zero with | some z=>Tn z.cells.toList zs | none=>false)
  | none=>false
def jL (t:TypeId):Option Bool:=match P.underlying t with
  | some (.struct _) | some (.array _ _)=>some true
  | some _=>some false
  | none=>none
def Dk (place:Nat→Option (Nat×Nat)):List (Nat×Operand)→List (Nat×Nat×zD)→Bool
  | [],[]=>true
  | (i,x)::ps,(off,m,a)::asx=>place i==some (off,m)&&zJ x a&&Dk place ps asx
  | _,_=>false
def Ji:List (Nat×Operand)→List (Nat×zD)→Bool
  | [],[]=>true
  | (i,x)::ps,(j,a)::asx=>i==j&&zJ x a&&Ji ps asx
  | _,_=>false
def zb3 (rec:TypeId→Option (List Sh)) (off:Nat):List Field→Option (List Sh)
  | []=>some []
  | f::fs=>(rec f.type).bind fun sh=>if f.offset==off&&f.name != "_" &&vP P f.type sh.length then (zb3 rec (off+sh.length) fs).map (sh++·) else none
def KF:Nat→TypeId→Option (List Sh)
  | 0,_=>none
  | d+1,t=>match P.underlying t with
    | some .bool=>if vP P t 1 then some [.kb] else none
    | some (.int _)=>if vP P t 1 then some [.ki] else none
    | some .string=>if vP P t 1 then some [.ks] else none
    | some (.struct fs)=>if P.stoodInHeld t then none else zb3 P (KF d) 0 fs.toList
    | some (.array n e)=>(KF d e).bind fun sh=>if vP P e sh.length&&vP P t (n * sh.length) then some (List.replicate n sh).flatten else none
    | _=>none
def zuf (t:TypeId):Bool:=match P.underlying t with
  | some (.int .u8)=>true
  | _=>false
def zG3:Option TypeDesc→Bool
  | some (.slice _)=>true
  | _=>false
def zlB (k:zvc) (d:Option TypeDesc) (x y:Operand) (a:zD):Bool:=
  match k,d with
  | .kf,some (.func ..)=>(match y with | .const .nilFunc=>zJ x a | _=>false)||(match x with | .const .nilFunc=>zJ y a | _=>false)
  | .kp,some (.pointer _)=>(match y with | .const (.pointer none)=>zJ x a | _=>false)||(match x with | .const (.pointer none)=>zJ y a | _=>false)
  | .ks,some (.slice _)=>(match y with | .const (.slice none _ _)=>zJ x a | _=>false)||(match x with | .const (.slice none _ _)=>zJ y a | _=>false)
  | _,_=>false
def zI (o:Op):AOp→Bool
  | .mov a=>match o with
    | .move x | .assign x=>zJ x a
    | _=>false
  | .mknil _=>match o with
    | .move (.const (.slice none 0 0)) | .assign (.const (.slice none 0 0))=>true
    | _=>false
  | .pick c a b=>match o with
    | .pick c' a' b'=>zJ c' c&&zJ a' a&&zJ b' b
    | _=>false
  | .alloc zero=>match o with
    | .alloc t=>FE P t zero
    | _=>false
  | .box _ a=>match o with
    | .box _ x=>zJ x a
    | _=>false
  | .build zero ps=>match o with
    | .build t parts=>FE P t zero&&(match P.underlying t with
      | some (.struct fs)=>fs.all (fun f=>(P.info? f.type).isSome)&&Dk (fun i=>(fs[i]?).map fun f=>(f.offset,P.cellsOf f.type)) parts.toList ps
      | some (.array _ e)=>(P.info? e).isSome&&Dk (fun i=>some (i * P.cellsOf e,P.cellsOf e)) parts.toList ps
      | _=>false)
    | _=>false
  | .mkslice k n zero ps | .mkdata k n zero ps=>match o with
    | .buildSlice t n' parts=>n==n'&&decide (n * k≤16777216)&&(match P.underlying t with
      | some (.slice e)=>vP P e k&&FE P e zero&&zero.length==k&&Ji parts.toList ps
      | _=>false)
    | _=>false
  | .load agg m a=>match o with
    | .load t x=>zJ x a&&jL P t==some agg&&vP P t m
    | _=>false
  | .store agg m p a=>match o with
    | .store t p' x=>zJ p' p&&zJ x a&&vP P t m&&(agg||m==1)
    | _=>false
  | .nilchk a=>match o with
    | .nilCheck x=>zJ x a
    | _=>false
  | .bin op a b=>match o with
    | .binOp op' _ x y _=>op==op'&&zJ x a&&zJ y b
    | _=>false
  | .eq agg sh neg a b=>match o with
    | .binOp op t x y _=>(op==if neg then .neq else .eql)&&zJ x a&&zJ y b&&KF P 20 t==some sh&&jL P t==some agg&& !P.eqGuardType P.depth t
    | _=>false
  | .isnil k neg a=>match o with
    | .binOp op t x y _=>(op==if neg then .neq else .eql)&&zlB k (P.underlying t) x y a
    | _=>false
  | .not a=>match o with
    | .unOp .not _ x=>zJ x a
    | _=>false
  | .neg a=>match o with
    | .unOp .neg _ x=>zJ x a
    | _=>false
  | .conv k a=>match o with
    | .convert s d x=>zJ x a&&(P.underlying s).isSome&&(match P.underlying d with | some (.int k')=>k==k' | _=>false)
    | _=>false
  | .rstr a=>match o with
    | .convert s d x=>zJ x a&&(P.underlying s).isSome&&(match P.underlying d with | some .string=>true | _=>false)
    | _=>false
  | .cvs a=>match o with
    | .convert s d x=>zJ x a&&(P.underlying s).isSome&&(match P.underlying d with | some .string=>true | _=>false)
    | _=>false
  | .bstr a=>match o with
    | .convert s d x=>zJ x a&&(match P.underlying s with | some (.slice e)=>zuf P e | _=>false)&&(match P.underlying d with | some .string=>true | _=>false)
    | _=>false
  | .strb a=>match o with
    | .convert s d x=>zJ x a&&(P.underlying s).isSome&&(match P.underlying d with | some (.slice e)=>zuf P e&&vP P e 1 | _=>false)
    | _=>false
  | .melt a=>match o with
    | .move x | .assign x=>zJ x a
    | _=>false
  | .idxd k a i=>match o with
    | .indexAddr t x j=>zJ x a&&zJ j i&&(match P.underlying t with
      | some (.slice e)=>vP P e k
      | _=>false)
    | _=>false
  | .loadd agg m a=>match o with
    | .load t x=>zJ x a&&jL P t==some agg&&vP P t m
    | _=>false
  | .mark a=>match o with
    | .convert s d x=>zJ x a&&s==d&&(match P.underlying d with | some (.slice e)=>zuf P e | _=>false)
    | _=>false
  | .mkfn f first caps=>match o with
    | .makeFunc f' first' caps'=>f==f'&&LA first'.toList first&&LA caps'.toList caps
    | _=>false
  | .mkrow k bytes zero l c=>match o with
    | .makeSlice t l' c'=>zJ l' l&&zJ c' c&&(match P.underlying t with
      | some (.slice e)=>vP P e k&&FE P e zero&&decide (0<k)&&decide (0<bytes)&&(match P.info? e with | some i=>i.bytes==bytes | none=>false)
      | _=>false)
    | _=>false
  | .sl k a lo hi mx=>match o with
    | .slice t x lo' hi' mx'=>zJ x a&&zbe lo' lo&&zbe hi' hi&&zbe mx' mx&&(!mx.isSome||hi.isSome)&&(match P.underlying t with
      | some (.slice e)=>vP P e k
      | _=>false)
    | _=>false
  | .slstr a lo hi=>match o with
    | .slice t x lo' hi' mx'=>zJ x a&&zbe lo' lo&&zbe hi' hi&&mx'.isNone&&(match P.underlying t with
      | some .string=>true
      | _=>false)
    | _=>false
  | .faddr off a=>match o with
    | .fieldAddr s x f=>zJ x a&&(match P.underlying s with
      | some (.struct fs)=>(match fs[f]? with | some fd=>fd.offset==off&&(match P.info? fd.type with | some i=>i.size != 0 | none=>false) | none=>false)
      | _=>false)
    | _=>false
  | .field agg m off a=>match o with
    | .field s x f=>zJ x a&&(match P.underlying s with
      | some (.struct fs)=>(match fs[f]? with | some fd=>fd.offset==off&&jL P fd.type==some agg&&vP P fd.type m | none=>false)
      | _=>false)
    | _=>false
  | .idx k a i=>match o with
    | .indexAddr t x j=>zJ x a&&zJ j i&&(match P.underlying t with
      | some (.slice e)=>vP P e k
      | _=>false)
    | _=>false
  | .idxarr k n a i=>match o with
    | .indexAddr t x j=>zJ x a&&zJ j i&&(match P.underlying t with
      | some (.array n' e)=>n==n'&&vP P e k
      | _=>false)
    | _=>false
  | .idxv agg m n a i=>match o with
    | .index t x j=>zJ x a&&zJ j i&&(match P.underlying t with
      | some (.array n' e)=>n==n'&&vP P e m&&jL P e==some agg
      | _=>false)
    | _=>false
  | .idxs a i=>match o with
    | .index t x j=>zJ x a&&zJ j i&&(match P.underlying t with
      | some .string=>true
      | _=>false)
    | _=>false
  | .extract i a=>match o with
    | .extract x j=>zJ x a&&i==j
    | _=>false
  | .len isStr a=>match o with
    | .call ⟨.builtin .len,args,ts⟩=>(match args.toList,ts.toList with
      | [x],[t]=>zJ x a&&(match P.underlying t with | some .string=>isStr | some (.slice _)=> !isStr | _=>false)
      | _,_=>false)
    | _=>false
  | .lenarr n=>match o with
    | .call ⟨.builtin .len,args,ts⟩=>(match args.toList,ts.toList with
      | [_],[t]=>(match P.underlying t with
        | some (.array n' _)=>n==n'
        | some (.pointer a)=>(match P.underlying a with | some (.array n' _)=>n==n' | _=>false)
        | _=>false)
      | _,_=>false)
    | _=>false
  | .append k bytes a b | .appendD k bytes a b=>match o with
    | .call ⟨.builtin .append,args,ts⟩=>(match args.toList,ts.toList with
      | [x,y],[t,u]=>zJ x a&&zJ y b&&zG3 (P.underlying u)&&(match P.underlying t with
        | some (.slice e)=>(match P.info? e with | some i=>i.size==k&&i.bytes==bytes&&decide (0<k)&&decide (0<bytes)&&(match i.zero with | some z=>z.cells.size==k | none=>false) | none=>false)
        | _=>false)
      | _,_=>false)
    | _=>false
  | .copy k a b=>match o with
    | .call ⟨.builtin .copy,args,ts⟩=>(match args.toList,ts.toList with
      | [x,y],t::_=>zJ x a&&zJ y b&&(match P.underlying t with | some (.slice e)=>vP P e k | _=>false)
      | _,_=>false)
    | _=>false
  | .clear zero a=>match o with
    | .call ⟨.builtin .clear,args,ts⟩=>(match args.toList,ts.toList with
      | [x],[t]=>zJ x a&&(match P.underlying t with | some (.slice e)=>FE P e zero | _=>false)
      | _,_=>false)
    | _=>false
  | .max a b=>match o with
    | .call ⟨.builtin .max,args,_⟩=>(match args.toList with
      | [x,y]=>zJ x a&&zJ y b
      | _=>false)
    | _=>false
  | .min a b=>match o with
    | .call ⟨.builtin .min,args,_⟩=>(match args.toList with
      | [x,y]=>zJ x a&&zJ y b
      | _=>false)
    | _=>false
  | .call _ f args=>match o with
    | .call ⟨.value (.func f'),args',_⟩=>f==f'&&LA args'.toList args
    | _=>false
  | .callv a args=>match o with
    | .call ⟨.value x,args',_⟩=>zJ x a&&LA args'.toList args
    | _=>false
inductive ztN where
  | free | new | change
  deriving DecidableEq
def AOp.cls:AOp→ztN
  | .mov _ | .pick .. | .build .. | .nilchk _ | .bin .. | .eq .. | .isnil .. | .not _ | .neg _ | .conv .. | .rstr _ | .cvs _ | .mkfn .. | .sl .. | .slstr .. | .faddr .. | .field .. | .idxarr .. | .idxv .. | .idxs .. | .extract .. | .len .. | .lenarr _ | .max .. | .min .. | .idxd .. | .loadd .. =>.free
  | .mknil _ | .alloc _ | .box .. | .mkslice .. | .mkdata .. | .load .. | .bstr _ | .strb _ | .mkrow .. | .idx .. | .appendD .. | .call .frz _ _ | .call .adp _ _=>.new
  | .store .. | .append .. | .copy .. | .clear .. | .mark _ | .melt _ | .call .inl _ _ | .call .iso _ _ | .call .pk _ _ | .callv .. =>.change
def ztN.clash (a b:ztN):Bool:=(a==.change&&b != .free)||(b==.change&&a != .free)
def zD.slots:zD→List Nat
  | .slot n=>[n]
  | _=>[]
def JH:Option zD→List Nat
  | some a=>a.slots
  | none=>[]
def AOp.slots:AOp→List Nat
  | .mknil _ | .alloc _ | .lenarr _=>[]
  | .mov a | .box _ a | .load _ _ a | .loadd _ _ a | .melt a | .nilchk a | .isnil _ _ a | .not a | .neg a | .conv _ a | .rstr a | .bstr a | .strb a | .mark a | .cvs a | .faddr _ a | .field _ _ _ a | .extract _ a | .len _ a | .clear _ a=>a.slots
  | .pick c a b=>c.slots++a.slots++b.slots
  | .build _ ps=>ps.flatMap (·.2.2.slots)
  | .mkslice _ _ _ ps | .mkdata _ _ _ ps=>ps.flatMap (·.2.slots)
  | .store _ _ a b | .bin _ a b | .eq _ _ _ a b | .mkrow _ _ _ a b | .idx _ a b | .idxd _ a b | .idxarr _ _ a b | .idxv _ _ _ a b | .idxs a b | .append _ _ a b | .appendD _ _ a b | .copy _ a b | .max a b | .min a b=>a.slots++b.slots
  | .mkfn _ a b=>a.flatMap zD.slots++b.flatMap zD.slots
  | .sl _ a lo hi mx=>a.slots++JH lo++JH hi++JH mx
  | .slstr a lo hi=>a.slots++JH lo++JH hi
  | .call _ _ args=>args.flatMap zD.slots
  | .callv a args=>a.slots++args.flatMap zD.slots
def zb.reads (o:zb):List Nat:=(match o.guard with | some (s,_)=>[s] | none=>[])++o.op.slots
def qc (qs:List Nat) (k:Nat) (o:zb):ztN:=if qs.contains k=true then .free else o.op.cls
def UH (qs:List Nat) (i:Nat) (x:zb) (j:Nat) (y:zb):Bool:=
  (if qs.contains i=true then false else if qs.contains j=true then y.op.early&&x.op.cls==.change else x.op.cls.clash y.op.cls)||
  (match x.dst with | some d=>y.reads.contains d||y.dst==some d | none=>false)||
  (match y.dst with | some d=>x.reads.contains d | none=>false)
def zb5 (acc:List Nat) (o:Oper):Nat:=(o.after.toList.filter (Region.binds .any)).foldl (fun s e=>s ||| (2^e.on ||| acc.getD e.on 0)) 0
def ZZ:List Oper→List Nat→List Nat
  | [],acc=>acc
  | o::os,acc=>ZZ os (acc++[zb5 acc o])
def zbr (pm:Nat→Nat) (qs bs:List Nat):Nat→List zb→List zb→Bool
  | _,_,[]=>true
  | j,done,y::ys=>(done.zipIdx.all fun p=> !UH qs p.2 p.1 j y||(bs.getD (pm j) 0).testBit (pm p.2))&&zbr pm qs bs (j+1) (done++[y]) ys
def zgU (pm:Nat→Nat) (qi bs:List Nat) (jO:List zb) (q:Nat×List Nat):Bool:=
  ((jO[q.1]?).elim false fun o=>decide (o.op.cls=.new))&&(!q.2.isEmpty)&&
  (List.range (jO.length+1)).all fun M=>q.2.contains M||((jO[M]?).elim false fun y=>decide (qc qi M y≠.change)||(bs.getD (pm q.1) 0).testBit (pm M))||
    (List.range M).any fun c=>(jO[c]?).elim false fun y=>decide (qc qi c y=.change)&&(bs.getD (pm c) 0).testBit (pm q.1)
def UN (ops:Array Oper) (jO:List zb) (pm:Nat→Nat) (qs:List (Nat×List Nat)):Bool:=
  zbr pm (qs.map (·.1)) (ZZ ops.toList []) 0 [] jO&&(qs.all fun q=>zgU pm (qs.map (·.1)) (ZZ ops.toList []) jO q)&&ops.toList.zipIdx.all fun p=>p.1.after.toList.all fun e=> !Region.binds .any e||decide (e.on<p.2)
def Ri (ops:Array Oper) (o:Oper) (a:zb):Bool:=
  o.dst==a.dst&&zI P o.op a.op&&
  (match o.guard,a.guard with
   | none,none=>true
   | some (j,w),some (s,w')=>w==w'&&((ops[j]?).bind (·.dst))==some s
   | _,_=>false)
def PD (ops:Array Oper) (jO:List zb) (n:Nat):Bool:=
  ops.size==jO.length&&((ops.toList.zip jO).all fun p=>Ri P ops p.1 p.2&&(match p.1.dst with | some d=>decide (d<n) | none=>true))
def zba (ops:Array Oper) (jO:List zb) (pm:List Nat) (n:Nat):Bool:=
  ops.size==jO.length&&pm.length==jO.length&&decide pm.Nodup&&(List.range ops.size).all (fun m=>pm.contains m)&&(pm.all fun m=>decide (m<ops.size))&&
  (pm.zip jO).all fun p=>(ops[p.1]?).elim false fun o=>Ri P ops o p.2&&(match o.dst with | some d=>decide (d<n) | none=>true)
def jK (n:Nat):Code→zt→Bool
  | _,.dead=>true
  | .skip,.skip=>true
  | .region _ ops draw,.region jO draw' _=>draw==draw'&&PD P ops jO n&&(!draw||UN ops jO (fun k=>k) [])
  | .region _ ops draw,.regionQ jO pm qs _=>draw&&zba P ops jO pm n&&UN ops jO (pm.getD · 0) qs
  | .seq a b,.seq a' b'=>jK n a a'&&jK n b b'
  | .cond c a b,.cond c' a' b'=>zJ c c'&&jK n a a'&&jK n b b'
  | .block i a,.block i' a'=>i==i'&&jK n a a'
  | .loop a,.loop _ a'=>jK n a a'
  | .exit i,.exit i'=>i==i'
  | .ret,.ret=>true
  | _,_=>false
def zbp:List ResultVar→List zdj→Bool
  | [],[]=>true
  | .tmp t::rs,.slot n::asx=>t==n&&zbp rs asx
  | .cell t ty::rs,.cell n agg m::asx=>t==n&&jL P ty==some agg&&vP P ty m&&zbp rs asx
  | _,_=>false
def zC (f:Nat) (a:AFn):Bool:=match P.funcs[f]? with
  | some fn=>fn.name != "runtime.NumGoroutine" &&(match fn.body with | some c=>jK P fn.ntmps c a.body | none=>false)&&zbp P fn.results.toList a.res
  | none=>false
end
end Go.Proofs.YthcnhibjddomdaaGreat
namespace Go.Proofs.YthcnhibjddomdaaGreat
open Go Go.RowKit
variable [FrB]
section
variable {ρ:Rho} {w:World} {S O:Nat→Prop} {X:Nat→Prop}
theorem jc {k:IntKind} {n:Int} {x:Value} (h:zB ρ w S O (.int k n) x):x=.int k n:=by cases h with | s h=>cases h;rfl
theorem TI {b:Bool} {x:Value} (h:zB ρ w S O (.bool b) x):x=.bool b:=by cases h with | s h=>cases h;rfl
theorem Rf {s:ByteArray} {x:Value} (h:zB ρ w S O (.str s) x):x=.string s:=by cases h with | s h=>cases h;rfl
theorem DW {x:Value} (h:zB ρ w S O .nilfn x):x=.nilFunc:=by cases h with | s h=>cases h;rfl
theorem Jc {x:Value} (h:zB ρ w S O .nilptr x):x=.pointer none:=by cases h with | s h=>cases h;rfl
theorem IX {cs:List AV} {x:Value} (h:zB ρ w S O (.agg cs) x):∃ vs:List Value,x=.agg vs.toArray∧cs.length=vs.length∧(∀ v ∈ vs,v.oneCell'=true)∧
    ∀ (i:Nat) c v,cs[i]? =some c→vs[i]? =some v→zB ρ w S O c v:=by
  cases h with
  | s h=>cases h with | agg _ vs h1 h2 h3=>exact ⟨vs,rfl,h1,h2,fun i c v hc hv=>.s (h3 i c v hc hv)⟩
  | agg _ vs h1 h2 h3=>exact ⟨vs,rfl,h1,h2,h3⟩
theorem zlt {cs:List AV} {x:Value} (h:zB ρ w S O (.tup cs) x):∃ vs:List Value,x=.tuple vs.toArray∧cs.length=vs.length∧
    ∀ (i:Nat) c v,cs[i]? =some c→vs[i]? =some v→zB ρ w S O c v:=by
  cases h with
  | s h=>cases h with | tup _ vs h1 h3=>exact ⟨vs,rfl,h1,fun i c v hc hv=>.s (h3 i c v hc hv)⟩
  | tup _ vs h1 h3=>exact ⟨vs,rfl,h1,h3⟩
theorem zsu {f:Fn} {asx bs:List AV} {x:Value} (h:zB ρ w S O (.fn f asx bs) x):∃ xs ys:List Value,x=.func f xs.toArray ys.toArray∧asx.length=xs.length∧bs.length=ys.length∧
    (∀ (i:Nat) c v,asx[i]? =some c→xs[i]? =some v→zB ρ w S O c v)∧(∀ (i:Nat) c v,bs[i]? =some c→ys[i]? =some v→zB ρ w S O c v):=by
  cases h with
  | s h=>cases h with | fn _ _ _ xs ys h1 h2 h3 h4=>exact ⟨xs,ys,rfl,h1,h2,fun i c v hc hv=>.s (h3 i c v hc hv),fun i c v hc hv=>.s (h4 i c v hc hv)⟩
  | fn _ _ _ xs ys h1 h2 h3 h4=>exact ⟨xs,ys,rfl,h1,h2,h3,h4⟩
theorem Te {id g s l c:Nat} {x:Value} (h:zB ρ w S O (.own id g s l c) x):∃ g' pl a cap,x=.slice a l cap∧ρ id=some (g',pl)∧g≤g'∧l≤cap∧c≤cap∧(0<cap→a.isSome=true)∧
    (g=g'→cap=0∨∃ p,pl=some p∧a=some ⟨p.b,p.base+s * p.k,none⟩∧s+cap≤p.lim):=by
  cases h with
  | s h=>cases h
  | own _ _ g' pl _ _ _ a cap h1 h2 h3 hc h4 h5=>exact ⟨g',pl,a,cap,rfl,h1,h2,h3,hc,h4,h5⟩
theorem Io {id g e off:Nat} {x:Value} (h:zB ρ w S O (.ptr id g e off) x):∃ g' pl a,x=.pointer (some a)∧ρ id=some (g',pl)∧g≤g'∧(g=g'→∃ p,pl=some p∧a=⟨p.b,p.base+e * p.k+off,none⟩):=by
  cases h with
  | s h=>cases h
  | ptr _ _ g' pl _ _ a h1 h2 h3=>exact ⟨g',pl,a,rfl,h1,h2,h3⟩
theorem WB {cs:List AV} {x:Value} (h:zB ρ w S O (.dptr cs) x):∃ (b off:Nat) (val:Nat→Value),x=.pointer (some ⟨b,off,none⟩)∧¬ O b∧b<w.heap.size∧
    (∀ j,j<cs.length→w.cell? ⟨b,off+j,none⟩=some (val j)∧(val j).oneCell'=true)∧(∀ (j:Nat) c,cs[j]? =some c→zan w S O c (val j)):=by
  cases h with
  | s h=>cases h
  | dptr _ b off val h1 h2 h3 h4=>exact ⟨b,off,val,rfl,h1,h2,h3,h4⟩
theorem oK {bo:Bool} {k:Nat} {es:List (List AV)} {full:Bool} {x:Value} (h:zB ρ w S O (.data bo k es full) x):∃ a cap,x=.slice a es.length cap∧es.length≤cap∧(full=true→cap=es.length)∧(∀ g ∈ es,g.length=k)∧
    (es=[]∨∃ (b off:Nat) (val:Nat→Nat→Value),a=some ⟨b,off,none⟩∧¬ O b∧(bo=false→¬ S b∧(FrB.fr b→IQ w b))∧b<w.heap.size∧
      (∀ (e j:Nat),e<es.length→j<k→w.cell? ⟨b,off+(e * k+j),none⟩=some (val e j)∧(val e j).oneCell'=true)∧
      (∀ (e j:Nat) g c,es[e]? =some g→g[j]? =some c→uj w (fun b=>(bo=false∧S b)∨O b) c (val e j))):=by
  cases h with
  | s h=>cases h with
    | data0 _ _ a cap h=>exact ⟨a,cap,rfl,by simp,by simpa using h,by simp,.inl rfl⟩
    | data _ _ _ b off cap val h1 h2 h3 h4 h5 h6 h7 h8=>exact ⟨_,cap,rfl,h1,h2,h3,.inr ⟨b,off,val,rfl,fun h=>h4 (.inr h),fun _=>⟨fun h=>h4 (.inl h),h8⟩,h5,h6,fun e j g c hg hc=>(h7 e j g c hg hc).mono fun b hb=>hb.imp (fun h=>h.2) id⟩⟩
  | bor0 _ _ a cap h=>exact ⟨a,cap,rfl,by simp,by simpa using h,by simp,.inl rfl⟩
  | bor _ _ _ b off cap val h1 h2 h3 h4 h5 h6 h7=>exact ⟨_,cap,rfl,h1,h2,h3,.inr ⟨b,off,val,rfl,h4,by simp,h5,h6,fun e j g c hg hc=>(h7 e j g c hg hc).mono fun b hb=>hb.imp (fun h=>by cases h.1) id⟩⟩
theorem NL {bo:Bool} {k:Nat} {es:List (List AV)} {full:Bool} {a:Option Addr} {cap:Nat} (h1:es.length≤cap) (h2:full=true→cap=es.length) (h3:∀ g ∈ es,g.length=k)
    (h4:es=[]∨∃ (b off:Nat) (val:Nat→Nat→Value),a=some ⟨b,off,none⟩∧¬ O b∧(bo=false→¬ S b∧(FrB.fr b→IQ w b))∧b<w.heap.size∧
      (∀ (e j:Nat),e<es.length→j<k→w.cell? ⟨b,off+(e * k+j),none⟩=some (val e j)∧(val e j).oneCell'=true)∧
      (∀ (e j:Nat) g c,es[e]? =some g→g[j]? =some c→uj w (fun b=>(bo=false∧S b)∨O b) c (val e j))):zB ρ w S O (.data bo k es full) (.slice a es.length cap):=by
  rcases h4 with rfl | ⟨b,off,val,rfl,h5,h6,h7,h8,h9⟩
  · cases bo with
    | true=>exact .bor0 k full a cap (by simpa using h2)
    | false=>exact .s (.data0 k full a cap (by simpa using h2))
  · cases bo with
    | true=>exact .bor k es full b off cap val h1 h2 h3 h5 h7 h8 fun e j g c hg hc=>(h9 e j g c hg hc).mono fun b hb=>hb.imp False.elim id
    | false=>exact .s (.data k es full b off cap val h1 h2 h3 (fun h=>h.elim (h6 rfl).1 h5) h7 h8 (fun e j g c hg hc=>(h9 e j g c hg hc).mono fun b hb=>hb.imp (fun h=>⟨rfl,h⟩) id) (h6 rfl).2)
theorem ztC {bo:Bool} {v:AV} {x:Value} (h:uj w (fun b=>(bo=false∧S b)∨O b) v x):zan w S O (v.tob bo) x:=by
  cases bo with
  | false=>
    have e:v.tob false=v:=by cases v<;>simp [AV.tob]
    rw [e]
    exact .s (h.mono fun b hb=>hb.imp (fun h=>⟨rfl,h⟩) id)
  | true=>
    cases h with
    | int k n=>exact .s (.int _ _)
    | bool b=>exact .s (.bool _)
    | str s=>exact .s (.str _)
    | nilfn=>exact .s .nilfn
    | nilptr=>exact .s .nilptr
    | agg=>exact .unk _
    | tup=>exact .unk _
    | fn=>exact .unk _
    | data0 k full a cap hf=>exact .bor0 k full a cap hf
    | data k es full b off cap val h1 h2 h3 h4 h5 h6 h7 h8=>exact .bor k es full b off cap val h1 h2 h3 (fun h=>h4 (.inr h)) h5 h6 fun e j g c hg hc=>(h7 e j g c hg hc).mono fun b hb=>hb.imp False.elim id
theorem ziT {ρ:Rho} {bo:Bool} {g:List AV} {b o:Nat} {val:Nat→Value} (h1:¬ O b) (h2:b<w.heap.size) (h3:∀ j,j<g.length→w.cell? ⟨b,o+j,none⟩=some (val j)∧(val j).oneCell'=true)
    (h4:∀ (j:Nat) c,g[j]? =some c→uj w (fun b=>(bo=false∧S b)∨O b) c (val j)):zB ρ w S O (zg3 bo g) (.pointer (some ⟨b,o,none⟩)):=by
  refine .dptr _ b o val h1 h2 (fun j hj=>h3 j (by simpa [zez] using hj)) fun j c hj=> ?_
  rw [zez,List.getElem?_map] at hj
  obtain ⟨c0,hc,rfl⟩:=ze.1 hj
  exact ztC (h4 j c0 hc)
theorem zt6 {X X':Nat→Prop} {v:AV} {x:Value} (hp:v.plain=true) (h:uj w X v x):uj w X' v x:=by
  cases h with
  | int k n=>exact .int _ _
  | bool b=>exact .bool _
  | str s=>exact .str _
  | nilfn=>exact .nilfn
  | nilptr=>exact .nilptr
  | _=>simp [AV.plain] at hp
theorem SS {cs:List AV} (h:AV.stableL cs=true):∀ (i:Nat) c,cs[i]? =some c→c.stable=true:=by
  induction cs with
  | nil=>intro i c hc;simp at hc
  | cons v vs ih=>
    simp only [AV.stableL,Bool.and_eq_true] at h
    intro i c hc
    cases i with
    | zero=>simp at hc;subst hc;exact h.1
    | succ i=>exact ih h.2 i c (by simpa using hc)
theorem PH {v:AV} {x:Value} (h:zB ρ w S O v x):v.stable=true→uj w (fun b=>S b∨O b) v x:=by
  induction h with
  | s h=>intro _;exact h
  | agg cs vs h1 h2 _ ih=>intro hs;exact .agg cs vs h1 h2 fun i c v hc hv=>ih i c v hc hv (SS (by simpa [AV.stable] using hs) i c hc)
  | tup cs vs h1 _ ih=>intro hs;exact .tup cs vs h1 fun i c v hc hv=>ih i c v hc hv (SS (by simpa [AV.stable] using hs) i c hc)
  | fn f asx bs xs ys h1 h2 _ _ i1 i2=>
    intro hs
    simp only [AV.stable,Bool.and_eq_true] at hs
    exact .fn f asx bs xs ys h1 h2 (fun i c v hc hv=>i1 i c v hc hv (SS hs.1 i c hc)) (fun i c v hc hv=>i2 i c v hc hv (SS hs.2 i c hc))
  | bor0=>intro hs;simp [AV.stable] at hs
  | bor=>intro hs;simp [AV.stable] at hs
  | dptr=>intro hs;simp [AV.stable] at hs
  | own=>intro hs;simp [AV.stable] at hs
  | ptr=>intro hs;simp [AV.stable] at hs
  | unk=>intro hs;simp [AV.stable] at hs
theorem zA4 {v:AV} {x:Value} {cs:List AV} (h:zB ρ w S O v x) (hc:v.cells=some cs):∃ vs:List Value,x.cells=vs.toArray∧cs.length=vs.length∧(∀ v ∈ vs,v.oneCell'=true)∧
    ∀ (i:Nat) c v,cs[i]? =some c→vs[i]? =some v→zB ρ w S O c v:=by
  have one:∀ {u:AV} {y:Value},zB ρ w S O u y→y.oneCell'=true→y.cells= #[y]→∃ vs:List Value,y.cells=vs.toArray∧[u].length=vs.length∧(∀ v ∈ vs,v.oneCell'=true)∧
      ∀ (i:Nat) c v,[u][i]? =some c→vs[i]? =some v→zB ρ w S O c v:=fun {u y} hr h1 h2=>⟨[y],by rw [h2],rfl,by simpa using h1,fun i c v hc hv=>by
    cases i with
    | zero=>simp at hc hv;subst hc hv;exact hr
    | succ i=>simp at hc⟩
  cases v with
  | agg asx=>
    obtain ⟨vs,rfl,h1,h2,h3⟩:=IX h
    cases hc
    exact ⟨vs,rfl,h1,h2,h3⟩
  | tup asx=>cases hc
  | unk=>cases hc
  | int k n=>cases hc;obtain rfl:=jc h;exact one h rfl rfl
  | bool b=>cases hc;obtain rfl:=TI h;exact one h rfl rfl
  | str s=>cases hc;obtain rfl:=Rf h;exact one h rfl rfl
  | nilfn=>cases hc;obtain rfl:=DW h;exact one h rfl rfl
  | nilptr=>cases hc;obtain rfl:=Jc h;exact one h rfl rfl
  | data bo k es f=>cases hc;obtain ⟨a,cap,rfl,_⟩:=oK h;exact one h rfl rfl
  | dptr ds=>cases hc;obtain ⟨b,off,val,rfl,_⟩:=WB h;exact one h rfl rfl
  | own id g s l c=>cases hc;obtain ⟨g',pl,a,cap,rfl,_⟩:=Te h;exact one h rfl rfl
  | ptr id g e o=>cases hc;obtain ⟨g',pl,a,rfl,_⟩:=Io h;exact one h rfl rfl
  | fn f asx bs=>cases hc;obtain ⟨xs,ys,rfl,_⟩:=zsu h;exact one h rfl rfl
theorem zds {v:Value} {c:AV} (h:Jd v c=true):uj w X c v∧v.oneCell'=true:=by
  unfold Jd at h
  split at h
  · simp only [Bool.and_eq_true,beq_iff_eq] at h;obtain ⟨rfl,rfl⟩:=h;exact ⟨.int _ _,rfl⟩
  · simp only [beq_iff_eq] at h;subst h;exact ⟨.bool _,rfl⟩
  · rename_i s t
    simp only [beq_iff_eq] at h
    obtain rfl:s=t:=by cases s;cases t;simp_all
    exact ⟨.str _,rfl⟩
  · exact ⟨.nilfn,rfl⟩
  · exact ⟨.nilptr,rfl⟩
  · exact ⟨.data0 _ _ none 0 (fun _=>rfl),rfl⟩
  · cases h
theorem zhG:∀ {vs:List Value} {cs:List AV},Tn vs cs=true→cs.length=vs.length∧(∀ v ∈ vs,v.oneCell'=true)∧∀ (i:Nat) c v,cs[i]? =some c→vs[i]? =some v→uj w X c v
  | [],[],_=>⟨rfl,by simp,fun i c v hc=>by simp at hc⟩
  | v::vs,c::cs,h=>by
    simp only [Tn,Bool.and_eq_true] at h
    obtain ⟨h1,h2,h3⟩:=zhG h.2
    refine ⟨by simp [h1], ?_, ?_⟩
    · intro u hu
      rcases List.mem_cons.1 hu with rfl | hu
      · exact (zds (w:=w) (X:=X) h.1).2
      · exact h2 u hu
    · intro i c' v' hc hv
      cases i with
      | zero=>simp at hc hv;subst hc hv;exact (zds h.1).1
      | succ i=>exact h3 i c' v' (by simpa using hc) (by simpa using hv)
  | [],_::_,h=>by cases h
  | _::_,[],h=>by cases h
variable {h:List zf}
theorem Heap.lt (H:Heap ρ w S O h) {id g:Nat} {pl:Option Pl} (e:ρ id=some (g,pl)):id<h.length:=by
  obtain ⟨r,hr,_⟩:=H.row id g pl e
  exact (List.getElem?_eq_some_iff.1 hr).1
theorem Heap.none_ge (H:Heap ρ w S O h) {id:Nat} (hi:h.length≤id):ρ id=none:=by
  cases e:ρ id with
  | none=>rfl
  | some x=>have:=H.lt (g:=x.1) (pl:=x.2) e;omega
theorem Heap.at (H:Heap ρ w S O h) {id g:Nat} {pl:Option Pl} (e:ρ id=some (g,pl)) {r:zf} (hr:h[id]? =some r):r.gen=g∧zbQ ρ w S O r pl:=by
  obtain ⟨r',hr',h1,h2⟩:=H.row id g pl e
  obtain rfl:=Option.some.inj (hr.symm.trans hr')
  exact ⟨h1,h2⟩
theorem zm.adv {ρ':Rho} {w':World} {O':Nat→Prop} {r:zf} {p:Pl} (R:zm ρ w S O r p) (e:Ext ρ ρ') (a:uB w O w' O') (hb:w'.heap[p.b]? =w.heap[p.b]?):zm ρ' w' S O' r p:=by
  obtain ⟨arr,ty,lo,hi,h1,h2,h3,h4⟩:=R.block
  refine ⟨R.k,R.lim,a.grow _ R.own,R.len,arr,ty,lo,hi,hb.trans h1,h2,h3,fun e0 j g c hg hc=> ?_⟩
  obtain ⟨x,h5,h6,h7,h8⟩:=h4 e0 j g c hg hc
  exact ⟨x,h5,h6,h7.adv e a,fun hf=>(h8 hf).adv a⟩
theorem zm.advX {ρ':Rho} {w':World} {O':Nat→Prop} {r:zf} {p:Pl} (R:zm ρ w S O r p) (e:Ext ρ ρ') (a:UF w O w' O') (hO:O' p.b) (hb:w'.heap[p.b]? =w.heap[p.b]?):zm ρ' w' S O' r p:=by
  obtain ⟨arr,ty,lo,hi,h1,h2,h3,h4⟩:=R.block
  refine ⟨R.k,R.lim,hO,R.len,arr,ty,lo,hi,hb.trans h1,h2,h3,fun e0 j g c hg hc=> ?_⟩
  obtain ⟨x,h5,h6,h7,h8⟩:=h4 e0 j g c hg hc
  exact ⟨x,h5,h6,h7.advX e a,fun hf=>(h8 hf).advX a⟩
theorem zm.thaw {r:zf} {p:Pl} (R:zm ρ w S O r p):IQ w p.b:=by
  obtain ⟨arr,ty,lo,hi,h1,_,h3,_⟩:=R.block
  intro arr' ty' lo' hi' hb
  rw [h1] at hb
  cases hb
  exact h3.2.1
theorem zm.lt {r:zf} {p:Pl} (R:zm ρ w S O r p):p.b<w.heap.size:=by
  obtain ⟨arr,ty,lo,hi,h1,_⟩:=R.block
  exact (Array.getElem?_eq_some_iff.1 h1).1
theorem Heap.step {ρ':Rho} {w':World} {O':Nat→Prop} {h':List zf} (H:Heap ρ w S O h) (e:Ext ρ ρ') (a:uB w O w' O')
    (bd:∀ b,O' b→b<w'.heap.size)
    (rows:∀ (id g:Nat) pl,ρ' id=some (g,pl)→(ρ id=some (g,pl)∧h'[id]? =h[id]? ∧∀ p,pl=some p→w'.heap[p.b]? =w.heap[p.b]?)∨∃ r,h'[id]? =some r∧r.gen=g∧zbQ ρ' w' S O' r pl)
    (inj:∀ (id id' g g':Nat) p p',ρ' id=some (g,some p)→ρ' id'=some (g',some p')→p.b=p'.b→id=id'):Heap ρ' w' S O' h':=by
  refine ⟨fun id g pl hid=> ?_,inj,fun b hb=> ?_,fun b hb hs=> ?_⟩
  · rcases rows id g pl hid with ⟨h1,h2,h3⟩ | h1
    · obtain ⟨r,hr,hg,hR⟩:=H.row id g pl h1
      refine ⟨r,h2.trans hr,hg, ?_⟩
      cases pl with
      | none=>exact hR
      | some p=>exact zm.adv hR e a (h3 p rfl)
    · exact h1
  · rcases hb with hb | hb
    · exact Nat.lt_of_lt_of_le (H.bd b (.inl hb)) a.size
    · exact bd b hb
  · rcases a.new b hb with h1 | h1
    · exact H.dis b h1 hs
    · have:=H.bd b (.inl hs);omega
def upd (ρ:Rho) (id:Nat) (x:Nat×Option Pl):Rho:=fun i=>if i=id then some x else ρ i
theorem upd_same (ρ:Rho) (id:Nat) (x:Nat×Option Pl):upd ρ id x id=some x:=by simp [upd]
theorem upd_ne (ρ:Rho) {id i:Nat} (x:Nat×Option Pl) (h:i≠id):upd ρ id x i=ρ i:=by simp [upd,h]
theorem zeN (ρ:Rho) {id:Nat} (x:Nat×Option Pl) (h:ρ id=none):Ext ρ (upd ρ id x):=fun i g pl hi=>⟨g,pl,by
  rw [upd_ne ρ x (fun e=>by rw [e,h] at hi;cases hi)];exact hi,Nat.le_refl _,fun _=>rfl⟩
theorem zb0 (ρ:Rho) {id n:Nat} (x:Nat×Option Pl) (hn:n≤id):∀ i,i<n→ρ i=none→upd ρ id x i=none:=fun i hi h=>by rw [upd_ne ρ x (by omega)];exact h
theorem uB.alloc (w:World) (O:Nat→Prop) (ob:Obj):uB w O (w.alloc ob) (fun b=>O b∨b=w.heap.size):=
  ⟨rfl,rfl,rfl,by simp,fun b hb _=>Below.heap_alloc w ob b hb,fun _ h=>.inl h,fun b h=>h.imp id (fun h=>by omega)⟩
theorem uB.alloc' (w:World) (O:Nat→Prop) (ob:Obj):uB w O (w.alloc ob) O:=
  ⟨rfl,rfl,rfl,by simp,fun b hb _=>Below.heap_alloc w ob b hb,fun _ h=>h,fun b h=>.inl h⟩
theorem Heap.alloc (H:Heap ρ w S O h) (arr:Array Value) (ty:TypeId) (r:zf) (lim:Nat) (hl:r.es.length≤lim) (hs:lim * r.k≤arr.size) (hlen:∀ g ∈ r.es,g.length=r.k)
    (hc:∀ (e j:Nat) g c,r.es[e]? =some g→g[j]? =some c→∃ x,arr[e * r.k+j]? =some x∧x.oneCell'=true∧zB ρ w S O c x∧(r.flat=true→uj w (fun b=>S b∨O b) c x)):
    Heap (upd ρ h.length (r.gen,some ⟨w.heap.size,0,r.k,lim⟩)) (w.alloc (.cells arr ty)) S (fun b=>O b∨b=w.heap.size) (h++[r]):=by
  have he:Ext ρ (upd ρ h.length (r.gen,some ⟨w.heap.size,0,r.k,lim⟩)):=zeN ρ _ (H.none_ge (Nat.le_refl _))
  have ha:=uB.alloc w O (.cells arr ty)
  refine H.step he ha (fun b hb=> ?_) (fun id g pl hid=> ?_) (fun id id' g g' p p' h1 h2 hb=> ?_)
  · rcases hb with hb | rfl
    · have:=H.bd b (.inr hb);simp;omega
    · simp
  · by_cases hi:id=h.length
    · subst hi
      rw [upd_same] at hid
      cases hid
      refine .inr ⟨r,by simp,rfl,rfl,hl,.inr rfl,hlen,arr,ty,0,0,heap_alloc_new _ _,by simpa using hs,⟨Nat.le_refl _,fun j _=>by omega,fun _=>rfl⟩,fun e j g c hg hcc=> ?_⟩
      obtain ⟨x,h1,h2,h3,h4⟩:=hc e j g c hg hcc
      exact ⟨x,by simpa using h1,h2,h3.adv he ha,fun hf=>(h4 hf).adv ha⟩
    · rw [upd_ne ρ _ hi] at hid
      have hlt:=H.lt hid
      refine .inl ⟨hid,by rw [List.getElem?_append_left hlt],fun p hp=> ?_⟩
      subst hp
      obtain ⟨r',_,_,hR⟩:=H.row id g _ hid
      exact Below.heap_alloc w _ _ (zm.lt hR)
  · by_cases hi:id=h.length
    · by_cases hi':id'=h.length
      · omega
      · subst hi
        rw [upd_same] at h1
        rw [upd_ne ρ _ hi'] at h2
        cases h1
        obtain ⟨r',_,_,hR⟩:=H.row id' g' _ h2
        have:=zm.lt hR
        simp at hb;omega
    · rw [upd_ne ρ _ hi] at h1
      by_cases hi':id'=h.length
      · subst hi'
        rw [upd_same] at h2
        cases h2
        obtain ⟨r',_,_,hR⟩:=H.row id g _ h1
        have:=zm.lt hR
        simp at hb;omega
      · rw [upd_ne ρ _ hi'] at h2
        exact H.inj id id' g g' p p' h1 h2 hb
theorem Heap.virtual (H:Heap ρ w S O h) (r:zf) (hr:r.es=[]):Heap (upd ρ h.length (r.gen,none)) w S O (h++[r]):=by
  refine H.step (zeN ρ _ (H.none_ge (Nat.le_refl _))) (.refl w O) (fun b hb=>H.bd b (.inr hb)) (fun id g pl hid=> ?_) (fun id id' g g' p p' h1 h2 hb=> ?_)
  · by_cases hi:id=h.length
    · subst hi
      rw [upd_same] at hid
      cases hid
      exact .inr ⟨r,by simp,rfl,hr⟩
    · rw [upd_ne ρ _ hi] at hid
      exact .inl ⟨hid,by rw [List.getElem?_append_left (H.lt hid)],fun _ _=>rfl⟩
  · by_cases hi:id=h.length
    · subst hi;rw [upd_same] at h1;cases h1
    · by_cases hi':id'=h.length
      · subst hi';rw [upd_same] at h2;cases h2
      · rw [upd_ne ρ _ hi] at h1;rw [upd_ne ρ _ hi'] at h2;exact H.inj id id' g g' p p' h1 h2 hb
def zoH (ρ:Rho) (h:List zf):Prop:=∀ (id g:Nat) p r,ρ id=some (g,some p)→h[id]? =some r→p.k=r.k
theorem Heap.kinv (H:Heap ρ w S O h):zoH ρ h:=fun id g p r hid hr=>by
  obtain ⟨_,hR⟩:=H.at hid hr
  exact zm.k (show zm ρ w S O r p from hR)
end
end Go.Proofs.YthcnhibjddomdaaGreat
namespace Go.Proofs.YthcnhibjddomdaaGreat
open Go Go.RowKit
variable [FrB]
section
variable {P:Program} {X:Nat→Prop} {G:Nat→Option (List AV)} {ρ:Rho} {w:World} {S O:Nat→Prop} {env:yF} {h:List zf} {a:Act}
structure Rel (G:Nat→Option (List AV)) (ρ:Rho) (w:World) (S O:Nat→Prop) (env:yF) (a:Act):Prop where
  env:∀ s v,look env s=some v→∃ x,a.tmps[s]? =some x∧zB ρ w S O v x
  glob:∀ g cs,G g=some cs→zB ρ w S O (.dptr cs) (.pointer (some ⟨g,0,none⟩))
def LM (ρ:Rho) (w:World) (S O:Nat→Prop) (h:List zf) (run:Result Next) (v:AV) (h':List zf):Prop:=
  ∃ x w' ρ' O',(run=.ok (.value x) w'∨(run=.ok .skip w'∧x=undef))∧UF w O w' O'∧Ext ρ ρ'∧Heap ρ' w' S O' h'∧zB ρ' w' S O' v x∧∀ id,id<h.length→ρ id=none→ρ' id=none
def vE (ρ:Rho) (w:World) (S O:Nat→Prop) (h:List zf) (run:Result Next) (v:AV) (h':List zf):Prop:=
  (∃ x,run=.ok (.value x) w∧zB ρ w S O v x)∧h'=h
def OpN (ρ:Rho) (w:World) (S O:Nat→Prop) (h:List zf) (run:Result Next) (v:AV) (h':List zf):Prop:=
  ∃ x w' ρ' O',run=.ok (.value x) w'∧uB w O w' O'∧(∀ b,b<w.heap.size→w'.heap[b]? =w.heap[b]?)∧(∀ id y,ρ id=some y→ρ' id=some y)∧
    (∀ (id g:Nat) p,ρ' id=some (g,some p)→ρ id=some (g,some p)∨w.heap.size≤p.b)∧Heap ρ' w' S O' h'∧zB ρ' w' S O' v x∧(∀ id,id<h.length→ρ id=none→ρ' id=none)∧∃ e,h'=h++e
theorem vE.pure {run:Result Next} {v:AV} {x:Value} (hr:run=.ok (.value x) w) (hv:zB ρ w S O v x):vE ρ w S O h run v h:=⟨⟨x,hr,hv⟩,rfl⟩
theorem OpN.pure {run:Result Next} {v:AV} {x:Value} (H:Heap ρ w S O h) (hr:run=.ok (.value x) w) (hv:zB ρ w S O v x):OpN ρ w S O h run v h:=
  ⟨x,w,ρ,O,hr,.refl w O,fun _ _=>rfl,fun _ _ h=>h,fun _ _ _ h=>.inl h,H,hv,fun _ _ h=>h,[],by simp⟩
theorem LM.pure {run:Result Next} {v:AV} {x:Value} (H:Heap ρ w S O h) (hr:run=.ok (.value x) w) (hv:zB ρ w S O v x):LM ρ w S O h run v h:=
  ⟨x,w,ρ,O,.inl hr,.refl w O,.refl ρ,H,hv,fun _ _ h=>h⟩
theorem vE.toN {run:Result Next} {v:AV} {h':List zf} (k:vE ρ w S O h run v h') (H:Heap ρ w S O h):OpN ρ w S O h run v h':=by
  obtain ⟨⟨x,h1,h2⟩,rfl⟩:=k
  exact .pure H h1 h2
theorem OpN.toOp {run:Result Next} {v:AV} {h':List zf} (k:OpN ρ w S O h run v h'):LM ρ w S O h run v h':=by
  obtain ⟨x,w',ρ',O',h1,h2,h3,h4,h5,h6,h7,h8,h9⟩:=k
  exact ⟨x,w',ρ',O',.inl h1,h2.x,fun id g pl hi=>⟨g,pl,h4 id _ hi,Nat.le_refl _,fun _=>rfl⟩,h6,h7,h8⟩
theorem zdi {id:Nat} {x:Nat×Option Pl} (hn:ρ id=none):∀ i y,ρ i=some y→upd ρ id x i=some y:=fun i y hi=>by
  rw [upd_ne ρ x (fun e=>by rw [e,hn] at hi;cases hi)];exact hi
theorem zkd {id b g0:Nat} {pl:Option Pl} (hb:∀ p,pl=some p→b≤p.b):∀ (i g:Nat) p,upd ρ id (g0,pl) i=some (g,some p)→ρ i=some (g,some p)∨b≤p.b:=fun i g p hi=>by
  by_cases e:i=id
  · subst e
    rw [upd_same] at hi
    cases hi
    exact .inr (hb p rfl)
  · rw [upd_ne ρ _ e] at hi
    exact .inl hi
theorem zN {x:Operand} {ax:zD} {v:AV} (hc:zJ x ax=true) (R:Rel G ρ w S O env a) (he:zo G env ax=some v):zB ρ w S O v (a.eval x):=by
  unfold zJ at hc
  split at hc
  · simp only [beq_iff_eq] at hc
    subst hc
    obtain ⟨x,hx,hr⟩:=R.env _ _ he
    simp only [Act.eval,Array.getD_eq_getD_getElem?,hx]
    exact hr
  · cases he;exact .s (zds hc).1
  · simp only [beq_iff_eq] at hc
    subst hc
    obtain ⟨cs,hg,rfl⟩:=ze.1 he
    exact R.glob _ _ hg
  · simp only [beq_iff_eq] at hc
    subst hc
    cases he
    exact .fn _ [] [] [] [] rfl rfl (fun i c v h=>by simp at h) (fun i c v h=>by simp at h)
  · cases hc
variable {o:Oper} {v:AV} {h':List zf}
theorem zFe {x:zD} (hop:zI P o.op (.mov x)=true) (R:Rel G ρ w S O env a) (he:aop G env h (.mov x)=some (v,h')):vE ρ w S O h ((execOp a.eval o).run P w) v h':=by
  obtain ⟨v0,h0,e⟩:=ze.1 he
  cases e
  simp only [zI] at hop
  split at hop
  · rename_i y heq;exact .pure (by simp [execOp,heq]) (zN hop R h0)
  · rename_i y heq;exact .pure (by simp [execOp,heq]) (zN hop R h0)
  · cases hop
theorem zya {k:Nat} (hop:zI P o.op (.mknil k)=true) (R:Rel G ρ w S O env a) (H:Heap ρ w S O h) (he:aop G env h (.mknil k)=some (v,h')):OpN ρ w S O h ((execOp a.eval o).run P w) v h':=by
  simp only [aop,Option.some.injEq,Prod.mk.injEq] at he
  obtain ⟨rfl,rfl⟩:=he
  have go:(execOp a.eval o).run P w=.ok (.value (.slice none 0 0)) w→OpN ρ w S O h ((execOp a.eval o).run P w) (.own h.length 0 0 0 0) (h++[⟨k,0,true,[]⟩]):=fun hr=>
    ⟨_,w,upd ρ h.length (0,none),O,hr,.refl w O,fun _ _=>rfl,zdi (H.none_ge (Nat.le_refl _)),zkd (fun p hp=>by cases hp),H.virtual ⟨k,0,true,[]⟩ rfl,
      .own _ 0 0 none 0 0 0 none 0 (upd_same ρ _ _) (Nat.le_refl _) (Nat.le_refl _) (Nat.le_refl _) (fun h=>by omega) (fun _=>.inl rfl),zb0 ρ _ (Nat.le_refl _),_,rfl⟩
  simp only [zI] at hop
  split at hop
  · rename_i heq;exact go (by simp [execOp,heq,Act.eval])
  · rename_i heq;exact go (by simp [execOp,heq,Act.eval])
  · cases hop
theorem zCY {c x y:zD} (hop:zI P o.op (.pick c x y)=true) (R:Rel G ρ w S O env a) (he:aop G env h (.pick c x y)=some (v,h')):vE ρ w S O h ((execOp a.eval o).run P w) v h':=by
  obtain ⟨v0,h0,he⟩:=za.1 he
  split at he
  case h_2=>cases he
  rename_i b
  obtain ⟨v1,h1,e⟩:=ze.1 he
  cases e
  simp only [zI] at hop
  split at hop
  · rename_i c' a' b' heq
    simp only [Bool.and_eq_true] at hop
    have hb:=TI (zN hop.1.1 R h0)
    cases b with
    | true=>exact .pure (x:=a.eval a') (by simp [execOp,heq,hb,asBool]) (zN hop.1.2 R (by simpa using h1))
    | false=>exact .pure (x:=a.eval b') (by simp [execOp,heq,hb,asBool]) (zN hop.2 R (by simpa using h1))
  · cases hop
theorem zt0 {x:zD} (hop:zI P o.op (.nilchk x)=true) (R:Rel G ρ w S O env a) (he:aop G env h (.nilchk x)=some (v,h')):vE ρ w S O h ((execOp a.eval o).run P w) v h':=by
  obtain ⟨v0,h0,he⟩:=za.1 he
  simp only [zI] at hop
  split at hop
  case h_2=>cases hop
  rename_i y heq
  have hr:=zN hop R h0
  split at he
  · cases he
    obtain ⟨g',pl,ad,hx,_⟩:=Io hr
    exact .pure (x:=a.eval y) (by simp [execOp,heq,hx]) hr
  · cases he
    obtain ⟨b,off,val,hx,_⟩:=WB hr
    exact .pure (x:=a.eval y) (by simp [execOp,heq,hx]) hr
  · cases he
    obtain ⟨xs,ys,hx,_⟩:=zsu hr
    exact .pure (x:=a.eval y) (by simp [execOp,heq,hx]) hr
  · cases he
theorem zu4 {op:BinOp} {x y r:AV} (e:PS op x y=some r):
    (∃ s t,x=.str s∧y=.str t∧op=.add∧¬ ((s.size+t.size:Nat):Int)>IntKind.i64.max∧r=.str (s++t))∨∃ k m k' n,x=.int k m∧y=.int k' n:=by
  unfold PS at e
  split at e
  · rename_i s t
    split at e
    · cases e
    · rename_i hle;cases e;exact .inl ⟨s,t,rfl,rfl,rfl,hle,rfl⟩
  · exact .inr ⟨_,_,_,_,rfl,rfl⟩
  · exact .inr ⟨_,_,_,_,rfl,rfl⟩
  · exact .inr ⟨_,_,_,_,rfl,rfl⟩
  · cases e
theorem zCQ {op:BinOp} {k k':IntKind} {m n:Int} {r:AV} (e:PS op (.int k m) (.int k' n)=some r) (t:TypeId) (x y:Operand) (w:World):
    ∃ z,uj w X r z∧(do eqGuard op t x y (.int k m) (.int k' n);binOp op t (.int k m) (.int k' n):Sem Value).run P w=.ok z w:=by
  have g:(eqGuard op t x y (.int k m) (.int k' n)).run P w=.ok () w:=by
    unfold eqGuard
    split<;>simp
  cases op<;>simp only [PS,Dt] at e
  case shl=>
    split at e
    · cases e
    · rename_i hn;cases e;exact ⟨_,.int _ _,by simp [g,binOp,Op.shift,hn]⟩
  case shr=>
    split at e
    · cases e
    · rename_i hn;cases e;exact ⟨_,.int _ _,by simp [g,binOp,Op.shift,hn]⟩
  case quo=>
    split at e
    · rename_i hk;subst hk
      split at e
      · cases e
      · rename_i hn;cases e;exact ⟨_,.int _ _,by simp [g,binOp,Op.intDiv,hn]⟩
    · cases e
  case rem=>
    split at e
    · rename_i hk;subst hk
      split at e
      · cases e
      · rename_i hn;cases e;exact ⟨_,.int _ _,by simp [g,binOp,Op.intDiv,hn]⟩
    · cases e
  case xor=>split at e<;>cases e
  case and=>
    split at e
    · rename_i hk;subst hk;cases e
      exact ⟨_,.int _ _,by simp only [Sem.run_bind,g,Result.andThen_ok,binOp];rw [if_neg (by simp)];rfl⟩
    · cases e
  case or=>
    split at e
    · rename_i hk;subst hk;cases e
      exact ⟨_,.int _ _,by simp only [Sem.run_bind,g,Result.andThen_ok,binOp];rw [if_neg (by simp)];rfl⟩
    · cases e
  case andNot=>
    split at e
    · rename_i hk;subst hk;cases e
      exact ⟨_,.int _ _,by simp only [Sem.run_bind,g,Result.andThen_ok,binOp];rw [if_neg (by simp)];rfl⟩
    · cases e
  all_goals
    split at e
    · rename_i hk;subst hk;cases e
      first
        | exact ⟨_,.int _ _,by simp [g,binOp,Op.intArith];done⟩
        | exact ⟨_,.bool _,by simp [g,binOp,Op.intCmp]⟩
    · cases e
theorem zFQ {op:BinOp} {x y:zD} (hop:zI P o.op (.bin op x y)=true) (R:Rel G ρ w S O env a) (he:aop G env h (.bin op x y)=some (v,h')):vE ρ w S O h ((execOp a.eval o).run P w) v h':=by
  obtain ⟨v0,h0,he⟩:=za.1 he
  obtain ⟨v1,h1,he⟩:=za.1 he
  obtain ⟨r,hb,e⟩:=ze.1 he
  cases e
  simp only [zI] at hop
  split at hop
  case h_2=>cases hop
  rename_i op' t x' y' yt heq
  simp only [Bool.and_eq_true,beq_iff_eq] at hop
  obtain ⟨⟨rfl,hx⟩,hy⟩:=hop
  have rx:=zN hx R h0
  have ry:=zN hy R h1
  rcases zu4 hb with ⟨s,t',rfl,rfl,rfl,hle,rfl⟩ | ⟨k,m,k',n,rfl,rfl⟩
  · have e1:=Rf rx
    have e2:=Rf ry
    refine .pure (x:=.string (s++t')) ?_ (.s (.str _))
    simp only [execOp,heq,e1,e2,eqGuard,binOp,Op.stringOp]
    rw [if_neg hle]
    simp
  · have e1:=jc rx
    have e2:=jc ry
    obtain ⟨z,hz,hrun⟩:=zCQ (P:=P) (X:=fun b=>S b∨O b) hb t x' y' w
    refine .pure (x:=z) ?_ (.s hz)
    simp only [execOp,heq,e1,e2]
    rw [Sem.run_bind,hrun]
    rfl
theorem zFE {x:zD} (hop:zI P o.op (.not x)=true) (R:Rel G ρ w S O env a) (he:aop G env h (.not x)=some (v,h')):vE ρ w S O h ((execOp a.eval o).run P w) v h':=by
  obtain ⟨v0,h0,he⟩:=za.1 he
  simp only [zI] at hop
  split at hop
  case h_2=>cases hop
  rename_i ty y heq
  split at he
  case h_2=>cases he
  cases he
  have e1:=TI (zN hop R h0)
  exact .pure (by simp [execOp,heq,e1,Op.unary]) (.s (.bool _))
theorem zFf {x:zD} (hop:zI P o.op (.neg x)=true) (R:Rel G ρ w S O env a) (he:aop G env h (.neg x)=some (v,h')):vE ρ w S O h ((execOp a.eval o).run P w) v h':=by
  obtain ⟨v0,h0,he⟩:=za.1 he
  simp only [zI] at hop
  split at hop
  case h_2=>cases hop
  rename_i ty y heq
  split at he
  case h_2=>cases he
  cases he
  have e1:=jc (zN hop R h0)
  exact .pure (by simp [execOp,heq,e1,Op.unary,Op.intArith]) (.s (.int _ _))
theorem zbZ {t:TypeId} (h:(P.underlying t).isSome=true):∃ d,P.underlying t=some d:=Option.isSome_iff_exists.1 h
theorem zCH {k:IntKind} {x:zD} (hop:zI P o.op (.conv k x)=true) (R:Rel G ρ w S O env a) (he:aop G env h (.conv k x)=some (v,h')):vE ρ w S O h ((execOp a.eval o).run P w) v h':=by
  obtain ⟨v0,h0,he⟩:=za.1 he
  simp only [zI] at hop
  split at hop
  case h_2=>cases hop
  rename_i s d y heq
  simp only [Bool.and_eq_true] at hop
  obtain ⟨⟨h1,h2⟩,h3⟩:=hop
  obtain ⟨ds,hs⟩:=zbZ h2
  split at h3
  case h_2=>cases h3
  rename_i k' hd
  simp only [beq_iff_eq] at h3
  subst h3
  split at he
  case h_2=>cases he
  cases he
  have e1:=jc (zN h1 R h0)
  exact .pure (by simp [execOp,heq,e1,convert,run_underlying hs,run_underlying hd,Conv.intToInt]) (.s (.int _ _))
theorem zBG {x:zD} (hop:zI P o.op (.rstr x)=true) (R:Rel G ρ w S O env a) (he:aop G env h (.rstr x)=some (v,h')):vE ρ w S O h ((execOp a.eval o).run P w) v h':=by
  obtain ⟨v0,h0,he⟩:=za.1 he
  simp only [zI] at hop
  split at hop
  case h_2=>cases hop
  rename_i s d y heq
  simp only [Bool.and_eq_true] at hop
  obtain ⟨⟨h1,h2⟩,h3⟩:=hop
  obtain ⟨ds,hs⟩:=zbZ h2
  split at h3
  case h_2=>cases h3
  rename_i hd
  split at he
  case h_2=>cases he
  cases he
  have e1:=jc (zN h1 R h0)
  exact .pure (by simp [execOp,heq,e1,convert,run_underlying hs,run_underlying hd,Conv.intToString]) (.s (.str _))
theorem zET {x:zD} (hop:zI P o.op (.cvs x)=true) (R:Rel G ρ w S O env a) (he:aop G env h (.cvs x)=some (v,h')):vE ρ w S O h ((execOp a.eval o).run P w) v h':=by
  obtain ⟨v0,h0,he⟩:=za.1 he
  simp only [zI] at hop
  split at hop
  case h_2=>cases hop
  rename_i s d y heq
  simp only [Bool.and_eq_true] at hop
  obtain ⟨⟨h1,h2⟩,h3⟩:=hop
  obtain ⟨ds,hs⟩:=zbZ h2
  split at h3
  case h_2=>cases h3
  rename_i hd
  split at he
  case h_2=>cases he
  cases he
  have e1:=Rf (zN h1 R h0)
  exact .pure (by simp [execOp,heq,e1,convert,run_underlying hs,run_underlying hd]) (.s (.str _))
theorem zeO:∀ {xs:List Operand} {asx:List zD} {vs:List AV},LA xs asx=true→Rel G ρ w S O env a→asx.mapM (zo G env)=some vs→
    vs.length=(xs.map a.eval).length∧∀ (i:Nat) c v,vs[i]? =some c→(xs.map a.eval)[i]? =some v→zB ρ w S O c v
  | [],[],vs,_,_,he=>by simp at he;subst he;exact ⟨rfl,fun i c v hc=>by simp at hc⟩
  | x::xs,b::asx,vs,hc,R,he=>by
    simp only [LA,Bool.and_eq_true] at hc
    simp only [List.mapM_cons] at he
    obtain ⟨u,hu,he⟩:=za.1 he
    obtain ⟨us,hus,he⟩:=za.1 he
    cases he
    obtain ⟨h1,h2⟩:=zeO hc.2 R hus
    refine ⟨by simp [h1],fun i c v hc' hv=> ?_⟩
    cases i with
    | zero=>simp at hc' hv;subst hc' hv;exact zN hc.1 R hu
    | succ i=>exact h2 i c v (by simpa using hc') (by simpa using hv)
  | [],_::_,_,hc,_,_=>by cases hc
  | _::_,[],_,hc,_,_=>by cases hc
theorem zCf {f:Fn} {xs ys:List zD} (hop:zI P o.op (.mkfn f xs ys)=true) (R:Rel G ρ w S O env a) (he:aop G env h (.mkfn f xs ys)=some (v,h')):vE ρ w S O h ((execOp a.eval o).run P w) v h':=by
  obtain ⟨v0,h0,he⟩:=za.1 he
  obtain ⟨v1,h1,e⟩:=ze.1 he
  cases e
  simp only [zI] at hop
  split at hop
  case h_2=>cases hop
  rename_i f' first caps heq
  simp only [Bool.and_eq_true,beq_iff_eq] at hop
  obtain ⟨⟨rfl,hx⟩,hy⟩:=hop
  obtain ⟨l1,r1⟩:=zeO hx R h0
  obtain ⟨l2,r2⟩:=zeO hy R h1
  refine .pure (x:=.func f (first.toList.map a.eval).toArray (caps.toList.map a.eval).toArray) ?_ (.fn f v0 v1 _ _ l1 l2 r1 r2)
  have m1:first.map a.eval=(first.toList.map a.eval).toArray:=by apply Array.ext';simp
  have m2:caps.map a.eval=(caps.toList.map a.eval).toArray:=by apply Array.ext';simp
  simp [execOp,heq,Instr.makeFunc,m1,m2]
theorem zpm {i:Nat} {x:zD} (hop:zI P o.op (.extract i x)=true) (R:Rel G ρ w S O env a) (he:aop G env h (.extract i x)=some (v,h')):vE ρ w S O h ((execOp a.eval o).run P w) v h':=by
  obtain ⟨v0,h0,he⟩:=za.1 he
  split at he
  case h_2=>cases he
  rename_i vs
  obtain ⟨c,hc,e⟩:=ze.1 he
  cases e
  simp only [zI] at hop
  split at hop
  case h_2=>cases hop
  rename_i y j heq
  simp only [Bool.and_eq_true,beq_iff_eq] at hop
  obtain ⟨hx,rfl⟩:=hop
  obtain ⟨us,e1,hl,hr⟩:=zlt (zN hx R h0)
  have hlt:i<us.length:=by have:=(List.getElem?_eq_some_iff.1 hc).1;omega
  refine .pure (x:=us[i]) ?_ (hr i v _ hc (by simp [hlt]))
  simp [execOp,heq,e1,Instr.extract,hlt]
end
end Go.Proofs.YthcnhibjddomdaaGreat
namespace Go.Proofs.YthcnhibjddomdaaGreat
open Go
def zal (d:Nat) (e:TypeId) (sz:Nat) (xs ys:Array Value):Nat→Nat→Sem Bool
  | 0,_=>pure true
  | k+1,i=>do
    let a ← part e xs (i * sz)
    let b ← part e ys (i * sz)
    let r ← Op.equalIn d e a b
    if (!r)=true then pure false else zal d e sz xs ys k (i+1)
section
variable {P:Program} (w:World)
theorem run_equalIn_array (d:Nat) (t e:TypeId) (n sz:Nat) (xs ys:Array Value) (ht:P.underlying t=some (.array n e)) (hs:(sizeOf e).run P w=.ok sz w):
    (Op.equalIn (d+1) t (.agg xs) (.agg ys)).run P w=(zal d e sz xs ys n 0).run P w:=by
  simp only [Op.equalIn,Sem.run_bind,run_underlying ht,Result.andThen_ok,hs]
  rw [Std.Legacy.Range.forIn_eq_forIn_range']
  simp only [Std.Legacy.Range.size,Nat.sub_zero,Nat.add_sub_cancel,Nat.div_one]
  clear hs ht
  generalize 0=s
  induction n generalizing s w with
  | zero=>simp [zal]
  | succ k ih=>
    simp only [List.range'_succ,List.forIn_cons,zal,Sem.run_bind,Sem.run_ite]
    generalize (part e xs (s * sz)).run P w=r1
    cases r1 with
    | ok a w1=>
      simp only [Result.andThen_ok]
      generalize (part e ys (s * sz)).run P w1=r2
      cases r2 with
      | ok b w2=>
        simp only [Result.andThen_ok]
        generalize (Op.equalIn d e a b).run P w2=r3
        cases r3 with
        | ok r w3=>
          cases r
          · simp only [Result.andThen_ok,Bool.not_false,if_true,Sem.run_pure]
          · simp only [Result.andThen_ok,Bool.not_true,Bool.false_eq_true,if_false,Sem.run_pure]
            exact ih w3 (s+1)
        | halt x w3=>simp [Result.andThen]
      | halt x w2=>simp [Result.andThen]
    | halt x w1=>simp [Result.andThen]
end
end Go.Proofs.YthcnhibjddomdaaGreat
namespace Go.Proofs.YthcnhibjddomdaaGreat
open Go Go.RowKit
section
variable {P:Program}
def Pt:AV→Value
  | .int k n=>.int k n
  | .bool b=>.bool b
  | .str s=>.string s
  | _=>undef
theorem PE {t:TypeId} {b:Bool} (h:jL P t=some b) (w:World):(isAgg t).run P w=.ok b w:=by
  unfold jL at h
  unfold isAgg
  split at h
  · rename_i d hu;cases h;simp [run_underlying hu]
  · rename_i d e hu;cases h;simp [run_underlying hu]
  · rename_i d n1 n2 hu;cases h
    rw [Sem.run_bind,run_underlying hu w]
    cases d with
    | struct fs=>exact absurd rfl (n1 fs)
    | array n e=>exact absurd rfl (n2 n e)
    | _=>rfl
  · cases h
theorem uQ {t:TypeId} {n:Nat} (h:vP P t n=true) (w:World):(sizeOf t).run P w=.ok n w:=by
  unfold vP at h
  split at h
  · rename_i i hi;simp only [beq_iff_eq] at h;simp [sizeOf,typeInfo,hi,h]
  · cases h
theorem IY {t:TypeId} {n:Nat} (h:vP P t n=true):∃ i,P.info? t=some i∧i.size=n:=by
  unfold vP at h
  split at h
  · rename_i i hi;exact ⟨i,hi,by simpa using h⟩
  · cases h
def zhD (P:Program) (t:TypeId) (vs:List Value):Value:=if jL P t=some true then .agg vs.toArray else vs.headD undef
theorem zcd {t:TypeId} {b:Bool} {n off:Nat} {vs:List Value} (h1:jL P t=some b) (h2:vP P t n=true) (h3:off+n≤vs.length) (h4:b=false→n=1) (w:World):
    (part t vs.toArray off).run P w=.ok (zhD P t ((vs.drop off).take n)) w:=by
  unfold part
  rw [Sem.run_bind,PE h1]
  cases b with
  | true=>
    simp only [Result.andThen_ok,if_true,Sem.run_bind,uQ h2,Sem.run_pure,zhD,h1]
    congr 2
    apply Array.ext'
    simp [List.drop_take]
  | false=>
    obtain rfl:=h4 rfl
    have hlt:off<vs.length:=by omega
    have e:(vs.drop off).take 1=[vs[off]]:=by rw [List.drop_eq_getElem_cons hlt];rfl
    simp only [Result.andThen_ok,Bool.false_eq_true,if_false,zhD,h1,List.getElem?_toArray,e]
    rw [List.getElem?_eq_getElem hlt]
    rfl
theorem zdM:∀ {sh:List Sh} {asx bs:List AV} {b:Bool},vR sh asx bs=some b→asx.length=sh.length∧bs.length=sh.length
  | [],[],[],_,_=>⟨rfl,rfl⟩
  | s::ss,a::asx,c::bs,_,h=>by
    obtain ⟨x,_,h⟩:=za.1 h
    obtain ⟨y,hy,_⟩:=za.1 h
    obtain ⟨h1,h2⟩:=zdM hy
    exact ⟨by simp [h1],by simp [h2]⟩
  | [],[],_::_,_,h=>by cases h
  | [],_::_,_,_,h=>by cases h
  | _::_,[],_,_,h=>by cases h
  | _::_,_::_,[],_,h=>by cases h
theorem PT:∀ {s1 s2:List Sh} {asx bs:List AV} {b:Bool},vR (s1++s2) asx bs=some b→
    ∃ x y,vR s1 (asx.take s1.length) (bs.take s1.length)=some x∧vR s2 (asx.drop s1.length) (bs.drop s1.length)=some y∧b=(x&&y)
  | [],s2,asx,bs,b,h=>⟨true,b,by simp [vR],by simpa using h,by simp⟩
  | s::s1,s2,a::asx,c::bs,b,h=>by
    obtain ⟨x,hx,h⟩:=za.1 h
    obtain ⟨y,hy,h⟩:=za.1 h
    cases h
    obtain ⟨p,q,h1,h2,rfl⟩:=PT hy
    refine ⟨x&&p,q, ?_,by simpa using h2,by simp [Bool.and_assoc]⟩
    simp [vR,hx,h1]
  | _::_,_,[],_,_,h=>by cases h
  | _::_,_,_::_,[],_,h=>by cases h
def zGq (P:Program) (t:TypeId):Sh→Prop
  | .ki=>∃ k,P.underlying t=some (.int k)
  | .kb=>P.underlying t=some .bool
  | .ks=>P.underlying t=some .string
theorem zqv (d:Nat) (t:TypeId) (w:World) {s:Sh} {x y:AV} {b:Bool} (h:WJ s x y=some b)
    (hs:zGq P t s):
    (Op.equalIn (d+1) t (Pt x) (Pt y)).run P w=.ok b w:=by
  unfold WJ at h
  split at h
  · rename_i k a k' c
    by_cases hk:k=k'
    · rw [if_pos hk] at h
      subst hk
      cases h
      obtain ⟨k',hu⟩:=hs
      exact run_equalIn_int w d t _ k' _ _ hu
    · rw [if_neg hk] at h;cases h
  · cases h;exact run_equalIn_bool w d t _ _ hs
  · cases h;rw [beq_toListBytes];exact run_equalIn_string w d t _ _ hs
  · cases h
def EqAt (P:Program) (d:Nat):Prop:=∀ (t:TypeId) (sh:List Sh) (asx bs:List AV) (b:Bool),KF P d t=some sh→vR sh asx bs=some b→∀ (f:Nat) (w:World),d≤f→(Op.equalIn f t (zhD P t (asx.map Pt)) (zhD P t (bs.map Pt))).run P w=.ok b w
theorem flat_agg {d:Nat} {t:TypeId} {sh:List Sh} (h:KF P d t=some sh):∃ bb,jL P t=some bb∧(bb=false→sh.length=1):=by
  cases d with
  | zero=>cases h
  | succ d=>
    unfold KF at h
    unfold jL
    split at h
    · rename_i hu;split at h<;>cases h;exact ⟨false,by rw [hu],fun _=>rfl⟩
    · rename_i hu;split at h<;>cases h;exact ⟨false,by rw [hu],fun _=>rfl⟩
    · rename_i hu;split at h<;>cases h;exact ⟨false,by rw [hu],fun _=>rfl⟩
    · rename_i hu;exact ⟨true,by rw [hu],fun h=>by cases h⟩
    · rename_i hu;exact ⟨true,by rw [hu],fun h=>by cases h⟩
    · cases h
theorem zbu (d:Nat) (ih:EqAt P d) (f0:Nat) (hf0:d≤f0) (w:World) (xs ys:List AV):
    ∀ (fs:List Field) (off:Nat) (sh:List Sh) (b:Bool),zb3 P (KF P d) off fs=some sh→vR sh (xs.drop off) (ys.drop off)=some b→off+sh.length=xs.length→off+sh.length=ys.length→
      (Op.eqFields f0 (xs.map Pt).toArray (ys.map Pt).toArray fs).run P w=.ok b w
  | [],off,sh,b,hp,he,_,_=>by
    cases hp
    generalize xs.drop off=asx at he
    generalize ys.drop off=bs at he
    cases asx<;>cases bs<;>cases he
    rfl
  | f::fs,off,sh,b,hp,he,hx,hy=>by
    unfold zb3 at hp
    obtain ⟨s1,h1,hp⟩:=za.1 hp
    split at hp
    case isFalse=>cases hp
    rename_i hc
    simp only [Bool.and_eq_true,beq_iff_eq,bne_iff_ne] at hc
    obtain ⟨⟨ho,hn⟩,hsz⟩:=hc
    obtain ⟨s2,h2,e⟩:=ze.1 hp
    subst e
    simp only [List.length_append] at hx hy
    obtain ⟨x,y,e1,e2,rfl⟩:=PT he
    rw [List.drop_drop,List.drop_drop] at e2
    obtain ⟨bb,hb1,hb2⟩:=flat_agg h1
    have p1:=zcd (vs:=xs.map Pt) hb1 hsz (off:=off) (by simp;omega) hb2 w
    have p2:=zcd (vs:=ys.map Pt) hb1 hsz (off:=off) (by simp;omega) hb2 w
    have q:=ih f.type s1 _ _ x h1 e1 f0 w hf0
    rw [Op.eqFields,if_pos hn]
    rw [ho]
    simp only [Sem.run_bind,p1,p2,Result.andThen_ok,← List.map_drop,← List.map_take,q]
    cases x with
    | false=>simp
    | true=>
      simp only [Bool.not_true,Bool.false_eq_true,if_false,Bool.true_and]
      exact zbu d ih f0 hf0 w xs ys fs (off+s1.length) s2 y h2 e2 (by omega) (by omega)
theorem zdE (d:Nat) (ih:EqAt P d) (f0:Nat) (hf0:d≤f0) (w:World) (e:TypeId) (sh:List Sh) (hfl:KF P d e=some sh) (hsz:vP P e sh.length=true) (xs ys:List AV):
    ∀ (k i:Nat) (b:Bool),(i+k) * sh.length=xs.length→(i+k) * sh.length=ys.length→vR (List.replicate k sh).flatten (xs.drop (i * sh.length)) (ys.drop (i * sh.length))=some b→
      (zal f0 e sh.length (xs.map Pt).toArray (ys.map Pt).toArray k i).run P w=.ok b w
  | 0,i,b,_,_,he=>by
    generalize xs.drop (i * sh.length)=asx at he
    generalize ys.drop (i * sh.length)=bs at he
    simp only [List.replicate_zero,List.flatten_nil] at he
    cases asx<;>cases bs<;>cases he
    rfl
  | k+1,i,b,hx,hy,he=>by
    have ek:(i+(k+1)) * sh.length=i * sh.length+sh.length+k * sh.length:=by simp [Nat.add_mul,Nat.add_comm,Nat.add_left_comm]
    rw [List.replicate_succ,List.flatten_cons] at he
    obtain ⟨x,y,e1,e2,rfl⟩:=PT he
    rw [List.drop_drop,List.drop_drop,show i * sh.length+sh.length=(i+1) * sh.length from by rw [Nat.add_mul];omega] at e2
    obtain ⟨bb,hb1,hb2⟩:=flat_agg hfl
    have p1:=zcd (vs:=xs.map Pt) hb1 hsz (off:=i * sh.length) (by simp;omega) hb2 w
    have p2:=zcd (vs:=ys.map Pt) hb1 hsz (off:=i * sh.length) (by simp;omega) hb2 w
    have q:=ih e sh _ _ x hfl e1 f0 w hf0
    rw [zal]
    simp only [Sem.run_bind,p1,p2,Result.andThen_ok,← List.map_drop,← List.map_take,q]
    cases x with
    | false=>simp
    | true=>
      simp only [Bool.not_true,Bool.false_eq_true,if_false,Bool.true_and]
      exact zdE d ih f0 hf0 w e sh hfl hsz xs ys k (i+1) y (by rw [← hx];congr 1;omega) (by rw [← hy];congr 1;omega) e2
theorem zFN:∀ d,EqAt P d
  | 0=>fun t sh asx bs b h=>by cases h
  | d+1=>fun t sh asx bs b h he f w hf=>by
    obtain ⟨f,rfl⟩:∃ k,f=k+1:=⟨f - 1,by omega⟩
    obtain ⟨la,lb⟩:=zdM he
    have leaf:∀ s,sh=[s]→jL P t=some false→zGq P t s→
        (Op.equalIn (f+1) t (zhD P t (asx.map Pt)) (zhD P t (bs.map Pt))).run P w=.ok b w:=fun s hsh hag hs=>by
      subst hsh
      match asx,bs,la,lb with
      | [x],[y],_,_=>
        obtain ⟨p,hp,he⟩:=za.1 he
        cases he
        simp only [zhD,hag,Option.some.injEq,Bool.false_eq_true,if_false,List.map_cons,List.map_nil,List.headD_cons,Bool.and_true]
        exact zqv f t w hp hs
    have hag:∀ dd,P.underlying t=some dd→(match dd with | .struct _ | .array _ _=>False | _=>True)→jL P t=some false:=fun dd hu hn=>by
      unfold jL;rw [hu];cases dd<;>first | rfl | exact hn.elim
    unfold KF at h
    split at h
    · rename_i hu;split at h<;>cases h;exact leaf _ rfl (hag _ hu trivial) hu
    · rename_i k hu;split at h<;>cases h;exact leaf _ rfl (hag _ hu trivial) ⟨k,hu⟩
    · rename_i hu;split at h<;>cases h;exact leaf _ rfl (hag _ hu trivial) hu
    · rename_i fs hu
      split at h
      · cases h
      · rename_i hst
        have ha:jL P t=some true:=by unfold jL;rw [hu]
        simp only [zhD,ha,if_true]
        have hf1:P.fieldsOf t=fs:=by simp [Program.fieldsOf,hu]
        rw [run_equalIn_struct w f t _ _ (by rw [hf1];exact hu) (by simpa using hst),hf1]
        exact zbu d (zFN d) f (by omega) w asx bs fs.toList 0 sh b h (by simpa using he) (by omega) (by omega)
    · rename_i n e hu
      obtain ⟨s1,h1,h⟩:=za.1 h
      split at h
      case isFalse=>cases h
      rename_i hc
      cases h
      simp only [Bool.and_eq_true] at hc
      have ha:jL P t=some true:=by unfold jL;rw [hu]
      simp only [zhD,ha,if_true]
      rw [run_equalIn_array w f t e n s1.length _ _ hu (uQ hc.1 w)]
      have hl:(List.replicate n s1).flatten.length=n * s1.length:=by simp
      exact zdE d (zFN d) f (by omega) w e s1 h1 hc.1 asx bs n 0 b (by rw [la,hl];simp) (by rw [lb,hl];simp) (by simpa using he)
    · cases h
end
end Go.Proofs.YthcnhibjddomdaaGreat
namespace Go.Proofs.YthcnhibjddomdaaGreat
open Go Go.RowKit
variable [FrB]
section
variable {P:Program} {G:Nat→Option (List AV)} {ρ:Rho} {w:World} {S O:Nat→Prop} {env:yF} {h:List zf} {a:Act} {o:Oper} {v:AV} {h':List zf}
theorem DX {t:TypeId} {agg:Bool} {m:Nat} {cs:List AV} {b o off:Nat} {val:Nat→Value} {v:AV} (hagg:jL P t=some agg) (hs:vP P t m=true)
    (hc:∀ j,j<cs.length→w.cell? ⟨b,o+j,none⟩=some (val j)∧(val j).oneCell'=true) (hr:∀ (j:Nat) c,cs[j]? =some c→zB ρ w S O c (val j)) (hcut:zaq agg m off cs=some v):
    ∃ x,(Instr.loadAt t (.pointer (some ⟨b,o+off,none⟩))).run P w=.ok x w∧zB ρ w S O v x:=by
  cases agg with
  | false=>
    have hcut:cs[off]? =some v:=hcut
    have hlt:=(List.getElem?_eq_some_iff.1 hcut).1
    refine ⟨val off, ?_,hr off v hcut⟩
    simp [Instr.loadAt,Instr.sureAddr,loadVar,PE hagg,(hc off hlt).1]
  | true=>
    unfold zaq at hcut
    rw [if_pos rfl] at hcut
    split at hcut
    case isFalse=>cases hcut
    rename_i hle
    cases hcut
    obtain ⟨i,hi,hsz⟩:=IY hs
    have hd:∃ d,P.underlying t=some d∧d.isRow=true:=by
      unfold jL at hagg
      split at hagg
      · rename_i hu;exact ⟨_,hu,rfl⟩
      · rename_i hu;exact ⟨_,hu,rfl⟩
      · cases hagg
      · cases hagg
    obtain ⟨d,hu,hrow⟩:=hd
    refine ⟨.agg ((List.range m).map fun j=>val (off+j)).toArray, ?_,.agg _ _ (by simp;omega) ?_ ?_⟩
    · refine run_loadAt_mid w b (o+off) t _ d (fun j v hj=> ?_) hu hrow (by simp [hi,hsz])
      have hjm:j<m:=by have:=(List.getElem?_eq_some_iff.1 hj).1;simpa using this
      simp [hjm] at hj
      subst hj
      rw [Nat.add_assoc]
      exact (hc (off+j) (by omega)).1
    · intro v hv
      obtain ⟨j,hj,rfl⟩:=List.mem_map.1 hv
      exact (hc (off+j) (by simp at hj;omega)).2
    · intro j c x hc' hx
      have hjm:j<m:=by have:=(List.getElem?_eq_some_iff.1 hx).1;simpa using this
      simp [hjm] at hx
      subst hx
      refine hr (off+j) c ?_
      rw [List.getElem?_take,if_pos hjm,List.getElem?_drop] at hc'
      exact hc'
theorem zBl {agg:Bool} {m:Nat} {x:zD} (hop:zI P o.op (.load agg m x)=true) (R:Rel G ρ w S O env a) (H:Heap ρ w S O h) (he:aop G env h (.load agg m x)=some (v,h')):OpN ρ w S O h ((execOp a.eval o).run P w) v h':=by
  obtain ⟨v0,h0,he⟩:=za.1 he
  obtain ⟨v1,h1,e⟩:=ze.1 he
  cases e
  simp only [zI] at hop
  split at hop
  case h_2=>cases hop
  rename_i t y heq
  simp only [Bool.and_eq_true,beq_iff_eq] at hop
  obtain ⟨⟨hx,hag⟩,hs⟩:=hop
  have hr:=zN hx R h0
  have fin:∀ z,(∃ u,(Instr.loadAt t z).run P w=.ok u w∧zB ρ w S O v u)→a.eval y=z→OpN ρ w S O h ((execOp a.eval o).run P w) v h:=fun z ⟨u,h1,h2⟩ hz=>
    .pure H (x:=u) (by simp [execOp,heq,hz,h1]) h2
  cases v0 with
  | ptr id g e off=>
    obtain ⟨r,hrow,h1⟩:=za.1 h1
    split at h1
    case isFalse=>cases h1
    rename_i hgen
    obtain ⟨grp,hg,hcut⟩:=za.1 h1
    obtain ⟨g',pl,ad,hz,hρ,hle,hpl⟩:=Io hr
    obtain ⟨hg',his⟩:=H.at hρ hrow
    obtain ⟨p,rfl,rfl⟩:=hpl (by omega)
    obtain ⟨arr,ty,lo,hi,hb,hsz,_,hcell⟩:=zm.block his
    have hlen:=zm.len his grp (List.mem_of_getElem? hg)
    refine fin _ (DX (cs:=grp) (b:=p.b) (o:=p.base+e * p.k) (off:=off) (val:=fun j=>arr.getD (p.base+e * p.k+j) undef) hag hs (fun j hj=> ?_) (fun j c hj=> ?_) hcut) hz
    · obtain ⟨x,h1,h2,_⟩:=hcell e j grp _ hg (List.getElem?_eq_getElem hj)
      simp only [Array.getD_eq_getD_getElem?,h1,Option.getD_some]
      exact ⟨by rw [cell_of_row w p.b _ arr ty _ hb];exact h1,h2⟩
    · obtain ⟨x,h1,_,h3,_⟩:=hcell e j grp c hg hj
      simp only [Array.getD_eq_getD_getElem?,h1,Option.getD_some]
      exact h3
  | dptr cs=>
    obtain ⟨b,off,val,hz,_,_,h5,h6⟩:=WB hr
    have:=DX (ρ:=ρ) (S:=S) (O:=O) (cs:=cs) (b:=b) (o:=off) (off:=0) (val:=val) hag hs h5 (fun j c hj=>(h6 j c hj).v) h1
    exact fin _ this hz
  | _=>cases h1
theorem addr_add (b o n:Nat):(⟨b,o,none⟩:Addr).add n=⟨b,o+n,none⟩:=Addr.add_mid b o n
theorem zzO {off:Nat} {x:zD} (hop:zI P o.op (.faddr off x)=true) (R:Rel G ρ w S O env a) (he:aop G env h (.faddr off x)=some (v,h')):vE ρ w S O h ((execOp a.eval o).run P w) v h':=by
  obtain ⟨v0,h0,he⟩:=za.1 he
  obtain ⟨v1,h1,e⟩:=ze.1 he
  cases e
  simp only [zI] at hop
  split at hop
  case h_2=>cases hop
  rename_i s y f heq
  simp only [Bool.and_eq_true] at hop
  obtain ⟨hx,hop⟩:=hop
  split at hop
  case h_2=>cases hop
  rename_i fs hu
  split at hop
  case h_2=>cases hop
  rename_i fd hf
  simp only [Bool.and_eq_true,beq_iff_eq] at hop
  obtain ⟨hoff,hop⟩:=hop
  split at hop
  case h_2=>cases hop
  rename_i i hi
  have hsz:i.size≠0:=by simpa using hop
  have hr:=zN hx R h0
  have run:∀ b o,(Instr.fieldAt s (.pointer (some ⟨b,o,none⟩)) f).run P w=.ok (.pointer (some ⟨b,o+off,none⟩)) w:=fun b o=>by
    simp [Instr.fieldAt,run_underlying hu,hf,Instr.sureAddr,fieldPlace,sizeOf,typeInfo,hi,hsz,addr_add,hoff]
  cases v0 with
  | ptr id g e off0=>
    cases h1
    obtain ⟨g',pl,ad,hz,hρ,hle,hpl⟩:=Io hr
    by_cases hg:g=g'
    · obtain ⟨p,rfl,rfl⟩:=hpl hg
      exact .pure (x:=.pointer (some ⟨p.b,p.base+e * p.k+off0+off,none⟩)) (by simp [execOp,heq,hz,run]) (.ptr id g g' (some p) e (off0+off) _ hρ hle (fun _=>⟨p,rfl,by rw [Nat.add_assoc]⟩))
    · refine .pure (x:=.pointer (some (ad.add off))) ?_ (.ptr id g g' pl e (off0+off) _ hρ hle (fun h=>absurd h hg))
      simp [execOp,heq,hz,Instr.fieldAt,run_underlying hu,hf,Instr.sureAddr,fieldPlace,sizeOf,typeInfo,hi,hsz,hoff]
  | dptr cs=>
    cases h1
    obtain ⟨b,o1,val,hz,h3,h4,h5,h6⟩:=WB hr
    refine .pure (x:=.pointer (some ⟨b,o1+off,none⟩)) (by simp [execOp,heq,hz,run]) (.dptr _ b (o1+off) (fun j=>val (off+j)) h3 h4 (fun j hj=> ?_) fun j c hj=> ?_)
    · rw [Nat.add_assoc];exact h5 (off+j) (by simp at hj;omega)
    · exact h6 (off+j) c (by rw [List.getElem?_drop] at hj;exact hj)
  | _=>cases h1
theorem zxJ {agg:Bool} {m off:Nat} {x:zD} (hop:zI P o.op (.field agg m off x)=true) (R:Rel G ρ w S O env a) (he:aop G env h (.field agg m off x)=some (v,h')):vE ρ w S O h ((execOp a.eval o).run P w) v h':=by
  obtain ⟨v0,h0,he⟩:=za.1 he
  split at he
  case h_2=>cases he
  rename_i cs
  obtain ⟨v1,h1,e⟩:=ze.1 he
  cases e
  simp only [zI] at hop
  split at hop
  case h_2=>cases hop
  rename_i s y f heq
  simp only [Bool.and_eq_true] at hop
  obtain ⟨hx,hop⟩:=hop
  split at hop
  case h_2=>cases hop
  rename_i fs hu
  split at hop
  case h_2=>cases hop
  rename_i fd hf
  simp only [Bool.and_eq_true,beq_iff_eq] at hop
  obtain ⟨⟨hoff,hag⟩,hs⟩:=hop
  obtain ⟨vs,hz,hl,hone,hrep⟩:=IX (zN hx R h0)
  subst hoff
  have key:∃ u,(part fd.type vs.toArray fd.offset).run P w=.ok u w∧zB ρ w S O v u:=by
    cases agg with
    | false=>
      have h1:cs[fd.offset]? =some v:=h1
      have hlt:=(List.getElem?_eq_some_iff.1 h1).1
      refine ⟨vs[fd.offset], ?_,hrep _ _ _ h1 (by simp [hl ▸ hlt])⟩
      simp [part,PE hag,hl ▸ hlt]
    | true=>
      unfold zaq at h1
      rw [if_pos rfl] at h1
      split at h1
      case isFalse=>cases h1
      rename_i hle
      cases h1
      refine ⟨.agg ((vs.drop fd.offset).take m).toArray, ?_,.agg _ _ (by simp;omega) ?_ ?_⟩
      · simp only [part,Sem.run_bind,PE hag,Result.andThen_ok,if_true,uQ hs,Sem.run_pure]
        congr 2
        apply Array.ext'
        simp
      · intro u hu;exact hone u (List.mem_of_mem_drop (List.mem_of_mem_take hu))
      · intro i c u hc hu
        have hi:i<m:=by have:=(List.getElem?_eq_some_iff.1 hu).1;simp at this;omega
        rw [List.getElem?_take,if_pos hi,List.getElem?_drop] at hc hu
        exact hrep _ _ _ hc hu
  obtain ⟨u,hrun,hu'⟩:=key
  exact .pure (x:=u) (by simp [execOp,heq,hz,Instr.field,run_underlying hu,hf,asAgg,hrun]) hu'
theorem zFp {k:Nat} {x i:zD} (hop:zI P o.op (.idx k x i)=true) (R:Rel G ρ w S O env a) (H:Heap ρ w S O h) (he:aop G env h (.idx k x i)=some (v,h')):OpN ρ w S O h ((execOp a.eval o).run P w) v h':=by
  obtain ⟨v0,h0,he⟩:=za.1 he
  obtain ⟨vi,hi0,he⟩:=za.1 he
  obtain ⟨v1,h1,e⟩:=ze.1 he
  cases e
  simp only [zI] at hop
  split at hop
  case h_2=>cases hop
  rename_i t y j heq
  simp only [Bool.and_eq_true] at hop
  obtain ⟨⟨hx,hj⟩,hop⟩:=hop
  split at hop
  case h_2=>cases hop
  rename_i e hu
  have hr:=zN hx R h0
  have hri:=zN hj R hi0
  have run:∀ (ad:Addr) (len cap:Nat) (kk:IntKind) (n:Int),0≤n→n<len→(Instr.indexAt t (.slice (some ad) len cap) (.int kk n)).run P w=.ok (.pointer (some (ad.add (n.toNat * k)))) w:=fun ad len cap kk n hn0 hn=>by
    simp [Instr.indexAt,asIntOf,run_underlying hu,hn0,hn,uQ hop]
  cases v0 with
  | own id g s l c=>
    cases vi with
    | int kk n=>
      obtain ⟨r,hrow,h1⟩:=za.1 h1
      split at h1
      case isFalse=>cases h1
      rename_i hgk
      split at h1
      case isFalse=>cases h1
      rename_i hn
      cases h1
      obtain ⟨g',pl,ad,cap,hz,hρ,hle,hlc,_,_,hpl⟩:=Te hr
      obtain ⟨hg',his⟩:=H.at hρ hrow
      have e2:=jc hri
      rcases hpl (by omega) with hc0 | ⟨p,rfl,rfl,hlim⟩
      · omega
      have hk:p.k=k:=(zm.k his).trans hgk.2
      refine .pure H (x:=.pointer (some ⟨p.b,p.base+(s+n.toNat) * p.k+0,none⟩)) ?_ (.ptr id g g' (some p) (s+n.toNat) 0 _ hρ hle (fun _=>⟨p,rfl,rfl⟩))
      have ea:p.base+s * p.k+n.toNat * k=p.base+(s+n.toNat) * p.k+0:=by rw [hk,Nat.add_mul];omega
      simp only [execOp,heq,hz,e2,Sem.run_bind,run _ _ _ _ _ hn.1 hn.2,Result.andThen_ok,Sem.run_pure,addr_add,ea]
    | _=>cases h1
  | data bo k' es f=>
    cases vi with
    | int kk n=>
      have h1:(if k'=k then if 0≤n then (es[n.toNat]?).map (zg3 bo) else none else none)=some v:=h1
      split at h1
      case isFalse=>cases h1
      rename_i hk
      split at h1
      case isFalse=>cases h1
      rename_i hn
      obtain ⟨g,hg,rfl⟩:=ze.1 h1
      subst hk
      have hlt:=(List.getElem?_eq_some_iff.1 hg).1
      obtain ⟨ad,cap,hz,hlc,_,hlen,hd⟩:=oK hr
      have e2:=jc hri
      rcases hd with rfl | ⟨b,off,val,rfl,hO,_,hb,hc,hrp⟩
      · simp at hlt
      have hgl:=hlen g (List.mem_of_getElem? hg)
      refine .pure H (x:=.pointer (some ⟨b,off+n.toNat * k',none⟩)) ?_ (ziT (val:=fun j=>val n.toNat j) hO hb (fun j hj=> ?_) fun j c hj=>hrp _ _ _ _ hg hj)
      · simp only [execOp,heq,hz,e2,Sem.run_bind,run _ _ _ _ _ hn (show n<(es.length:Int) by omega),Result.andThen_ok,Sem.run_pure,addr_add]
      · rw [Nat.add_assoc];exact hc _ _ hlt (by omega)
    | _=>cases h1
  | _=>cases vi<;>cases h1
theorem zuO {k n:Nat} {x i:zD} (hop:zI P o.op (.idxarr k n x i)=true) (R:Rel G ρ w S O env a) (he:aop G env h (.idxarr k n x i)=some (v,h')):vE ρ w S O h ((execOp a.eval o).run P w) v h':=by
  obtain ⟨v0,h0,he⟩:=za.1 he
  obtain ⟨vi,hi0,he⟩:=za.1 he
  obtain ⟨v1,h1,e⟩:=ze.1 he
  cases e
  simp only [zI] at hop
  split at hop
  case h_2=>cases hop
  rename_i t y j heq
  simp only [Bool.and_eq_true] at hop
  obtain ⟨⟨hx,hj⟩,hop⟩:=hop
  split at hop
  case h_2=>cases hop
  rename_i n' e hu
  simp only [Bool.and_eq_true,beq_iff_eq] at hop
  obtain ⟨rfl,hs⟩:=hop
  have hr:=zN hx R h0
  have hri:=zN hj R hi0
  have run:∀ (ad:Addr) (kk:IntKind) (m:Int),0≤m→m<n→(Instr.indexAt t (.pointer (some ad)) (.int kk m)).run P w=.ok (.pointer (some (ad.add (m.toNat * k)))) w:=fun ad kk m hm0 hm=>by
    simp [Instr.indexAt,asIntOf,run_underlying hu,hm0,hm,uQ hs,Instr.sureAddr]
  cases v0 with
  | ptr id g e0 off0=>
    cases vi with
    | int kk m=>
      have h1:(if 0≤m∧m<n then some (AV.ptr id g e0 (off0+m.toNat * k)) else none)=some v:=h1
      split at h1
      case isFalse=>cases h1
      rename_i hn
      cases h1
      obtain ⟨g',pl,ad,hz,hρ,hle,hpl⟩:=Io hr
      have e2:=jc hri
      refine .pure (x:=.pointer (some (ad.add (m.toNat * k)))) ?_ (.ptr id g g' pl e0 (off0+m.toNat * k) _ hρ hle (fun hg=> ?_))
      · simp only [execOp,heq,hz,e2,Sem.run_bind,run _ _ _ hn.1 hn.2,Result.andThen_ok,Sem.run_pure]
      · obtain ⟨p,h3,rfl⟩:=hpl hg
        exact ⟨p,h3,by rw [addr_add,Nat.add_assoc]⟩
    | _=>cases h1
  | dptr cs=>
    cases vi with
    | int kk m=>
      have h1:(if 0≤m∧m<n then some (AV.dptr (cs.drop (m.toNat * k))) else none)=some v:=h1
      split at h1
      case isFalse=>cases h1
      rename_i hn
      cases h1
      obtain ⟨b,o1,val,hz,h3,h4,h5,h6⟩:=WB hr
      have e2:=jc hri
      refine .pure (x:=.pointer (some ⟨b,o1+m.toNat * k,none⟩)) ?_ (.dptr _ b (o1+m.toNat * k) (fun j=>val (m.toNat * k+j)) h3 h4 (fun j hj=> ?_) fun j c hj=> ?_)
      · simp only [execOp,heq,hz,e2,Sem.run_bind,run _ _ _ hn.1 hn.2,Result.andThen_ok,Sem.run_pure,addr_add]
      · rw [Nat.add_assoc];exact h5 (m.toNat * k+j) (by simp at hj;omega)
      · exact h6 (m.toNat * k+j) c (by rw [List.getElem?_drop] at hj;exact hj)
    | _=>cases h1
  | _=>cases vi<;>cases h1
end
end Go.Proofs.YthcnhibjddomdaaGreat
namespace Go.Proofs.YthcnhibjddomdaaGreat
open Go Go.RowKit
variable [FrB]
section
variable {P:Program} {G:Nat→Option (List AV)} {ρ:Rho} {w:World} {S O:Nat→Prop} {env:yF} {h:List zf} {a:Act} {o:Oper} {v:AV} {h':List zf}
theorem zFC {b:Bool} {x:zD} (hop:zI P o.op (.len b x)=true) (R:Rel G ρ w S O env a) (he:aop G env h (.len b x)=some (v,h')):vE ρ w S O h ((execOp a.eval o).run P w) v h':=by
  obtain ⟨v0,h0,he⟩:=za.1 he
  obtain ⟨v1,h1,e⟩:=ze.1 he
  cases e
  simp only [zI] at hop
  split at hop
  case h_2=>cases hop
  rename_i args ts heq
  split at hop
  case h_2=>cases hop
  rename_i y t ha ht
  simp only [Bool.and_eq_true] at hop
  obtain ⟨hx,hop⟩:=hop
  have hr:=zN hx R h0
  have e1:args= #[y]:=by apply Array.ext';simp [ha]
  have e2:ts= #[t]:=by apply Array.ext';simp [ht]
  subst e1 e2
  split at hop
  · rename_i hu
    subst hop
    cases v0 with
    | str s=>cases h1;exact .pure (by simp [execOp,heq,resolve,invoke,builtin,Builtin.len_,Rf hr,run_underlying hu,goInt]) (.s (.int _ _))
    | _=>cases h1
  · rename_i e hu
    obtain rfl:b=false:=by simpa using hop
    cases v0 with
    | own id g s l c=>
      cases h1
      obtain ⟨g',pl,ad,cap,hz,_⟩:=Te hr
      exact .pure (by simp [execOp,heq,resolve,invoke,builtin,Builtin.len_,hz,run_underlying hu,goInt]) (.s (.int _ _))
    | data bo k es f=>
      cases h1
      obtain ⟨ad,cap,hz,_⟩:=oK hr
      exact .pure (by simp [execOp,heq,resolve,invoke,builtin,Builtin.len_,hz,run_underlying hu,goInt]) (.s (.int _ _))
    | _=>cases h1
  · cases hop
theorem ztT {n:Nat} (hop:zI P o.op (.lenarr n)=true) (R:Rel G ρ w S O env a) (he:aop G env h (.lenarr n)=some (v,h')):vE ρ w S O h ((execOp a.eval o).run P w) v h':=by
  simp only [aop,Option.some.injEq,Prod.mk.injEq] at he
  obtain ⟨rfl,rfl⟩:=he
  simp only [zI] at hop
  split at hop
  case h_2=>cases hop
  rename_i args ts heq
  split at hop
  case h_2=>cases hop
  rename_i y t ha ht
  have e1:args= #[y]:=by apply Array.ext';simp [ha]
  have e2:ts= #[t]:=by apply Array.ext';simp [ht]
  subst e1 e2
  split at hop
  · rename_i n' e hu
    obtain rfl:n=n':=by simpa using hop
    exact .pure (by simp [execOp,heq,resolve,invoke,builtin,Builtin.len_,run_underlying hu,goInt]) (.s (.int _ _))
  · rename_i ar hu
    split at hop
    · rename_i n' e hu2
      obtain rfl:n=n':=by simpa using hop
      exact .pure (by simp [execOp,heq,resolve,invoke,builtin,Builtin.len_,run_underlying hu,run_underlying hu2,goInt]) (.s (.int _ _))
    · cases hop
  · cases hop
theorem zl9 {f:Int→Int→Bool} {x y r:AV} (e:zgf f x y=some r):∃ k m n,x=.int k m∧y=.int k n∧r=.int k (if f n m then n else m):=by
  unfold zgf at e
  split at e
  · split at e
    · rename_i hk;subst hk;cases e;exact ⟨_,_,_,rfl,rfl,rfl⟩
    · cases e
  · cases e
theorem zE5 {x y:zD} (hop:zI P o.op (.max x y)=true) (R:Rel G ρ w S O env a) (he:aop G env h (.max x y)=some (v,h')):vE ρ w S O h ((execOp a.eval o).run P w) v h':=by
  obtain ⟨v0,h0,he⟩:=za.1 he
  obtain ⟨v1,h1,he⟩:=za.1 he
  obtain ⟨r,hb,e⟩:=ze.1 he
  cases e
  obtain ⟨k,m,n,rfl,rfl,rfl⟩:=zl9 hb
  simp only [zI] at hop
  split at hop
  case h_2=>cases hop
  rename_i args ts heq
  split at hop
  case h_2=>cases hop
  rename_i x' y' ha
  have e1:args= #[x',y']:=by apply Array.ext';simp [ha]
  subst e1
  simp only [Bool.and_eq_true] at hop
  have rx:=jc (zN hop.1 R h0)
  have ry:=jc (zN hop.2 R h1)
  refine .pure (x:=.int k (if n>m then n else m)) (by simp [execOp,heq,resolve,invoke,builtin,rx,ry,run_max_int2]) ?_
  by_cases hh:n>m
  · simp only [decide_eq_true_eq,if_pos hh];exact .s (.int _ _)
  · simp only [decide_eq_true_eq,if_neg hh];exact .s (.int _ _)
theorem zEM {x y:zD} (hop:zI P o.op (.min x y)=true) (R:Rel G ρ w S O env a) (he:aop G env h (.min x y)=some (v,h')):vE ρ w S O h ((execOp a.eval o).run P w) v h':=by
  obtain ⟨v0,h0,he⟩:=za.1 he
  obtain ⟨v1,h1,he⟩:=za.1 he
  obtain ⟨r,hb,e⟩:=ze.1 he
  cases e
  obtain ⟨k,m,n,rfl,rfl,rfl⟩:=zl9 hb
  simp only [zI] at hop
  split at hop
  case h_2=>cases hop
  rename_i args ts heq
  split at hop
  case h_2=>cases hop
  rename_i x' y' ha
  have e1:args= #[x',y']:=by apply Array.ext';simp [ha]
  subst e1
  simp only [Bool.and_eq_true] at hop
  have rx:=jc (zN hop.1 R h0)
  have ry:=jc (zN hop.2 R h1)
  refine .pure (x:=.int k (if n<m then n else m)) (by simp [execOp,heq,resolve,invoke,builtin,rx,ry,run_min_int2]) ?_
  by_cases hh:n<m
  · simp only [decide_eq_true_eq,if_pos hh];exact .s (.int _ _)
  · simp only [decide_eq_true_eq,if_neg hh];exact .s (.int _ _)
def zlg (ρ:Rho) (w:World) (S O:Nat→Prop):Option AV→Option Value→Prop
  | none,x=>x=none
  | some v,x=>∃ u,x=some u∧zB ρ w S O v u
theorem Dl {x:Option Operand} {ax:Option zD} {r:Option AV} (hc:zbe x ax=true) (R:Rel G ρ w S O env a)
    (he:zbG G env ax=some r):zlg ρ w S O r (x.map a.eval):=by
  unfold zbe at hc
  split at hc
  · cases he;rfl
  · obtain ⟨v,hv,e⟩:=za.1 he
    cases e
    exact ⟨_,rfl,zN hc R hv⟩
  · cases hc
theorem VW {v:AV} {x:Value} {n b:Nat} (hr:zB ρ w S O v x) (hb:om n (some v)=some b) (y:Nat) (hy:b≤y) (c:BoundsCode):(Instr.sliceBound x y c).run P w=.ok b w:=by
  cases v with
  | int k i=>
    have hb:(if 0≤i then some i.toNat else none)=some b:=hb
    split at hb
    · rename_i h0;cases hb
      rw [jc hr]
      exact run_sliceBound w k i y c h0 (by omega)
    · cases hb
  | _=>cases hb
theorem zaU {lo hi mx:Option AV} {lo' hi' mx':Option Value} {l c cap x y m:Nat} (hl:zlg ρ w S O lo lo')
    (hh:zlg ρ w S O hi hi') (hm:zlg ρ w S O mx mx')
    (b1:om 0 lo=some x) (b2:om l hi=some y) (b3:om c mx=some m) (h1:x≤y) (h2:y≤m) (h3:m≤c) (h4:c≤cap) (hmh:mx.isSome=true→hi.isSome=true) (is:Bool):
    (Instr.sliceBounds is l cap lo' hi' mx').run P w=.ok (x,y,if mx.isSome then m else cap) w:=by
  cases mx with
  | none=>
    obtain rfl:mx'=none:=hm
    cases b3
    cases hi with
    | none=>
      obtain rfl:hi'=none:=hh
      cases b2
      cases lo with
      | none=>obtain rfl:lo'=none:=hl;cases b1;rfl
      | some v=>
        obtain ⟨u,rfl,hu⟩:=hl
        simp only [Instr.sliceBounds,Sem.run_bind,Sem.run_pure,Result.andThen_ok,Option.isSome_none,Bool.false_eq_true,if_false,VW hu b1 _ h1]
    | some hv=>
      obtain ⟨u,rfl,hu⟩:=hh
      cases lo with
      | none=>
        obtain rfl:lo'=none:=hl
        cases b1
        simp only [Instr.sliceBounds,Sem.run_bind,Sem.run_pure,Result.andThen_ok,Option.isSome_none,Bool.false_eq_true,if_false,VW hu b2 cap (by omega)]
      | some v=>
        obtain ⟨u',rfl,hu'⟩:=hl
        simp only [Instr.sliceBounds,Sem.run_bind,Sem.run_pure,Result.andThen_ok,Option.isSome_none,Bool.false_eq_true,if_false,VW hu b2 cap (by omega),VW hu' b1 y h1]
  | some mv=>
    obtain ⟨mu,rfl,hmu⟩:=hm
    cases hi with
    | none=>simp at hmh
    | some hv=>
      obtain ⟨u,rfl,hu⟩:=hh
      cases lo with
      | none=>
        obtain rfl:lo'=none:=hl
        cases b1
        simp only [Instr.sliceBounds,Sem.run_bind,Sem.run_pure,Result.andThen_ok,Option.isSome_some,if_true,VW hmu b3 cap (by omega),VW hu b2 m h2]
      | some v=>
        obtain ⟨u',rfl,hu'⟩:=hl
        simp only [Instr.sliceBounds,Sem.run_bind,Sem.run_pure,Result.andThen_ok,Option.isSome_some,if_true,VW hmu b3 cap (by omega),VW hu b2 m h2,VW hu' b1 y h1]
theorem zHp {k:Nat} {x:zD} {lo hi mx:Option zD} (hop:zI P o.op (.sl k x lo hi mx)=true) (R:Rel G ρ w S O env a) (HK:zoH ρ h) (he:aop G env h (.sl k x lo hi mx)=some (v,h')):vE ρ w S O h ((execOp a.eval o).run P w) v h':=by
  obtain ⟨v0,h0,he⟩:=za.1 he
  obtain ⟨vl,hl0,he⟩:=za.1 he
  obtain ⟨vh,hh0,he⟩:=za.1 he
  obtain ⟨vm,hm0,he⟩:=za.1 he
  obtain ⟨v1,h1,e⟩:=ze.1 he
  cases e
  simp only [zI] at hop
  split at hop
  case h_2=>cases hop
  rename_i t y lo' hi' mx' heq
  simp only [Bool.and_eq_true] at hop
  obtain ⟨⟨⟨⟨⟨hx,hlo⟩,hhi⟩,hmx⟩,hmh⟩,hop⟩:=hop
  split at hop
  case h_2=>cases hop
  rename_i e hu
  have hr:=zN hx R h0
  have rl:=Dl hlo R hl0
  have rh:=Dl hhi R hh0
  have rm:=Dl hmx R hm0
  have hmh':vm.isSome=true→vh.isSome=true:=by
    intro hs
    have q1:mx.isSome=true:=by cases mx with | none=>cases hm0;cases hs | some m=>rfl
    have q2:hi.isSome=true:=by simpa [q1] using hmh
    cases hi with | none=>cases q2 | some hh=>obtain ⟨u,_,e⟩:=za.1 hh0;cases e;rfl
  have elem:P.elem t=e:=by simp [Program.elem,hu]
  have run:∀ (ad:Option Addr) (len cap x y m:Nat),(Instr.sliceBounds true len cap (lo'.map a.eval) (hi'.map a.eval) (mx'.map a.eval)).run P w=.ok (x,y,m) w→
      (Instr.sliceAt t (.slice ad len cap) (lo'.map a.eval) (hi'.map a.eval) (mx'.map a.eval)).run P w=.ok (.slice (if m=x then ad else ad.map (·.add (x * k))) (y - x) (m - x)) w:=fun ad len cap x y m hb=>by
    rw [run_sliceAt_slice w t _ _ _ _ (by rw [elem];exact hu),run_slice_any w t ad len cap (by rw [elem];exact hu),hb]
    simp only [Result.andThen_ok,elem,uQ hop,sliced]
  cases v0 with
  | own id g s l c=>
    obtain ⟨bx,b1,h1⟩:=za.1 h1
    obtain ⟨bb,b2,h1⟩:=za.1 h1
    obtain ⟨bm,b3,h1⟩:=za.1 h1
    obtain ⟨r,hrow,h1⟩:=za.1 h1
    split at h1
    case isFalse=>cases h1
    rename_i hgk
    split at h1
    case isFalse=>cases h1
    rename_i hle
    cases h1
    obtain ⟨g',pl,ad,cap,hz,hρ,hle',hlc,hcc,has,hpl⟩:=Te hr
    have hb:=zaU (P:=P) rl rh rm b1 b2 b3 hle.1 hle.2.1 hle.2.2 hcc hmh' true
    have hm2:bb≤(if vm.isSome then bm else cap)∧(if vm.isSome then bm else cap)≤cap∧bm≤(if vm.isSome then bm else cap):=by split<;>omega
    refine .pure (x:=.slice (if (if vm.isSome then bm else cap)=bx then ad else ad.map (·.add (bx * k))) (bb - bx) ((if vm.isSome then bm else cap) - bx)) (by simp only [execOp,heq,hz,Sem.run_bind,run _ _ _ _ _ _ hb,Result.andThen_ok,Sem.run_pure]) ?_
    generalize (if vm.isSome then bm else cap)=m2 at hm2
    refine .own id g g' pl (s+bx) (bb - bx) (bm - bx) _ _ hρ hle' (by omega) (by omega) (fun hpos=> ?_) (fun hg=> ?_)
    · have:0<cap:=by omega
      have:=has this
      split
      · exact this
      · simpa using this
    · rcases hpl hg with hc0 | ⟨p,rfl,rfl,hlim⟩
      · left;omega
      · have hk:p.k=k:=(HK id g' p r hρ hrow).trans hgk.2
        by_cases hmx0:m2=bx
        · left;omega
        · right
          refine ⟨p,rfl, ?_,by omega⟩
          rw [if_neg hmx0]
          simp only [Option.map_some,addr_add,hk,Nat.add_mul]
          rw [Nat.add_assoc]
  | data bo k' es f=>
    obtain ⟨bx,b1,h1⟩:=za.1 h1
    obtain ⟨bb,b2,h1⟩:=za.1 h1
    obtain ⟨bm,b3,h1⟩:=za.1 h1
    split at h1
    case isFalse=>cases h1
    rename_i hk
    split at h1
    case isFalse=>cases h1
    rename_i hle
    cases h1
    subst hk
    obtain ⟨ad,cap,hz,hlc,hfull,hlen,hd⟩:=oK hr
    have hb:=zaU (P:=P) rl rh rm b1 b2 b3 hle.1 hle.2.1 hle.2.2 hlc hmh' true
    have hm2:bb≤(if vm.isSome then bm else cap)∧(if vm.isSome then bm else cap)≤cap:=by split<;>omega
    refine .pure (x:=.slice (if (if vm.isSome then bm else cap)=bx then ad else ad.map (·.add (bx * k'))) (bb - bx) ((if vm.isSome then bm else cap) - bx)) (by simp only [execOp,heq,hz,Sem.run_bind,run _ _ _ _ _ _ hb,Result.andThen_ok,Sem.run_pure]) ?_
    have hl2:((es.take bb).drop bx).length=bb - bx:=by simp;omega
    rw [← hl2]
    refine NL (by rw [hl2];omega) (fun hf=> ?_) (fun g hg=>hlen g (List.mem_of_mem_take (List.mem_of_mem_drop hg))) ?_
    · rw [hl2]
      cases vm with
      | some mv=>simp only [decide_eq_true_eq] at hf;subst hf;rfl
      | none=>
        simp only [Bool.and_eq_true,decide_eq_true_eq] at hf
        have:=hfull hf.1
        simp [this,hf.2]
    · rcases hd with rfl | ⟨b,off,val,rfl,hO,hS,hb',hc,hrp⟩
      · left;simp
      · by_cases hne:bb - bx=0
        · left;exact List.eq_nil_of_length_eq_zero (by omega)
        · right
          refine ⟨b,off+bx * k',fun e j=>val (bx+e) j, ?_,hO,hS,hb',fun e j he hj=> ?_,fun e j g c hg hcc=> ?_⟩
          · rw [if_neg (by omega)];simp only [Option.map_some,addr_add]
          · rw [show off+bx * k'+(e * k'+j)=off+((bx+e) * k'+j) from by rw [Nat.add_mul];omega]
            exact hc _ _ (by omega) hj
          · rw [List.getElem?_drop,List.getElem?_take] at hg
            split at hg
            · exact hrp _ _ _ _ hg hcc
            · cases hg
  | _=>cases h1
theorem zAA {x:zD} {lo hi:Option zD} (hop:zI P o.op (.slstr x lo hi)=true) (R:Rel G ρ w S O env a) (he:aop G env h (.slstr x lo hi)=some (v,h')):vE ρ w S O h ((execOp a.eval o).run P w) v h':=by
  obtain ⟨v0,h0,he⟩:=za.1 he
  obtain ⟨vl,hl0,he⟩:=za.1 he
  obtain ⟨vh,hh0,he⟩:=za.1 he
  obtain ⟨v1,h1,e⟩:=ze.1 he
  cases e
  simp only [zI] at hop
  split at hop
  case h_2=>cases hop
  rename_i t y lo' hi' mx' heq
  simp only [Bool.and_eq_true] at hop
  obtain ⟨⟨⟨⟨hx,hlo⟩,hhi⟩,hmx⟩,hop⟩:=hop
  split at hop
  case h_2=>cases hop
  rename_i hu
  have hr:=zN hx R h0
  have rl:=Dl hlo R hl0
  have rh:=Dl hhi R hh0
  obtain rfl:mx'=none:=by simpa using hmx
  cases v0 with
  | str s=>
    obtain ⟨bx,b1,h1⟩:=za.1 h1
    obtain ⟨bb,b2,h1⟩:=za.1 h1
    split at h1
    case isFalse=>cases h1
    rename_i hle
    cases h1
    have hb:=zaU (P:=P) (mx:=none) (mx':=none) (l:=s.size) (cap:=s.size) (m:=s.size) rl rh rfl b1 b2 rfl hle.1 hle.2 (Nat.le_refl _) (Nat.le_refl _) (by simp) false
    refine .pure (x:=.string (s.extract bx bb)) ?_ (.s (.str _))
    simp only [execOp,heq,Rf hr,Sem.run_bind,run_sliceAt_string w t _ _ _ _ hu,Instr.slice,run_underlying hu,Result.andThen_ok,Option.map_none,Option.isSome_none,Bool.false_eq_true,if_false,Sem.run_pure,hb]
  | _=>cases h1
theorem zBA {agg:Bool} {m n:Nat} {x i:zD} (hop:zI P o.op (.idxv agg m n x i)=true) (R:Rel G ρ w S O env a) (he:aop G env h (.idxv agg m n x i)=some (v,h')):vE ρ w S O h ((execOp a.eval o).run P w) v h':=by
  obtain ⟨v0,h0,he⟩:=za.1 he
  obtain ⟨vi,hi0,he⟩:=za.1 he
  obtain ⟨v1,h1,e⟩:=ze.1 he
  cases e
  simp only [zI] at hop
  split at hop
  case h_2=>cases hop
  rename_i t y j heq
  simp only [Bool.and_eq_true] at hop
  obtain ⟨⟨hx,hj⟩,hop⟩:=hop
  split at hop
  case h_2=>cases hop
  rename_i n' e hu
  simp only [Bool.and_eq_true,beq_iff_eq] at hop
  obtain ⟨⟨rfl,hs⟩,hag⟩:=hop
  cases v0 with
  | agg cs=>
    cases vi with
    | int kk i=>
      have h1:(if 0≤i∧i<n then zaq agg m (i.toNat * m) cs else none)=some v:=h1
      split at h1
      case isFalse=>cases h1
      rename_i hn
      obtain ⟨vs,hz,hl,hone,hrep⟩:=IX (zN hx R h0)
      have e2:=jc (zN hj R hi0)
      have key:∃ u,(part e vs.toArray (i.toNat * m)).run P w=.ok u w∧zB ρ w S O v u:=by
        generalize i.toNat * m=off at h1
        cases agg with
        | false=>
          have h1:cs[off]? =some v:=h1
          have hlt:=(List.getElem?_eq_some_iff.1 h1).1
          refine ⟨vs[off], ?_,hrep _ _ _ h1 (by simp [hl ▸ hlt])⟩
          simp [part,PE hag,hl ▸ hlt]
        | true=>
          unfold zaq at h1
          rw [if_pos rfl] at h1
          split at h1
          case isFalse=>cases h1
          rename_i hle
          cases h1
          refine ⟨.agg ((vs.drop off).take m).toArray, ?_,.agg _ _ (by simp;omega) ?_ ?_⟩
          · simp only [part,Sem.run_bind,PE hag,Result.andThen_ok,if_true,uQ hs,Sem.run_pure]
            congr 2
            apply Array.ext'
            simp
          · intro u hu;exact hone u (List.mem_of_mem_drop (List.mem_of_mem_take hu))
          · intro i c u hc hu
            have hi:i<m:=by have:=(List.getElem?_eq_some_iff.1 hu).1;simp at this;omega
            rw [List.getElem?_take,if_pos hi,List.getElem?_drop] at hc hu
            exact hrep _ _ _ hc hu
      obtain ⟨u,hrun,hu'⟩:=key
      refine .pure (x:=u) ?_ hu'
      simp only [execOp,heq,hz,e2,Instr.index,Sem.run_bind,asIntOf,Sem.run_pure,Result.andThen_ok,run_underlying hu,if_pos hn,uQ hs,hrun]
    | _=>cases h1
  | _=>cases vi<;>cases h1
theorem zBz {x i:zD} (hop:zI P o.op (.idxs x i)=true) (R:Rel G ρ w S O env a) (he:aop G env h (.idxs x i)=some (v,h')):vE ρ w S O h ((execOp a.eval o).run P w) v h':=by
  obtain ⟨v0,h0,he⟩:=za.1 he
  obtain ⟨vi,hi0,he⟩:=za.1 he
  obtain ⟨v1,h1,e⟩:=ze.1 he
  cases e
  simp only [zI] at hop
  split at hop
  case h_2=>cases hop
  rename_i t y j heq
  simp only [Bool.and_eq_true] at hop
  obtain ⟨⟨hx,hj⟩,hop⟩:=hop
  split at hop
  case h_2=>cases hop
  rename_i hu
  cases v0 with
  | str s=>
    cases vi with
    | int kk i=>
      have h1:(if 0≤i then (s.data.toList[i.toNat]?).map fun b=>AV.int .u8 (b.toNat:Int) else none)=some v:=h1
      split at h1
      case isFalse=>cases h1
      rename_i hn
      obtain ⟨b,hb,rfl⟩:=ze.1 h1
      have e1:=Rf (zN hx R h0)
      have e2:=jc (zN hj R hi0)
      have hs:s[i.toNat]? =some b:=by
        have hlt:=(List.getElem?_eq_some_iff.1 hb).1
        have hlt':i.toNat<s.size:=by simpa using hlt
        simp only [getElem?_pos s i.toNat hlt']
        rw [List.getElem?_eq_getElem hlt] at hb
        have hb':s.data[i.toNat]=b:=by simpa using hb
        exact congrArg some hb'
      refine .pure (x:=.int .u8 b.toNat) ?_ (.s (.int _ _))
      simp only [execOp,heq,e1,e2,Instr.index,Sem.run_bind,asIntOf,Sem.run_pure,Result.andThen_ok,run_underlying hu,if_pos hn,hs]
    | _=>cases h1
  | _=>cases vi<;>cases h1
end
end Go.Proofs.YthcnhibjddomdaaGreat
namespace Go.Proofs.YthcnhibjddomdaaGreat
open Go Go.RowKit
variable [FrB]
section
variable {P:Program} {G:Nat→Option (List AV)} {ρ:Rho} {w:World} {S O:Nat→Prop} {env:yF} {h:List zf} {a:Act} {o:Oper} {v:AV} {h':List zf}
theorem zfT {k:Nat} {v:AV} {x:Value} {es:List (List AV)} {fl:Bool} (H:Heap ρ w S O h) (hr:zB ρ w S O v x) (hg:oJ h k v=some (es,fl)):
    ∃ ad cap,x=.slice ad es.length cap∧es.length≤cap∧(∀ g ∈ es,g.length=k)∧(es=[]∨∃ (b off:Nat) (val:Nat→Nat→Value),ad=some ⟨b,off,none⟩∧b<w.heap.size∧
      (∀ (e j:Nat),e<es.length→j<k→w.cell? ⟨b,off+(e * k+j),none⟩=some (val e j)∧(val e j).oneCell'=true)∧
      (∀ (e j:Nat) g c,es[e]? =some g→g[j]? =some c→zB ρ w S O c (val e j)∧(fl=true→uj w (fun b=>S b∨O b) c (val e j)))):=by
  cases v with
  | own id g s l c=>
    obtain ⟨r,hrow,hg⟩:=za.1 hg
    split at hg
    case isFalse=>cases hg
    rename_i hgk
    cases hg
    obtain ⟨g',pl,ad,cap,rfl,hρ,hle,hlc,_,_,hpl⟩:=Te hr
    obtain ⟨hg',his⟩:=H.at hρ hrow
    have hl:((r.es.drop s).take l).length=l:=by simp;omega
    rw [hl]
    have hmem:∀ (e:Nat) g,((r.es.drop s).take l)[e]? =some g→r.es[s+e]? =some g:=fun e g he=>by
      rw [List.getElem?_take] at he
      split at he
      · rwa [List.getElem?_drop] at he
      · cases he
    cases pl with
    | none=>
      have:r.es=[]:=his
      have hl0:l=0:=by have:=hgk.2.2;rw [‹r.es=[]›] at this;simp at this;omega
      subst hl0
      exact ⟨ad,cap,rfl,hlc,by simp,.inl (by simp)⟩
    | some p=>
      have his:zm ρ w S O r p:=his
      refine ⟨ad,cap,rfl,hlc,fun g hg=> ?_, ?_⟩
      · obtain ⟨e,he⟩:=List.mem_iff_getElem?.1 hg
        rw [← hgk.2.1];exact his.len g (List.mem_of_getElem? (hmem e g he))
      · by_cases hl0:l=0
        · left;subst hl0;simp
        · right
          rcases hpl (by omega) with hc0 | ⟨p',hp,rfl,hlim⟩
          · omega
          cases hp
          obtain ⟨arr,ty,lo,hi,hb,hsz,_,hcell⟩:=his.block
          have hk:p.k=k:=his.k.trans hgk.2.1
          refine ⟨p.b,p.base+s * p.k,fun e j=>arr.getD (p.base+(s+e) * p.k+j) undef,rfl,his.lt,fun e j he hj=> ?_,fun e j g c hg hc=> ?_⟩
          · have hse:s+e<r.es.length:=by omega
            have hgl:=his.len _ (List.getElem_mem hse)
            obtain ⟨x,h1,h2,_⟩:=hcell (s+e) j _ _ (List.getElem?_eq_getElem hse) (List.getElem?_eq_getElem (by rw [hgl,hgk.2.1];exact hj))
            have ea:p.base+s * p.k+(e * k+j)=p.base+(s+e) * p.k+j:=by rw [hk,Nat.add_mul];omega
            rw [ea,cell_of_row w p.b _ arr ty _ hb]
            simp only [Array.getD_eq_getD_getElem?,h1,Option.getD_some]
            exact ⟨trivial,h2⟩
          · obtain ⟨x,h1,_,h3,h4⟩:=hcell (s+e) j g c (hmem e g hg) hc
            simp only [Array.getD_eq_getD_getElem?,h1,Option.getD_some]
            exact ⟨h3,h4⟩
  | data bo k' es' f=>
    have hg:(if k'=k then (if (!bo||uC es')=true then some (es',true) else none) else none)=some (es,fl):=hg
    by_cases hk:k'=k
    case neg=>rw [if_neg hk] at hg;cases hg
    rw [if_pos hk] at hg
    by_cases hpl:(!bo||uC es')=true
    case neg=>rw [if_neg hpl] at hg;cases hg
    obtain ⟨rfl,rfl⟩:es'=es∧true=fl:=by simpa [hpl] using hg
    subst hk
    obtain ⟨ad,cap,rfl,h1,_,h3,h4⟩:=oK hr
    refine ⟨ad,cap,rfl,h1,h3,h4.imp id fun ⟨b,off,val,e1,_,_,e4,e5,e6⟩=>⟨b,off,val,e1,e4,e5,fun e j g c hg2 hc2=> ?_⟩⟩
    have key:uj w (fun b=>S b∨O b) c (val e j):=by
      cases bo with
      | false=>exact (e6 e j g c hg2 hc2).mono fun b hb=>hb.imp (fun h=>⟨rfl,h⟩) id
      | true=>
        simp only [Bool.not_true,Bool.false_or,uC,List.all_eq_true] at hpl
        exact zt6 (hpl g (List.mem_of_getElem? hg2) c (List.mem_of_getElem? hc2)) (e6 e j g c hg2 hc2)
    exact ⟨.s key,fun _=>key⟩
  | _=>cases hg
theorem zb9:∀ {es:List (List AV)} {bs:List UInt8},Ig es=some bs→∃ ns:List Int,es=ns.map (fun n=>[AV.int .u8 n])∧bs=ns.map fun n=>UInt8.ofNat n.toNat
  | [],_,h=>by cases h;exact ⟨[],rfl,rfl⟩
  | g::es,bs,h=>by
    unfold Ig at h
    split at h
    · rename_i heq;cases heq
    · rename_i n es' heq
      cases heq
      obtain ⟨bs',hb,rfl⟩:=ze.1 h
      obtain ⟨ns,rfl,rfl⟩:=zb9 hb
      exact ⟨n::ns,rfl,rfl⟩
    · cases h
theorem zfz:∀ (ns:List Int) (acc:ByteArray),ns.foldl (fun r n=>r.push (UInt8.ofNat n.toNat)) acc=⟨acc.data++(ns.map fun n=>UInt8.ofNat n.toNat).toArray⟩
  | [],acc=>by cases acc;simp
  | n::ns,acc=>by
    rw [List.foldl_cons,zfz ns]
    cases acc
    simp [ByteArray.push]
theorem zBJ {x:zD} (hop:zI P o.op (.bstr x)=true) (R:Rel G ρ w S O env a) (H:Heap ρ w S O h) (he:aop G env h (.bstr x)=some (v,h')):OpN ρ w S O h ((execOp a.eval o).run P w) v h':=by
  obtain ⟨v1,h1,he⟩:=za.1 he
  obtain ⟨v0,h0,hs0⟩:=za.1 h1
  obtain ⟨es,hg,he⟩:=za.1 he
  obtain ⟨bs,hb,e⟩:=ze.1 he
  cases e
  have e01:v0=v1:=by cases v0<;>first | exact Option.some.inj hs0 | cases hs0
  subst e01
  simp only [zI] at hop
  split at hop
  case h_2=>cases hop
  rename_i s d y heq
  simp only [Bool.and_eq_true] at hop
  obtain ⟨⟨hx,h2⟩,h3⟩:=hop
  split at h2
  case h_2=>cases h2
  rename_i e hu
  split at h3
  case h_2=>cases h3
  rename_i hd
  have hu8:P.underlying e=some (.int .u8):=by
    unfold zuf at h2
    split at h2
    · assumption
    · cases h2
  obtain ⟨es,fl⟩:=es
  obtain ⟨ad,cap,hz,_,_,hcells⟩:=zfT H (zN hx R h0) hg
  obtain ⟨ns,rfl,rfl⟩:=zb9 hb
  have key:(Conv.bytesToString (.slice ad (ns.map fun n=>[AV.int .u8 n]).length cap)).run P w=.ok (.string ⟨(ns.map fun n=>UInt8.ofNat n.toNat).toArray⟩) w:=by
    cases ad with
    | none=>
      rcases hcells with hnil | ⟨b,off,val,hh,_⟩
      · simp only [List.map_eq_nil_iff] at hnil
        subst hnil
        rfl
      · cases hh
    | some ad=>
      rw [run_bytesToString w ad _ cap ns ?_]
      · rw [zfz]
        show Result.ok (Value.string ⟨#[]++_⟩) w=_
        rw [Array.empty_append]
      · rw [List.length_map,← List.length_map (f:=Value.int .u8)]
        refine run_loadCells_list w ad _ fun j u hj=> ?_
        rw [List.getElem?_map] at hj
        obtain ⟨n,hn,rfl⟩:=ze.1 hj
        rcases hcells with hnil | ⟨b,off,val,hh,_,hc,hr⟩
        · simp only [List.map_eq_nil_iff] at hnil
          subst hnil
          simp at hn
        · cases hh
          have hlt:=(List.getElem?_eq_some_iff.1 hn).1
          have h1:=(hc j 0 (by simpa using hlt) (by omega)).1
          have h2:=(hr j 0 _ _ (by rw [List.getElem?_map,hn];rfl) rfl).1
          rw [jc h2] at h1
          rw [addr_add]
          simpa using h1
  refine .pure H (x:=.string ⟨(ns.map fun n=>UInt8.ofNat n.toNat).toArray⟩) ?_ (.s (.str _))
  simp only [execOp,heq,hz,Sem.run_bind,run_convert_bytes_string w s d e _ _ _ hu hu8 hd,key,Result.andThen_ok,Sem.run_pure]
theorem IM {s:Sh} {x y:AV} {b:Bool} (e:WJ s x y=some b) {u:Value}:(zB ρ w S O x u→u=Pt x)∧(zB ρ w S O y u→u=Pt y):=by
  unfold WJ at e
  split at e
  · exact ⟨jc,jc⟩
  · exact ⟨TI,TI⟩
  · exact ⟨Rf,Rf⟩
  · cases e
theorem zgz:∀ {sh:List Sh} {asx bs:List AV} {b:Bool},vR sh asx bs=some b→∀ {vs:List Value},asx.length=vs.length→(∀ (i:Nat) c v,asx[i]? =some c→vs[i]? =some v→zB ρ w S O c v)→vs=asx.map Pt
  | [],[],[],_,_,vs,hl,_=>by cases vs<;>simp_all
  | s::sh,x::asx,y::bs,b,e,vs,hl,hr=>by
    obtain ⟨p,hp,e⟩:=za.1 e
    obtain ⟨q,hq,_⟩:=za.1 e
    cases vs with
    | nil=>simp at hl
    | cons v vs=>
      rw [(IM hp).1 (hr 0 x v rfl rfl),zgz hq (vs:=vs) (by simpa using hl) fun i c u hc hu=>hr (i+1) c u (by simpa using hc) (by simpa using hu)]
      rfl
  | [],[],_::_,_,e,_,_,_=>by cases e
  | [],_::_,_,_,e,_,_,_=>by cases e
  | _::_,[],_,_,e,_,_,_=>by cases e
  | _::_,_::_,[],_,e,_,_,_=>by cases e
theorem zdT:∀ {sh:List Sh} {asx bs:List AV} {b:Bool},vR sh asx bs=some b→∀ {vs:List Value},bs.length=vs.length→(∀ (i:Nat) c v,bs[i]? =some c→vs[i]? =some v→zB ρ w S O c v)→vs=bs.map Pt
  | [],[],[],_,_,vs,hl,_=>by cases vs<;>simp_all
  | s::sh,x::asx,y::bs,b,e,vs,hl,hr=>by
    obtain ⟨p,hp,e⟩:=za.1 e
    obtain ⟨q,hq,_⟩:=za.1 e
    cases vs with
    | nil=>simp at hl
    | cons v vs=>
      rw [(IM hp).2 (hr 0 y v rfl rfl),zdT hq (vs:=vs) (by simpa using hl) fun i c u hc hu=>hr (i+1) c u (by simpa using hc) (by simpa using hu)]
      rfl
  | [],[],_::_,_,e,_,_,_=>by cases e
  | [],_::_,_,_,e,_,_,_=>by cases e
  | _::_,[],_,_,e,_,_,_=>by cases e
  | _::_,_::_,[],_,e,_,_,_=>by cases e
theorem ok_eq {agg:Bool} {sh:List Sh} {neg:Bool} {x y:zD} (hop:zI P o.op (.eq agg sh neg x y)=true) (R:Rel G ρ w S O env a) (he:aop G env h (.eq agg sh neg x y)=some (v,h')):vE ρ w S O h ((execOp a.eval o).run P w) v h':=by
  obtain ⟨v0,h0,he⟩:=za.1 he
  obtain ⟨v1,h1,he⟩:=za.1 he
  obtain ⟨b,hb,e⟩:=ze.1 he
  cases e
  simp only [zI] at hop
  split at hop
  case h_2=>cases hop
  rename_i op t x' y' yt heq
  simp only [Bool.and_eq_true,beq_iff_eq] at hop
  obtain ⟨⟨⟨⟨⟨hopn,hx⟩,hy⟩,hsh⟩,hag⟩,hgd⟩:=hop
  have rx:=zN hx R h0
  have ry:=zN hy R h1
  have fin:(do eqGuard op t x' y' (a.eval x') (a.eval y');binOp op t (a.eval x') (a.eval y'):Sem Value).run P w=.ok (.bool (b != neg)) w→vE ρ w S O h ((execOp a.eval o).run P w) (.bool (b != neg)) h:=fun hrun=>by
    refine .pure (x:=.bool (b != neg)) ?_ (.s (.bool _))
    simp only [execOp,heq]
    rw [Sem.run_bind,hrun]
    rfl
  cases agg with
  | true=>
    cases v0 with
    | agg asx=>
      cases v1 with
      | agg bs=>
        have hb:vR sh asx bs=some b:=hb
        obtain ⟨vs,e1,l1,_,r1⟩:=IX rx
        obtain ⟨us,e2,l2,_,r2⟩:=IX ry
        obtain rfl:=zgz hb l1 r1
        obtain rfl:=zdT hb l2 r2
        have q:=zFN 20 t sh asx bs b hsh hb 10000 w (by omega)
        simp only [zhD,hag,if_true] at q
        refine fin ?_
        rw [e1,e2,Sem.run_bind,run_eqGuard_agg w op t x' y' _ _ (by simpa using hgd)]
        simp only [Result.andThen_ok]
        cases neg with
        | false=>simp only [Bool.false_eq_true,if_false] at hopn;subst hopn;rw [run_eql_struct w t,q];simp
        | true=>simp only [if_true] at hopn;subst hopn;rw [run_neq_struct w t,q];simp
      | _=>cases hb
    | _=>cases hb
  | false=>
    match sh,hb with
    | [s],hb=>
      have hb:WJ s v0 v1=some b:=hb
      have e1:=(IM hb).1 rx
      have e2:=(IM hb).2 ry
      have hun:=hsh
      unfold WJ at hb
      split at hb
      · rename_i k m k' n
        split at hb
        case isFalse=>cases hb
        rename_i hk
        subst hk
        cases hb
        refine fin ?_
        rw [e1,e2]
        cases neg with
        | false=>simp only [Bool.false_eq_true,if_false] at hopn;subst hopn;simp [Pt,eqGuard,binOp,Op.intCmp]
        | true=>simp only [if_true] at hopn;subst hopn;simp [Pt,eqGuard,binOp,Op.intCmp,bne]
      · cases hb
        have hu:P.underlying t=some .bool:=by
          unfold KF at hsh
          split at hsh
          · assumption
          · split at hsh<;>cases hsh
          · split at hsh<;>cases hsh
          · rename_i hu;unfold jL at hag;rw [hu] at hag;cases hag
          · rename_i hu;unfold jL at hag;rw [hu] at hag;cases hag
          · cases hsh
        refine fin ?_
        rw [e1,e2]
        cases neg with
        | false=>simp only [Bool.false_eq_true,if_false] at hopn;subst hopn;simp [Pt,eqGuard,run_eql_bool w t _ _ hu]
        | true=>simp only [if_true] at hopn;subst hopn;simp [Pt,eqGuard,run_neq_bool w t _ _ hu]
      · cases hb
        refine fin ?_
        rw [e1,e2]
        cases neg with
        | false=>simp only [Bool.false_eq_true,if_false] at hopn;subst hopn;simp [Pt,eqGuard,binOp,Op.stringOp,beq_toListBytes]
        | true=>simp only [if_true] at hopn;subst hopn;simp [Pt,eqGuard,binOp,Op.stringOp,beq_toListBytes]
      · cases hb
theorem zkH {k:zvc} {d:Option TypeDesc} {x y:Operand} {ax:zD} (h:zlB k d x y ax=true):
    (k=.kf∧(∃ p r c,d=some (.func p r c))∧((y=.const .nilFunc∧zJ x ax=true)∨(x=.const .nilFunc∧zJ y ax=true)))∨
    (k=.kp∧(∃ e,d=some (.pointer e))∧((y=.const (.pointer none)∧zJ x ax=true)∨(x=.const (.pointer none)∧zJ y ax=true)))∨
    (k=.ks∧(∃ e,d=some (.slice e))∧((∃ l c,y=.const (.slice none l c)∧zJ x ax=true)∨(∃ l c,x=.const (.slice none l c)∧zJ y ax=true))):=by
  unfold zlB at h
  split at h
  · refine .inl ⟨rfl,⟨_,_,_,rfl⟩, ?_⟩
    rw [Bool.or_eq_true] at h
    rcases h with h | h
    · split at h
      · exact .inl ⟨rfl,h⟩
      · cases h
    · split at h
      · exact .inr ⟨rfl,h⟩
      · cases h
  · refine .inr (.inl ⟨rfl,⟨_,rfl⟩, ?_⟩)
    rw [Bool.or_eq_true] at h
    rcases h with h | h
    · split at h
      · exact .inl ⟨rfl,h⟩
      · cases h
    · split at h
      · exact .inr ⟨rfl,h⟩
      · cases h
  · refine .inr (.inr ⟨rfl,⟨_,rfl⟩, ?_⟩)
    rw [Bool.or_eq_true] at h
    rcases h with h | h
    · split at h
      · exact .inl ⟨_,_,rfl,h⟩
      · cases h
    · split at h
      · exact .inr ⟨_,_,rfl,h⟩
      · cases h
  · cases h
def zeL (z:Value):Prop:=(∃ f xs ys,z=.func f xs ys)∨z=.nilFunc∨(∃ p,z=.pointer p)∨∃ q l c,z=.slice q l c
theorem binOp_eql {t:TypeId} {z u:Value} (hz:zeL z):binOp .eql t z u=(do pure (.bool (← Op.equal t z u))):=by
  rcases hz with ⟨f,xs,ys,rfl⟩ | rfl | ⟨p,rfl⟩ | ⟨q,l,c,rfl⟩<;>cases u<;>rfl
theorem binOp_neq {t:TypeId} {z u:Value} (hz:zeL z):binOp .neq t z u=(do pure (.bool (!(← Op.equal t z u)))):=by
  rcases hz with ⟨f,xs,ys,rfl⟩ | rfl | ⟨p,rfl⟩ | ⟨q,l,c,rfl⟩<;>cases u<;>rfl
theorem zuT {op:BinOp} {t:TypeId} {z u:Value} (x' y':Operand) (hz:zeL z):(eqGuard op t x' y' z u).run P w=.ok () w:=by
  unfold eqGuard
  rcases hz with ⟨f,xs,ys,rfl⟩ | rfl | ⟨p,rfl⟩ | ⟨q,l,c,rfl⟩<;>(split<;>rfl)
theorem YW {op:BinOp} {neg b:Bool} {t:TypeId} (x' y':Operand) (hopn:op=if neg then .neq else .eql) (z u:Value) (hz:zeL z)
    (hq:(Op.equalIn 10000 t z u).run P w=.ok b w):(do eqGuard op t x' y' z u;binOp op t z u:Sem Value).run P w=.ok (.bool (b != neg)) w:=by
  rw [Sem.run_bind,zuT x' y' hz]
  have hq':(Op.equal t z u).run P w=.ok b w:=hq
  cases neg with
  | false=>
    simp only [Bool.false_eq_true,if_false] at hopn
    subst hopn
    rw [Result.andThen_ok,binOp_eql hz,Sem.run_bind,hq']
    simp
  | true=>
    simp only [if_true] at hopn
    subst hopn
    rw [Result.andThen_ok,binOp_neq hz,Sem.run_bind,hq']
    simp
section
variable (d:Nat) {t:TypeId} (w:World)
theorem zHX {p r c} (hu:P.underlying t=some (.func p r c)) (f xs ys):(Op.equalIn (d+1) t (.func f xs ys) .nilFunc).run P w=.ok false w:=by simp [Op.equalIn,run_underlying hu]
theorem zHF {p r c} (hu:P.underlying t=some (.func p r c)) (f xs ys):(Op.equalIn (d+1) t .nilFunc (.func f xs ys)).run P w=.ok false w:=by simp [Op.equalIn,run_underlying hu]
theorem zHc {p r c} (hu:P.underlying t=some (.func p r c)):(Op.equalIn (d+1) t .nilFunc .nilFunc).run P w=.ok true w:=by simp [Op.equalIn,run_underlying hu]
theorem zHU {e} (hu:P.underlying t=some (.pointer e)) (q):(Op.equalIn (d+1) t (.pointer (some q)) (.pointer none)).run P w=.ok false w:=by simp [Op.equalIn,run_underlying hu]
theorem zHI {e} (hu:P.underlying t=some (.pointer e)) (q):(Op.equalIn (d+1) t (.pointer none) (.pointer (some q))).run P w=.ok false w:=by simp [Op.equalIn,run_underlying hu]
theorem zGG {e} (hu:P.underlying t=some (.pointer e)):(Op.equalIn (d+1) t (.pointer none) (.pointer none)).run P w=.ok true w:=by simp [Op.equalIn,run_underlying hu]
theorem zGP {e} (hu:P.underlying t=some (.slice e)) (q l c l' c'):(Op.equalIn (d+1) t (.slice (some q) l c) (.slice none l' c')).run P w=.ok false w:=by simp [Op.equalIn,run_underlying hu]
theorem zHO {e} (hu:P.underlying t=some (.slice e)) (q l c l' c'):(Op.equalIn (d+1) t (.slice none l' c') (.slice (some q) l c)).run P w=.ok false w:=by simp [Op.equalIn,run_underlying hu]
end
theorem zwu {k:zvc} {neg:Bool} {x:zD} (hop:zI P o.op (.isnil k neg x)=true) (R:Rel G ρ w S O env a) (he:aop G env h (.isnil k neg x)=some (v,h')):vE ρ w S O h ((execOp a.eval o).run P w) v h':=by
  obtain ⟨v0,h0,he⟩:=za.1 he
  obtain ⟨b,hb,e⟩:=ze.1 he
  cases e
  simp only [zI] at hop
  split at hop
  case h_2=>cases hop
  rename_i op t x' y' yt heq
  simp only [Bool.and_eq_true,beq_iff_eq] at hop
  obtain ⟨hopn,hside⟩:=hop
  have fin:(do eqGuard op t x' y' (a.eval x') (a.eval y');binOp op t (a.eval x') (a.eval y'):Sem Value).run P w=.ok (.bool (b != neg)) w→vE ρ w S O h ((execOp a.eval o).run P w) (.bool (b != neg)) h:=fun hrun=>by
    refine .pure (x:=.bool (b != neg)) ?_ (.s (.bool _))
    simp only [execOp,heq]
    rw [Sem.run_bind,hrun]
    rfl
  rcases zkH hside with ⟨rfl,⟨pp,rr,cc,hu⟩,hs⟩ | ⟨rfl,⟨el,hu⟩,hs⟩ | ⟨rfl,⟨el,hu⟩,hs⟩
  · have run:∀ z,zB ρ w S O v0 z→(∃ f xs ys,z=.func f xs ys∧b=false)∨(z=.nilFunc∧b=true):=fun z hr=>by
      cases v0 with
      | nilfn=>cases hb;exact .inr ⟨DW hr,rfl⟩
      | fn f asx bs=>cases hb;obtain ⟨xs,ys,e1,_⟩:=zsu hr;exact .inl ⟨_,_,_,e1,rfl⟩
      | _=>cases hb
    rcases hs with ⟨rfl,hs⟩ | ⟨rfl,hs⟩
    · refine fin ?_
      rcases run _ (zN hs R h0) with ⟨f,xs,ys,e1,rfl⟩ | ⟨e1,rfl⟩
      · rw [e1];exact YW _ _ hopn _ _ (.inl ⟨_,_,_,rfl⟩) (zHX 9999 w hu _ _ _)
      · rw [e1];exact YW _ _ hopn _ _ (.inr (.inl rfl)) (zHc 9999 w hu)
    · refine fin ?_
      rcases run _ (zN hs R h0) with ⟨f,xs,ys,e1,rfl⟩ | ⟨e1,rfl⟩
      · rw [e1];exact YW _ _ hopn _ _ (.inr (.inl rfl)) (zHF 9999 w hu _ _ _)
      · rw [e1];exact YW _ _ hopn _ _ (.inr (.inl rfl)) (zHc 9999 w hu)
  · have run:∀ z,zB ρ w S O v0 z→(∃ ad,z=.pointer (some ad)∧b=false)∨(z=.pointer none∧b=true):=fun z hr=>by
      cases v0 with
      | nilptr=>cases hb;exact .inr ⟨Jc hr,rfl⟩
      | ptr id g e off=>cases hb;obtain ⟨g',pl,ad,e1,_⟩:=Io hr;exact .inl ⟨_,e1,rfl⟩
      | dptr cs=>cases hb;obtain ⟨bl,off,val,e1,_⟩:=WB hr;exact .inl ⟨_,e1,rfl⟩
      | _=>cases hb
    rcases hs with ⟨rfl,hs⟩ | ⟨rfl,hs⟩
    · refine fin ?_
      rcases run _ (zN hs R h0) with ⟨ad,e1,rfl⟩ | ⟨e1,rfl⟩
      · rw [e1];exact YW _ _ hopn _ _ (.inr (.inr (.inl ⟨_,rfl⟩))) (zHU 9999 w hu _)
      · rw [e1];exact YW _ _ hopn _ _ (.inr (.inr (.inl ⟨_,rfl⟩))) (zGG 9999 w hu)
    · refine fin ?_
      rcases run _ (zN hs R h0) with ⟨ad,e1,rfl⟩ | ⟨e1,rfl⟩
      · rw [e1];exact YW _ _ hopn _ _ (.inr (.inr (.inl ⟨_,rfl⟩))) (zHI 9999 w hu _)
      · rw [e1];exact YW _ _ hopn _ _ (.inr (.inr (.inl ⟨_,rfl⟩))) (zGG 9999 w hu)
  · have run:∀ z,zB ρ w S O v0 z→∃ ad l c,z=.slice (some ad) l c∧b=false:=fun z hr=>by
      cases v0 with
      | own id g s l c=>
        have hb:(if 0<l then some false else none)=some b:=hb
        by_cases hl:0<l
        · rw [if_pos hl] at hb
          cases hb
          obtain ⟨g',pl,ad,cap,e1,_,_,hlcx,_,has,_⟩:=Te hr
          obtain ⟨ad,rfl⟩:=Option.isSome_iff_exists.1 (has (by omega))
          exact ⟨_,_,_,e1,rfl⟩
        · rw [if_neg hl] at hb;cases hb
      | data bo k es f=>
        cases es with
        | nil=>cases hb
        | cons e es=>
          cases hb
          obtain ⟨ad,cap,e1,_,_,_,hd⟩:=oK hr
          rcases hd with hd | ⟨bl,off,val,rfl,_⟩
          · cases hd
          · exact ⟨_,_,_,e1,rfl⟩
      | _=>cases hb
    rcases hs with ⟨l',c',rfl,hs⟩ | ⟨l',c',rfl,hs⟩
    · refine fin ?_
      obtain ⟨ad,l,c,e1,rfl⟩:=run _ (zN hs R h0)
      rw [e1];exact YW _ _ hopn _ _ (.inr (.inr (.inr ⟨_,_,_,rfl⟩))) (zGP 9999 w hu _ _ _ _ _)
    · refine fin ?_
      obtain ⟨ad,l,c,e1,rfl⟩:=run _ (zN hs R h0)
      rw [e1];exact YW _ _ hopn _ _ (.inr (.inr (.inr ⟨_,_,_,rfl⟩))) (zHO 9999 w hu _ _ _ _ _)
end
end Go.Proofs.YthcnhibjddomdaaGreat
