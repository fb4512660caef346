/- PlantCheapest: for every plant, schedule, and change of it the law answers true and turns nothing, with no condition. Part 0 of 5. -/
import GoSem.Step
import Derived.RangeFuncLeaves
import Derived.Laws.AppendOwn
import Derived.Laws.CopyRow
import Derived.ChangeKeysEq
import Derived.Laws.StructEq
import Derived.MapKept
import Derived.Laws.BitsLemmas
set_option maxHeartbeats 2000000
set_option linter.unusedSimpArgs false
set_option linter.unusedVariables false
set_option linter.deprecated false
set_option linter.all false
section
namespace Go.Ai
open Go
inductive AV where
  | int (k:IntKind) (n:Int)
  | bool (b:Bool)
  | str (s:ByteArray)
  | agg (cs:List AV)
  | tup (vs:List AV)
  | slice (full:Bool) (sz:Nat) (es:List (List AV))
  | sref (b off len ver sz:Nat)
  | ptr (b off ver:Nat)
  | vptr (cs:List AV) (off:Nat)
  | nilptr
  | map (b:Nat)
  | nilmap
  | fn (f:FuncId) (caps:List AV)
  | yield (l:Nat)
  | nilfn
  | iface (t:TypeId) (v:AV)
  | nilIface
  | iter (b:Nat)
  | undef
  deriving Inhabited
def AV.cells:AV→List AV
  | .agg cs=>cs
  | v=>[v]
def AV.one:AV→Bool
  | .agg _ | .tup _ | .undef=>false
  | _=>true
mutual

def AV.clean:AV→Bool
  | .int .. | .bool _ | .str _ | .slice .. | .nilptr | .nilmap | .nilfn | .nilIface | .undef=>true
  | .agg cs=>cleanL cs
  | .iface _ v=>v.clean
  | _=>false
def cleanL:List AV→Bool
  | []=>true
  | c :: cs=>c.clean && cleanL cs
end
mutual

def AV.under (n:Nat):AV→Bool
  | .int .. | .bool _ | .str _ | .slice .. | .vptr .. | .nilptr | .nilmap | .nilfn | .nilIface | .undef=>true
  | .agg cs=>underL n cs
  | .tup cs=>underL n cs
  | .fn _ cs=>underL n cs
  | .iface _ v=>v.under n
  | .sref b _ _ _ _ | .ptr b _ _ | .map b | .yield b | .iter b=>decide (b < n)
def underL (n:Nat):List AV→Bool
  | []=>true
  | c :: cs=>c.under n && underL n cs
end
mutual
def AV.beq:AV→AV→Bool
  | .int k a,.int j b=>decide (k=j) && decide (a=b)
  | .bool a,.bool b=>a == b
  | .str a,.str b=>a.toList == b.toList
  | .agg a,.agg b=>beqL a b
  | .tup a,.tup b=>beqL a b
  | .slice f z a,.slice g y b=>f == g && decide (z=y) && beqLL a b
  | .sref b o l v z,.sref c p m x y=>decide (b=c) && decide (o=p) && decide (l=m) && decide (v=x) && decide (z=y)
  | .ptr b o v,.ptr c p x=>decide (b=c) && decide (o=p) && decide (v=x)
  | .vptr a o,.vptr b p=>beqL a b && decide (o=p)
  | .nilptr,.nilptr | .nilmap,.nilmap | .nilfn,.nilfn | .nilIface,.nilIface | .undef,.undef=>true
  | .map a,.map b | .yield a,.yield b | .iter a,.iter b=>decide (a=b)
  | .fn f a,.fn g b=>decide (f=g) && beqL a b
  | .iface t a,.iface u b=>decide (t=u) && a.beq b
  | _,_=>false
def beqL:List AV→List AV→Bool
  | [],[]=>true
  | a :: as1,b :: bs=>a.beq b && beqL as1 bs
  | _,_=>false
def beqLL:List (List AV)→List (List AV)→Bool
  | [],[]=>true
  | a :: as1,b :: bs=>beqL a b && beqLL as1 bs
  | _,_=>false
end
def leaks (base:Option Nat) (b:Nat) (vs:List AV):Bool :=
  match base with
  | some n=>decide (b < n) && !cleanL vs
  | none=>!cleanL vs
def keqL:List AV→List AV→Bool
  | [],[]=>true
  | .int _ a :: as1,.int _ b :: bs=>(a == b) && keqL as1 bs
  | .bool a :: as1,.bool b :: bs=>(a == b) && keqL as1 bs
  | .str a :: as1,.str b :: bs=>(a == b) && keqL as1 bs
  | _,_=>false
inductive KS where
  | int (k:IntKind)
  | bool
  | str
def KS.beq:KS→KS→Bool
  | .int j,.int k=>decide (j=k)
  | .bool,.bool | .str,.str=>true
  | _,_=>false
def beqKS:List KS→List KS→Bool
  | [],[]=>true
  | a :: as1,b :: bs=>a.beq b && beqKS as1 bs
  | _,_=>false
def fits:List KS→List AV→Bool
  | [],[]=>true
  | .int k :: ks,.int j _ :: vs=>decide (k=j) && fits ks vs
  | .bool :: ks,.bool _ :: vs=>fits ks vs
  | .str :: ks,.str _ :: vs=>fits ks vs
  | _,_=>false
structure Sh where
  agg:Bool
  ks:List KS
def Sh.beq (s t:Sh):Bool:=s.agg == t.agg && beqKS s.ks t.ks
def hasSh (s:Sh):AV→Bool
  | .agg cs=>s.agg && fits s.ks cs
  | v=>!s.agg && fits s.ks [v]
inductive EqK where
  | bool
  | ptr
  | map
  | func
  | iface
  | sh (s:Sh)
inductive Jump where
  | ret
  | exit (id:Nat)
inductive AOpd where
  | r (i:Nat)
  | c (v:AV)
inductive AIns where
  | mov (x:AOpd)
  | own (sz:Nat)
  | pick (c a b:AOpd)
  | alloc (zero:List AV)
  | box (n:Nat) (x:AOpd)
  | build (zero:List AV) (parts:List (Nat × Nat × AOpd))
  | lit (size:Nat) (cells:List AV) (parts:List (Nat × AOpd)) (row auto:Bool)
  | load (agg:Option Nat) (x:AOpd)
  | store (n:Nat) (x v:AOpd)
  | chk (x:AOpd)
  | bin (op:BinOp) (x y:AOpd)
  | eqs (neg:Bool) (k:EqK) (x y:AOpd)
  | un (op:UnOp) (x:AOpd)
  | conv (k:IntKind) (x:AOpd)
  | off (o:Nat) (x:AOpd)
  | fld (o:Nat) (agg:Option Nat) (x:AOpd)
  | iaddr (size:Nat) (arr:Option Nat) (x i:AOpd)
  | aidx (size len:Nat) (agg:Option Nat) (x i:AOpd)
  | sidx (x i:AOpd)
  | slc (size:Nat) (x:AOpd) (lo hi:Option AOpd)
  | sslc (x:AOpd) (lo hi:Option AOpd)
  | look (sh:Sh) (zero:AV) (ok:Bool) (m k:AOpd)
  | mupd (sh:Sh) (m k v:AOpd)
  | mkfn (f:FuncId) (caps:List AOpd)
  | mkmap (sh:Sh)
  | mksl (size bytes:Nat) (zero:List AV) (n c:AOpd)
  | range (m:AOpd)
  | next (it:AOpd)
  | entry (it:AOpd)
  | ext (i:Nat) (x:AOpd)
  | len (str:Bool) (x:AOpd)
  | mlen (x:AOpd)
  | alen (n:Nat)
  | app (size bytes:Nat) (x y:AOpd)
  | copy (size:Nat) (x y:AOpd)
  | minmax (mx:Bool) (x:AOpd) (ys:List AOpd)
  | iface (t:TypeId) (x:AOpd)
  | call (f:FuncId) (args:List AOpd)
  | callv (x:AOpd) (args:List AOpd)
  | panic (x:AOpd)
structure AOp where
  dst:Option Nat
  ins:AIns
  guard:Option (Nat × Bool):=none
inductive ACode where
  | skip
  | reg (ops:List AOp)
  | draw (ops:List AOp) (chk:List (Nat × Nat × Nat))
  | seq (a b:ACode)
  | cond (c:AOpd) (t e:ACode)
  | block (id:Nat) (b:ACode)
  | loop (b:ACode)
  | exit (id:Nat)
  | ret
  | rangeF (g:AOpd) (ps:List Nat) (assign body:ACode)
structure ARes where
  reg:Nat
  cell:Option (Option Nat):=none
  freeze:Option Nat:=none
structure AFunc where
  np:Nat
  ntmps:Nat
  results:List ARes
  body:ACode
abbrev Regs:=List AV
inductive AObj where
  | cells (cs:List AV)
  | map (sh:Sh) (ver:Nat) (es:List (AV × AV))
  | iter (m ver:Nat) (rest:List (AV × AV)) (last:Option (AV × AV))
  | loop (ρ:List AV) (ps:List Nat) (assign body:ACode) (ready:Bool) (jump:Option Jump)
  deriving Inhabited
structure St where
  heap:List AObj
  leak:Bool
inductive Res (α:Type) where
  | ok (a:α)
  | fail
  | pick (n:Nat) (k:Nat→Res α)
def Res.bind {α β:Type}:Res α→(α→Res β)→Res β
  | .ok a,f=>f a
  | .fail,_=>.fail
  | .pick n k,f=>.pick n fun i=>(k i).bind f
def Res.All {α:Type} (Q:α→Prop):Res α→Prop
  | .ok a=>Q a
  | .fail=>False
  | .pick n k=>0 < n∧∀ i,i < n→(k i).All Q
inductive AExit where
  | normal
  | exit (id:Nat)
  | ret
  | panic (v:AV)
inductive Ret where
  | val (v:AV)
  | panic (v:AV)
inductive Callee where
  | fn (f:FuncId)
  | yield (l:Nat)
def AOpd.ev (ρ:Regs):AOpd→AV
  | .r i=>ρ.getD i .undef
  | .c v=>v
def put (ρ:Regs) (d:Option Nat) (v:AV):Regs :=
  match d with
  | some i=>ρ.set i v
  | none=>ρ
def rdc (cs:List AV) (off:Nat):Option Nat→Option AV
  | none=>cs[off]?
  | some n=>if off + n≤cs.length then some (.agg ((cs.drop off).take n)) else none
def row (H:List AObj) (b ver:Nat):Option (List AV) :=
  match H[b]? with
  | some (.cells cs)=>if cs.length=ver then some cs else none
  | _=>none
def setAt (cs:List AV) (off:Nat):List AV→List AV
  | []=>cs
  | v :: vs=>setAt (cs.set off v) (off + 1) vs
def appRow (cs vs:List AV) (k ver:Nat):List AV:=if k + vs.length≤ver then setAt cs k vs else cs.take k ++ vs
def ld (H:List AObj) (agg:Option Nat):AV→Option AV
  | .ptr b off ver=>(row H b ver).bind fun cs=>rdc cs off agg
  | .vptr cs off=>rdc cs off agg
  | _=>none
def fillA (cs:List AV):List (Nat × Nat × AV)→Option (List AV)
  | []=>some cs
  | (off,size,v) :: rest=>if v.cells.length=size∧off + size≤cs.length then fillA (setAt cs off v.cells) rest else none
def chunk (size:Nat):Nat→List AV→List (List AV)
  | 0,_=>[]
  | n + 1,l=>l.take size :: chunk size n (l.drop size)
def rowOf (H:List AObj) (size:Nat):AV→Option (Nat × List AV)
  | .slice _ sz es=>if sz=size∨es=[] then some (es.length,es.flatten) else none
  | .sref b off len ver sz=>if sz=size then (row H b ver).bind fun cs=>some (len,(cs.drop off).take (len * size)) else none
  | _=>none
def idxOf (n:Nat):AV→Option Nat
  | .int _ i=>if 0≤i∧i < n then some i.toNat else none
  | _=>none
def boundOf (n:Nat):AV→Option Nat
  | .int _ i=>if 0≤i∧i≤n then some i.toNat else none
  | _=>none
def boundsOf (n:Nat) (lo hi:Option AV):Option (Nat × Nat) :=
  (match hi with | some v=>boundOf n v | none=>some n).bind fun h =>
  (match lo with | some v=>boundOf h v | none=>some 0).bind fun l=>some (l,h)
def evBin (op:BinOp):AV→AV→Option AV
  | .int k a,.int j b =>
    match op with
    | .shl=>if b < 0 then none else some (.int k (k.wrap (a * 2 ^ (min b.toNat k.bits))))
    | .shr=>if b < 0 then none else some (.int k (a.fdiv (2 ^ (min b.toNat k.bits))))
    | _ =>
      if k ≠ j then none else
      match op with
      | .add=>some (.int k (k.wrap (a + b)))
      | .sub=>some (.int k (k.wrap (a - b)))
      | .mul=>some (.int k (k.wrap (a * b)))
      | .quo=>if b=0 then none else some (.int k (k.wrap (a.tdiv b)))
      | .rem=>if b=0 then none else some (.int k (a.tmod b))
      | .and=>some (.int k (k.wrap (BitVec.ofInt k.bits a &&& BitVec.ofInt k.bits b).toNat))
      | .or=>some (.int k (k.wrap (BitVec.ofInt k.bits a ||| BitVec.ofInt k.bits b).toNat))
      | .xor=>some (.int k (k.wrap (BitVec.ofInt k.bits a ^^^ BitVec.ofInt k.bits b).toNat))
      | .andNot=>some (.int k (k.wrap (BitVec.ofInt k.bits a &&& ~~~BitVec.ofInt k.bits b).toNat))
      | .eql=>some (.bool (a == b))
      | .neq=>some (.bool (a != b))
      | .lss=>some (.bool (decide (a < b)))
      | .leq=>some (.bool (decide (a≤b)))
      | .gtr=>some (.bool (decide (a > b)))
      | .geq=>some (.bool (decide (a ≥ b)))
      | _=>none
  | .str a,.str b =>
    match op with
    | .add=>if ((a.size + b.size:Nat):Int) > IntKind.i64.max then none else some (.str (a ++ b))
    | .eql=>some (.bool (a.toList == b.toList))
    | .neq=>some (.bool (!(a.toList == b.toList)))
    | .lss=>some (.bool (Op.bytesLess a.toList b.toList))
    | _=>none
  | _,_=>none
def evUn (op:UnOp):AV→Option AV
  | .int k n=>match op with
    | .neg=>some (.int k (k.wrap (0 - n)))
    | _=>none
  | .bool b=>match op with
    | .not=>some (.bool (!b))
    | _=>none
  | _=>none
def evMinMax (mx:Bool):AV→List AV→Option AV
  | x,[]=>some x
  | .int k a,.int j b :: rest=>if k=j then evMinMax mx (.int k (if mx then (if b > a then b else a) else (if b < a then b else a))) rest else none
  | _,_=>none
def evEq:EqK→AV→AV→Option Bool
  | .sh t,x,y=>if hasSh t x && hasSh t y then some (keqL x.cells y.cells) else none
  | .bool,.bool a,.bool b=>some (a == b)
  | .ptr,.nilptr,.nilptr | .map,.nilmap,.nilmap | .func,.nilfn,.nilfn=>some true
  | .ptr,.nilptr,.ptr .. | .ptr,.ptr ..,.nilptr | .ptr,.nilptr,.vptr .. | .ptr,.vptr ..,.nilptr=>some false
  | .map,.nilmap,.map _ | .map,.map _,.nilmap=>some false
  | .func,.nilfn,.fn .. | .func,.fn ..,.nilfn=>some false
  | .iface,.nilIface,.iface .. | .iface,.iface ..,.nilIface=>some false
  | _,_,_=>none
def findE (k:AV):List (AV × AV)→Nat→Option (Nat × AV)
  | [],_=>none
  | (x,v) :: rest,i=>if keqL k.cells x.cells then some (i,v) else findE k rest (i + 1)
def putE (k v:AV) (es:List (AV × AV)):List (AV × AV) :=
  match findE k es 0 with
  | some q=>es.set q.1 (k,v)
  | none=>es ++ [(k,v)]
def mapOf (H:List AObj):AV→Option (List (AV × AV))
  | .nilmap=>some []
  | .map b=>match H[b]? with
    | some (.map _ _ es)=>some es
    | _=>none
  | _=>none
def mapSh (H:List AObj) (sh:Sh):AV→Option (List (AV × AV))
  | .nilmap=>some []
  | .map b=>match H[b]? with
    | some (.map t _ es)=>if t.beq sh then some es else none
    | _=>none
  | _=>none
def evI (base:Option Nat) (ρ:Regs) (s:St):AIns→Option (AV × St)
  | .mov x=>some (x.ev ρ,s)
  | .own sz=>some (.sref s.heap.length 0 0 0 sz,{ s with heap:=s.heap ++ [.cells []] })
  | .pick c a b=>match c.ev ρ with
    | .bool t=>some (if t then a.ev ρ else b.ev ρ,s)
    | _=>none
  | .alloc zero=>some (.ptr s.heap.length 0 zero.length,{ s with heap:=s.heap ++ [.cells zero] })
  | .box n x=>if (x.ev ρ).cells.length=n∧(x.ev ρ).cells.all AV.one=true then some (.ptr s.heap.length 0 n,{ s with heap:=s.heap ++ [.cells (x.ev ρ).cells] }) else none
  | .build zero parts=>(fillA zero (parts.map fun p=>(p.1,p.2.1,p.2.2.ev ρ))).bind fun cs=>some (.agg cs,s)
  | .lit size cells parts rw auto =>
    (fillA cells (parts.map fun p=>(p.1,size,p.2.ev ρ))).bind fun cs =>
    if cs.all AV.one=true then
      if rw || (auto && !cleanL cs) then some (.sref s.heap.length 0 (cs.length / size) cs.length size,{ s with heap:=s.heap ++ [.cells cs] })
      else if cleanL cs then some (.slice true size (chunk size (cs.length / size) cs),s) else none
    else none
  | .load agg x=>(ld s.heap agg (x.ev ρ)).bind fun v=>some (v,s)
  | .store n x v =>
    match x.ev ρ with
    | .ptr b off ver =>
      (row s.heap b ver).bind fun cs =>
      let vs:=(v.ev ρ).cells
      if vs.length=n∧off + n≤cs.length∧vs.all AV.one=true then
        some (.undef,{ heap:=s.heap.set b (.cells (setAt cs off vs)),leak:=s.leak || leaks base b vs })
      else none
    | _=>none
  | .chk x=>match x.ev ρ with
    | .ptr b off ver=>some (.ptr b off ver,s)
    | .vptr cs off=>some (.vptr cs off,s)
    | .fn f cs=>some (.fn f cs,s)
    | .yield l=>some (.yield l,s)
    | _=>none
  | .bin op x y=>(evBin op (x.ev ρ) (y.ev ρ)).bind fun v=>some (v,s)
  | .eqs neg k x y=>(evEq k (x.ev ρ) (y.ev ρ)).bind fun t=>some (.bool (if neg then !t else t),s)
  | .un op x=>(evUn op (x.ev ρ)).bind fun v=>some (v,s)
  | .conv k x=>match x.ev ρ with
    | .int _ n=>some (.int k (k.wrap n),s)
    | _=>none
  | .off o x=>match x.ev ρ with
    | .ptr b off ver=>some (.ptr b (off + o) ver,s)
    | .vptr cs off=>some (.vptr cs (off + o),s)
    | _=>none
  | .fld o agg x=>match x.ev ρ with
    | .agg cs=>(rdc cs o agg).bind fun v=>some (v,s)
    | _=>none
  | .iaddr size arr x i =>
    match arr,x.ev ρ with
    | none,.slice _ sz es=>(idxOf es.length (i.ev ρ)).bind fun j=>(es[j]?).bind fun e=>if sz=size then some (.vptr e 0,s) else none
    | none,.sref b off len ver sz=>if sz=size then (row s.heap b ver).bind fun _=>(idxOf len (i.ev ρ)).bind fun j=>some (.ptr b (off + j * size) ver,s) else none
    | some n,.ptr b off ver=>(idxOf n (i.ev ρ)).bind fun j=>some (.ptr b (off + j * size) ver,s)
    | some n,.vptr cs off=>(idxOf n (i.ev ρ)).bind fun j=>some (.vptr cs (off + j * size),s)
    | _,_=>none
  | .aidx size len agg x i=>match x.ev ρ with
    | .agg cs=>(idxOf len (i.ev ρ)).bind fun j=>(rdc cs (j * size) agg).bind fun v=>some (v,s)
    | _=>none
  | .sidx x i=>match x.ev ρ with
    | .str t=>(idxOf t.size (i.ev ρ)).bind fun j=>(t.data[j]?).bind fun c=>some (.int .u8 c.toNat,s)
    | _=>none
  | .slc size x lo hi =>
    match x.ev ρ with
    | .slice full sz es=>if sz=size∨es=[] then (boundsOf es.length (lo.map (·.ev ρ)) (hi.map (·.ev ρ))).bind fun p =>
        some (.slice (full && decide (p.2=es.length)) sz ((es.take p.2).drop p.1),s) else none
    | .sref b off len ver sz=>if sz=size then (row s.heap b ver).bind fun _=>(boundsOf len (lo.map (·.ev ρ)) (hi.map (·.ev ρ))).bind fun p =>
        some (if p.1=p.2 then .slice false sz [] else .sref b (off + p.1 * size) (p.2 - p.1) ver sz,s) else none
    | _=>none
  | .sslc x lo hi=>match x.ev ρ with
    | .str t=>(boundsOf t.size (lo.map (·.ev ρ)) (hi.map (·.ev ρ))).bind fun p=>some (.str (t.extract p.1 p.2),s)
    | _=>none
  | .look sh zero ok m k =>
    if hasSh sh (k.ev ρ) then
      (mapSh s.heap sh (m.ev ρ)).bind fun es =>
      let r:=findE (k.ev ρ) es 0
      let v:=match r with | some q=>q.2 | none=>zero
      some (if ok then .tup [v,.bool r.isSome] else v,s)
    else none
  | .mupd sh m k v =>
    match m.ev ρ with
    | .map b=>match s.heap[b]? with
      | some (.map t ver es) =>
        if t.beq sh && hasSh sh (k.ev ρ) then
          some (.undef,{ heap:=s.heap.set b (.map t (ver + 1) (putE (k.ev ρ) (v.ev ρ) es)),leak:=s.leak || leaks base b [v.ev ρ] })
        else none
      | _=>none
    | _=>none
  | .mkfn f caps=>some (.fn f (caps.map (·.ev ρ)),s)
  | .mkmap sh=>some (.map s.heap.length,{ s with heap:=s.heap ++ [.map sh 0 []] })
  | .mksl size bytes zero n c =>
    match n.ev ρ,c.ev ρ with
    | .int _ a,.int _ d=>if a=d∧0≤a∧a * bytes≤140737488355328 then
        some (.sref s.heap.length 0 a.toNat (a.toNat * size) size,{ s with heap:=s.heap ++ [.cells ((List.replicate a.toNat zero).flatten)] }) else none
    | _,_=>none
  | .range m =>
    match m.ev ρ with
    | .map b=>match s.heap[b]? with
      | some (.map _ ver es)=>some (.iter s.heap.length,{ s with heap:=s.heap ++ [.iter b ver es none] })
      | _=>none
    | _=>none
  | .entry it=>match it.ev ρ with
    | .iter b=>match s.heap[b]? with
      | some (.iter m ver _ (some (k,v)))=>match s.heap[m]? with
        | some (.map _ ver' _)=>if ver=ver' then some (.tup [k,v],s) else none
        | _=>none
      | _=>none
    | _=>none
  | .ext i x=>match x.ev ρ with
    | .tup vs=>(vs[i]?).bind fun v=>some (v,s)
    | _=>none
  | .len str x=>match str,x.ev ρ with
    | false,.slice _ _ es=>some (.int .i64 es.length,s)
    | false,.sref _ _ len _ _=>some (.int .i64 len,s)
    | true,.str t=>some (.int .i64 t.size,s)
    | _,_=>none
  | .mlen x=>(mapOf s.heap (x.ev ρ)).bind fun es=>some (.int .i64 es.length,s)
  | .alen n=>some (.int .i64 n,s)
  | .app size bytes x y =>
    (rowOf s.heap size (y.ev ρ)).bind fun q =>
    match x.ev ρ with
    | .slice full sz es =>
      if q.1=0 then some (.slice full sz es,s)
      else if full=true∧(sz=size∨es=[])∧(es.length + q.1) * bytes≤140737488355328∧es.flatten.length=es.length * size∧q.2.length=q.1 * size∧es.flatten.all AV.one=true∧q.2.all AV.one=true then
        some (.sref s.heap.length 0 (es.length + q.1) ((es.length + q.1) * size) size,{ s with heap:=s.heap ++ [.cells (es.flatten ++ q.2)] })
      else none
    | .sref b off len ver sz =>
      (row s.heap b ver).bind fun cs =>
      if q.1=0 then some (.sref b off len ver sz,s)
      else if off=0∧sz=size∧(len + q.1) * bytes≤140737488355328∧q.2.length=q.1 * size∧q.2.all AV.one=true∧len * size≤ver then
        some (.sref b 0 (len + q.1) (appRow cs q.2 (len * size) ver).length sz,{ heap:=s.heap.set b (.cells (appRow cs q.2 (len * size) ver)),leak:=s.leak || leaks base b q.2 })
      else none
    | _=>none
  | .copy size x y =>
    (rowOf s.heap size (y.ev ρ)).bind fun q =>
    match x.ev ρ with
    | .sref b off len ver sz =>
      (row s.heap b ver).bind fun cs =>
      if sz=size∧q.2.length=q.1 * size∧(q.2.take (min q.1 len * size)).length=min q.1 len * size∧(q.2.take (min q.1 len * size)).all AV.one=true∧off + len * size≤ver then
        some (.int .i64 (min q.1 len:Nat),{ heap:=s.heap.set b (.cells (setAt cs off (q.2.take (min q.1 len * size)))),leak:=s.leak || leaks base b (q.2.take (min q.1 len * size)) })
      else none
    | _=>none
  | .minmax mx x ys=>(evMinMax mx (x.ev ρ) (ys.map (·.ev ρ))).bind fun v=>some (v,s)
  | .iface t x=>some (.iface t (x.ev ρ),s)
  | .next _ | .call .. | .callv .. | .panic _=>none
def wanted (ρ:Regs):Option (Nat × Bool)→Bool
  | none=>true
  | some (r,b)=>match ρ.getD r .undef with
    | .bool t=>t == b
    | _=>false
abbrev CallF:=Callee→List AV→St→Res (Ret × St)
def evOp (call : CallF) (base:Option Nat) (o:AOp) (ρ:Regs) (s:St):Res (AExit × Regs × St) :=
  if wanted ρ o.guard then
    match o.ins with
    | .call f xs=>(call (.fn f) (xs.map (·.ev ρ)) s).bind fun
      | (.val v,s')=>.ok (.normal,put ρ o.dst v,s')
      | (.panic v,s')=>.ok (.panic v,ρ,s')
    | .callv x xs =>
      match x.ev ρ with
      | .fn f caps=>(call (.fn f) (xs.map (·.ev ρ) ++ caps) s).bind fun
        | (.val v,s')=>.ok (.normal,put ρ o.dst v,s')
        | (.panic v,s')=>.ok (.panic v,ρ,s')
      | .yield l=>(call (.yield l) (xs.map (·.ev ρ)) s).bind fun
        | (.val v,s')=>.ok (.normal,put ρ o.dst v,s')
        | (.panic _,_)=>.fail
      | _=>.fail
    | .next it =>
      match it.ev ρ with
      | .iter b => match s.heap[b]? with
        | some (.iter m ver rest _)=>match s.heap[m]? with
          | some (.map _ ver' _) =>
            if ver=ver' then
              match rest with
              | []=>.ok (.normal,put ρ o.dst (.tup [.bool false]),s)
              | _ :: _=>.pick rest.length fun i =>
                match rest[i]? with
                | some (k,v)=>.ok (.normal,put ρ o.dst (.tup [.bool true,k,v]),{ s with heap:=s.heap.set b (.iter m ver (rest.eraseIdx i) (some (k,v))) })
                | none=>.fail
            else .fail
          | _=>.fail
        | _=>.fail
      | _=>.fail
    | .panic x=>match x.ev ρ with
      | .iface t v=>.ok (.panic (.iface t v),ρ,s)
      | _=>.fail
    | i=>match evI base ρ s i with
      | some (v,s')=>.ok (.normal,put ρ o.dst v,s')
      | none=>.fail
  else .ok (.normal,put ρ o.dst .undef,s)
def evOps (call:CallF) (base:Option Nat):List AOp→Regs→St→Res (AExit × Regs × St)
  | [],ρ,s=>.ok (.normal,ρ,s)
  | o :: rest,ρ,s=>(evOp call base o ρ s).bind fun
    | (.normal,ρ',s')=>evOps call base rest ρ' s'
    | r=>.ok r
def AIns.eff:AIns→Bool
  | .own _ | .box .. | .store .. | .mupd .. | .mkmap _ | .mksl .. | .range _ | .next _ | .app .. | .copy .. | .call .. | .callv .. | .panic _=>true
  | .lit _ _ _ rw _=>rw
  | _=>false
def hoist:List AOp→Regs→List AObj→Regs × List AObj
  | [],ρ,H=>(ρ,H)
  | o :: rest,ρ,H=>match o.ins with
    | .alloc z=>hoist rest (put ρ o.dst (.ptr H.length 0 z.length)) (H ++ [.cells z])
    | _=>hoist rest ρ H
def evTrace (call:CallF) (base:Option Nat):List AOp→Regs→St→List (List AObj)→Res (AExit × Regs × St × List (List AObj))
  | [],ρ,s,hs=>.ok (.normal,ρ,s,hs)
  | ⟨_,.alloc _,_⟩ :: rest,ρ,s,hs=>evTrace call base rest ρ s hs
  | o :: rest,ρ,s,hs=>(evOp call base o ρ s).bind fun
    | (.normal,ρ',s')=>evTrace call base rest ρ' s' (if o.ins.eff then hs ++ [s'.heap] else hs)
    | (e,ρ',s')=>.ok (e,ρ',s',hs)
def chkRead (base:Option Nat) (ρ:Regs) (o:AOp) (hs:List (List AObj)):Bool :=
  if wanted ρ o.guard then
    match o.dst with
    | some d=>match o.ins with
      | .alloc z=>(match ρ.getD d .undef with
        | .ptr b _ _=>hs.all fun h=>match h[b]? with
          | some (.cells cs)=>beqL cs z
          | _=>false
        | _=>false)
      | _=>hs.all fun h=>match evI base ρ { heap:=h,leak:=false } o.ins with
      | some (v,_)=>v.beq (ρ.getD d .undef)
      | none=>false
    | none=>false
  else true
def chkAll (base:Option Nat) (ρ:Regs) (ops:List AOp) (hs:List (List AObj)):List (Nat × Nat × Nat)→Bool
  | []=>true
  | (j,lo,hi) :: rest=>(match ops[j]? with | some o=>chkRead base ρ o ((hs.take (hi + 1)).drop lo) | none=>false) && chkAll base ρ ops hs rest
def rounds (body:Regs→St→Res (AExit × Regs × St)):Nat→Regs→St→Res (AExit × Regs × St)
  | 0,_,_=>.fail
  | n + 1,ρ,s=>(body ρ s).bind fun
    | (.normal,ρ',s')=>rounds body n ρ' s'
    | r=>.ok r
def evCode (call:CallF) (base:Option Nat) (fuel:Nat):ACode→Regs→St→Res (AExit × Regs × St)
  | .skip,ρ,s=>.ok (.normal,ρ,s)
  | .reg ops,ρ,s=>evOps call base ops ρ s
  | .draw ops chk,ρ,s=>(evTrace call base ops (hoist ops ρ s.heap).1 { s with heap:=(hoist ops ρ s.heap).2 } [(hoist ops ρ s.heap).2]).bind fun r =>
      match r.1 with
      | .normal=>if chkAll base r.2.1 ops r.2.2.2 chk then .ok (.normal,r.2.1,r.2.2.1) else .fail
      | _=>.fail
  | .seq a b,ρ,s=>(evCode call base fuel a ρ s).bind fun
    | (.normal,ρ',s')=>evCode call base fuel b ρ' s'
    | r=>.ok r
  | .cond c t e,ρ,s=>match c.ev ρ with
    | .bool true=>evCode call base fuel t ρ s
    | .bool false=>evCode call base fuel e ρ s
    | _=>.fail
  | .block id b,ρ,s=>(evCode call base fuel b ρ s).bind fun
    | (.exit i,ρ',s')=>if i=id then .ok (.normal,ρ',s') else .ok (.exit i,ρ',s')
    | r=>.ok r
  | .loop b,ρ,s=>rounds (evCode call base fuel b) fuel ρ s
  | .exit id,ρ,s=>.ok (.exit id,ρ,s)
  | .ret,ρ,s=>.ok (.ret,ρ,s)
  | .rangeF g ps assign body,ρ,s =>
    let l:=s.heap.length
    match g.ev ρ with
    | .fn f caps=>(call (.fn f) (.yield l :: caps) { s with heap:=s.heap ++ [.loop ρ ps assign body true none] }).bind fun
      | (.val _,s')=>match s'.heap[l]? with
        | some (.loop ρ' ps' x y ready jump) =>
          let s2:St:={ s' with heap:=s'.heap.set l (.loop ρ' ps' x y false jump) }
          match ready,jump with
          | true,none=>.ok (.normal,ρ,s2)
          | _,some .ret=>.ok (.ret,ρ,s2)
          | _,some (.exit id)=>.ok (.exit id,ρ,s2)
          | false,none=>.fail
        | _=>.fail
      | (.panic _,_)=>.fail
    | _=>.fail
def frz (base:Nat) (H:List AObj) (size:Nat):AV→AV
  | .sref b off len ver sz=>match row H b ver with
    | some cs=>if sz=size∧base≤b∧cleanL ((cs.drop off).take (len * size))=true∧off + len * size≤cs.length∧0 < size then .slice false size (chunk size len ((cs.drop off).take (len * size))) else .sref b off len ver sz
    | none=>.sref b off len ver sz
  | v=>v
def frzL (base:Nat) (H:List AObj):List ARes→List AV→List AV
  | r :: rs,v :: vs=>(match r.freeze with | some size=>frz base H size v | none=>v) :: frzL base H rs vs
  | _,_=>[]
def resultOf (ρ:Regs) (H:List AObj) (r:ARes):Option AV :=
  match r.cell with
  | none=>some (ρ.getD r.reg .undef)
  | some agg=>ld H agg (ρ.getD r.reg .undef)
def resultsOf (ρ:Regs) (H:List AObj):List ARes→Option (List AV)
  | []=>some []
  | r :: rs=>(resultOf ρ H r).bind fun v=>(resultsOf ρ H rs).bind fun vs=>some (v :: vs)
def packR:List AV→AV
  | [v]=>v
  | vs=>.tup vs
def leave (base:Nat) (leak:Bool) (rs:List ARes) (vs:List AV) (s:St):AV × St :=
  if s.leak=false∧underL base (frzL base s.heap rs vs)=true∧vs.length=rs.length then (packR (frzL base s.heap rs vs),{ heap:=s.heap.take base,leak:=leak })
  else (packR vs,{ heap:=s.heap,leak:=leak || s.leak })
def leaveP (base:Nat) (leak:Bool) (v:AV) (s:St):St :=
  if s.leak=false∧v.under base=true then { heap:=s.heap.take base,leak:=leak } else { heap:=s.heap,leak:=leak || s.leak }
inductive AEntry where
  | code (F:AFunc)
  | ext (g:List AV→Option AV)
abbrev AProg:=FuncId→Option AEntry
def ev (prog : AProg):Nat→Callee→List AV→St→Res (Ret × St)
  | 0,_,_,_=>.fail
  | k + 1, .fn f,args,s =>
    match prog f with
    | none=>.fail
    | some (.ext g)=>match g args with
      | some v=>.ok (.val v,s)
      | none=>.fail
    | some (.code F) =>
      if args.length=F.np then
        (evCode (ev prog k) (some s.heap.length) k F.body (args ++ List.replicate (F.ntmps - F.np) .undef) { s with leak:=false }).bind fun
          | (.panic v,_,s')=>.ok (.panic v,leaveP s.heap.length s.leak v s')
          | (.exit _,_,_)=>.fail
          | (_,ρ,s')=>match resultsOf ρ s'.heap F.results with
            | some vs=>.ok (.val (leave s.heap.length s.leak F.results vs s').1,(leave s.heap.length s.leak F.results vs s').2)
            | none=>.fail
      else .fail
  | k + 1, .yield l,args,s =>
    match s.heap[l]? with
    | some (.loop ρ ps assign body true _) =>
      if args.length=ps.length then
        let ρ0:=(ps.zip args).foldl (fun ρ p=>ρ.set p.1 p.2) ρ
        let back (jump:Option Jump) (s:St):Res (Ret × St) :=
          .ok (.val (.bool jump.isNone),{ s with heap:=s.heap.set l (.loop ρ ps assign body jump.isNone jump) })
        (evCode (ev prog k) none k assign ρ0 s).bind fun
          | (.normal,ρ1,s1)=>match s1.heap[l]? with
            | some (.loop _ _ _ _ true none)=>(evCode (ev prog k) none k body ρ1 { s1 with heap:=s1.heap.set l (.loop ρ ps assign body false none) }).bind fun
              | (.normal,_,s2)=>back none s2
              | (.ret,_,s2)=>back (some .ret) s2
              | (.exit id,_,s2)=>back (some (.exit id)) s2
              | (.panic _,_,_)=>.fail
            | _=>.fail
          | _=>.fail
      else .fail
    | _=>.fail
def ctzN:Nat→Nat→Nat
  | 0,_=>0
  | n + 1,x=>if x % 2=1 then 0 else ctzN n (x / 2) + 1
def ctz64:List AV→Option AV
  | [.int .u64 x]=>if 0≤x∧x < 18446744073709551616 then some (.int .i64 (ctzN 64 x.toNat)) else none
  | _=>none
def ofTab (l:List (Option AEntry)):AProg:=fun f=>(l[f]?).bind fun e=>e
end Go.Ai
end
section
namespace Go.Ai
open Go
def ofVal1:Value→Option AV
  | .int k n=>some (.int k n)
  | .bool b=>some (.bool b)
  | .string s=>some (.str s)
  | .pointer none=>some .nilptr
  | .slice none 0 0=>some (.slice true 0 [])
  | .map none=>some .nilmap
  | .nilFunc=>some .nilfn
  | .nilIface=>some .nilIface
  | _=>none
def ofVals1:List Value→Option (List AV)
  | []=>some []
  | v :: vs=>(ofVal1 v).bind fun x=>(ofVals1 vs).bind fun xs=>some (x :: xs)
def ofVal:Value→Option AV
  | .agg cs=>(ofVals1 cs.toList).bind fun xs=>some (.agg xs)
  | .tuple cs=>if cs.size=0 then some .undef else none
  | v=>ofVal1 v
def opd:Operand→Option AOpd
  | .tmp t=>some (.r t)
  | .const v=>(ofVal v).bind fun x=>some (.c x)
  | .func f=>some (.c (.fn f []))
  | .global _=>none
def opds:List Operand→Option (List AOpd)
  | []=>some []
  | x :: xs=>(opd x).bind fun y=>(opds xs).bind fun ys=>some (y :: ys)
section
variable (P:Program)
def tsize (t:TypeId):Option Nat:=(P.info? t).bind fun i=>some i.size
def isAggT (t:TypeId):Option Bool:=(P.underlying t).bind fun
  | .struct _=>some true
  | .array _ _=>some true
  | _=>some false
def aggOf (t:TypeId):Option (Option Nat):=(isAggT P t).bind fun b=>if b then (tsize P t).bind fun n=>some (some n) else some none
def zeroCells (t:TypeId):Option (List AV):=(P.info? t).bind fun i=>i.zero.bind fun v=>ofVals1 v.cells.toList
def zeroAV (t:TypeId):Option AV:=(P.info? t).bind fun i=>i.zero.bind ofVal
def fsizes:List Field→Option (List (Nat × Nat))
  | []=>some []
  | f :: fs=>(tsize P f.type).bind fun n=>(fsizes fs).bind fun l=>some ((f.offset,n) :: l)
def partsB (places:List (Nat × Nat)):List (Nat × Operand)→Option (List (Nat × Nat × AOpd))
  | []=>some []
  | (i,x) :: rest=>(places[i]?).bind fun p=>(opd x).bind fun y=>(partsB places rest).bind fun ys=>some ((p.1,p.2,y) :: ys)
def partsA (size:Nat):List (Nat × Operand)→Option (List (Nat × Nat × AOpd))
  | []=>some []
  | (i,x) :: rest=>(opd x).bind fun y=>(partsA size rest).bind fun ys=>some ((i * size,size,y) :: ys)
def partsS (size:Nat):List (Nat × Operand)→Option (List (Nat × AOpd))
  | []=>some []
  | (i,x) :: rest=>(opd x).bind fun y=>(partsS size rest).bind fun ys=>some ((i * size,y) :: ys)
def shapeFs (sh:TypeId→Option (List KS)):Nat→List Field→Option (List KS)
  | _,[]=>some []
  | off, f :: fs => if f.name != "_" && decide (f.offset = off) then (sh f.type).bind fun s => (tsize P f.type).bind fun n => if n = s.length then (shapeFs sh (off + s.length) fs).bind fun r => some (s ++ r) else none else none
def shapeT:Nat→TypeId→Option (List KS)
  | 0,_=>none
  | d + 1,t=>match P.underlying t with
    | some .bool=>some [.bool]
    | some (.int k)=>some [.int k]
    | some .string=>some [.str]
    | some (.struct fs)=>if P.stoodInHeld t then none else shapeFs P (shapeT d) 0 fs.toList
    | some (.array n e)=>(shapeT d e).bind fun s=>(tsize P e).bind fun m=>if m=s.length then some (List.replicate n s).flatten else none
    | _=>none
def shT (t:TypeId):Option Sh:=(isAggT P t).bind fun a=>(shapeT P 8 t).bind fun ks=>some ⟨a,ks⟩
def eqK (t:TypeId):Option EqK :=
  match P.underlying t with
  | some .bool=>some .bool
  | some (.pointer _)=>some .ptr
  | some (.map _ _)=>some .map
  | some (.func ..)=>some .func
  | some (.interface _)=>some .iface
  | some (.struct _) | some (.array _ _)=>if P.eqGuardType P.depth t then none else (shT P t).bind fun s=>some (.sh s)
  | _=>none
def compileIns (auto:Bool) (own rows:List Nat) (o:Oper):Option AIns :=
  match o.op with
  | .move x=>(opd x).bind fun y=>some (.mov y)
  | .assign x =>
    match o.dst,x with
    | some d,.const (.slice none 0 0)=>if own.contains d then (match P.underlying o.type with | some (.slice e)=>(tsize P e).bind fun n=>if 0 < n then some (.own n) else none | _=>none) else some (.mov (.c (.slice true 0 [])))
    | _,_=>(opd x).bind fun y=>some (.mov y)
  | .pick c a b=>(opd c).bind fun c=>(opd a).bind fun a=>(opd b).bind fun b=>some (.pick c a b)
  | .alloc t=>(zeroCells P t).bind fun z=>some (.alloc z)
  | .box t x=>(tsize P t).bind fun n=>(opd x).bind fun y=>some (.box n y)
  | .build t parts=>(zeroCells P t).bind fun z =>
    match P.underlying t with
    | some (.struct fields)=>(fsizes P fields.toList).bind fun pl=>(partsB pl parts.toList).bind fun ps=>some (.build z ps)
    | some (.array _ e)=>(tsize P e).bind fun n=>(partsA n parts.toList).bind fun ps=>some (.build z ps)
    | _=>none
  | .buildSlice t len parts =>
    match P.underlying t with
    | some (.slice e)=>(tsize P e).bind fun n=>(zeroCells P e).bind fun z =>
        if len * n≤1024∧z.length=n∧0 < n then
          (partsS n parts.toList).bind fun ps=>some (.lit n ((List.replicate len z).flatten) ps (match o.dst with | some d=>rows.contains d | none=>false) auto)
        else none
    | _=>none
  | .load t x=>(aggOf P t).bind fun a=>(opd x).bind fun y=>some (.load a y)
  | .store t x v=>(tsize P t).bind fun n=>(opd x).bind fun y=>(opd v).bind fun u=>some (.store n y u)
  | .nilCheck x=>(opd x).bind fun y=>some (.chk y)
  | .binOp op t x y _ =>
    (opd x).bind fun a=>(opd y).bind fun b =>
    match P.underlying t with
    | some (.int _) | some .string=>some (.bin op a b)
    | _=>(eqK P t).bind fun k =>
      match op with
      | .eql=>some (.eqs false k a b)
      | .neq=>some (.eqs true k a b)
      | _=>none
  | .unOp op _ x=>(opd x).bind fun y=>some (.un op y)
  | .convert src dst x =>
    match P.underlying src,P.underlying dst with
    | some (.int _),some (.int k)=>(opd x).bind fun y=>some (.conv k y)
    | _,_=>none
  | .fieldAddr s x i =>
    match P.underlying s with
    | some (.struct fields)=>(fields[i]?).bind fun f=>(tsize P f.type).bind fun n=>(opd x).bind fun y=>if 0 < n then some (.off f.offset y) else none
    | _=>none
  | .field s x i =>
    match P.underlying s with
    | some (.struct fields)=>(fields[i]?).bind fun f=>(aggOf P f.type).bind fun a=>(opd x).bind fun y=>some (.fld f.offset a y)
    | _=>none
  | .indexAddr t x i =>
    (opd x).bind fun y=>(opd i).bind fun j =>
    match P.underlying t with
    | some (.slice e)=>(tsize P e).bind fun n=>some (.iaddr n none y j)
    | some (.array len e)=>(tsize P e).bind fun n=>some (.iaddr n (some len) y j)
    | _=>none
  | .index t x i =>
    (opd x).bind fun y=>(opd i).bind fun j =>
    match P.underlying t with
    | some (.array len e)=>(tsize P e).bind fun n=>(aggOf P e).bind fun a=>some (.aidx n len a y j)
    | some .string=>some (.sidx y j)
    | _=>none
  | .slice t x lo hi mx =>
    if mx.isSome then none else
    (opd x).bind fun y =>
    (match lo with | none=>some none | some l=>(opd l).bind fun l=>some (some l)).bind fun l =>
    (match hi with | none=>some none | some h=>(opd h).bind fun h=>some (some h)).bind fun h =>
    match P.underlying t with
    | some (.slice e)=>(tsize P e).bind fun n=>some (.slc n y l h)
    | some .string=>some (.sslc y l h)
    | _=>none
  | .lookup t m k ok =>
    match P.underlying t with
    | some (.map kt e)=>(shT P kt).bind fun sh=>(zeroAV P e).bind fun z=>(opd m).bind fun m=>(opd k).bind fun k=>some (.look sh z ok m k)
    | _=>none
  | .mapUpdate t m k x =>
    match P.underlying t with
    | some (.map kt _)=>(shT P kt).bind fun sh=>(opd m).bind fun m=>(opd k).bind fun k=>(opd x).bind fun x=>some (.mupd sh m k x)
    | _=>none
  | .insert t m k x =>
    match P.underlying t with
    | some (.map kt _)=>(shT P kt).bind fun sh=>(opd m).bind fun m=>(opd k).bind fun k=>(opd x).bind fun x=>some (.mupd sh m k x)
    | _=>none
  | .makeFunc (.func f) first caps=>if first.isEmpty then (opds caps.toList).bind fun cs=>some (.mkfn f cs) else none
  | .makeMap t r=>match P.underlying t with
    | some (.map kt _)=>(shT P kt).bind fun sh=>(match r with | none=>some (.mkmap sh) | some (.const (.int _ _))=>some (.mkmap sh) | _=>none)
    | _=>none
  | .makeSlice t n c =>
    match P.underlying t with
    | some (.slice e)=>(P.info? e).bind fun i=>(zeroCells P e).bind fun z=>(opd n).bind fun n=>(opd c).bind fun c =>
        if z.length=i.size∧0 < i.size∧0 < i.bytes then some (.mksl i.size i.bytes z n c) else none
    | _=>none
  | .range t x =>
    match P.underlying t with
    | some (.map _ _)=>(opd x).bind fun y=>some (.range y)
    | _=>none
  | .next it isString=>if isString then none else (opd it).bind fun y=>some (.next y)
  | .entry it=>(opd it).bind fun y=>some (.entry y)
  | .extract x i=>(opd x).bind fun y=>some (.ext i y)
  | .makeInterface t x =>
    match P.underlying t with
    | some (.interface _)=>none
    | some _=>(opd x).bind fun y=>some (.iface t y)
    | none=>none
  | .panic x=>(opd x).bind fun y=>some (.panic y)
  | .call c =>
    (opds c.args.toList).bind fun as1 =>
    match c.callee with
    | .value (.func f)=>some (.call f as1)
    | .value x=>(opd x).bind fun y=>some (.callv y as1)
    | .invoke _ _=>none
    | .builtin .len =>
      match c.argTypes.toList,as1 with
      | [t],[x]=>match P.underlying t with
        | some .string=>some (.len true x)
        | some (.slice _)=>some (.len false x)
        | some (.map _ _)=>some (.mlen x)
        | some (.array n _)=>some (.alen n)
        | _=>none
      | _,_=>none
    | .builtin .append =>
      match c.argTypes.toList,as1 with
      | [t,u],[x,y]=>match P.underlying t,P.underlying u with
        | some (.slice e),some (.slice _)=>(P.info? e).bind fun i=>if 0 < i.size∧0 < i.bytes∧(i.zero.any fun z=>z.cells.size == i.size)=true then some (.app i.size i.bytes x y) else none
        | _,_=>none
      | _,_=>none
    | .builtin .copy =>
      match c.argTypes.toList,as1 with
      | [t,u],[x,y]=>match P.underlying t,P.underlying u with
        | some (.slice e),some (.slice _)=>(tsize P e).bind fun n=>if 0 < n then some (.copy n x y) else none
        | _,_=>none
      | _,_=>none
    | .builtin .min=>match as1 with | x :: ys=>some (.minmax false x ys) | []=>none
    | .builtin .max=>match as1 with | x :: ys=>some (.minmax true x ys) | []=>none
    | .builtin _=>none
  | _=>none
def compileOp (auto:Bool) (own rows:List Nat) (ops:Array Oper) (o:Oper):Option AOp :=
  (compileIns P auto own rows o).bind fun i =>
  match o.guard with
  | none=>some { dst:=o.dst,ins:=i }
  | some (j,b)=>(ops[j]?).bind fun q=>q.dst.bind fun r=>some { dst:=o.dst,ins:=i,guard:=some (r,b) }
def compileOps (auto:Bool) (own rows:List Nat) (ops:Array Oper):List Oper→Option (List AOp)
  | []=>some []
  | o :: os=>(compileOp P auto own rows ops o).bind fun a=>(compileOps auto own rows ops os).bind fun as1=>some (a :: as1)
end
def AOpd.reg:AOpd→List Nat
  | .r i=>[i]
  | .c _=>[]
def AIns.regs:AIns→List Nat
  | .own _ | .alloc _ | .mkmap _ | .alen _=>[]
  | .mov x | .box _ x | .load _ x | .chk x | .un _ x | .conv _ x | .off _ x | .fld _ _ x | .range x | .next x | .entry x | .ext _ x | .len _ x | .mlen x | .iface _ x | .panic x=>x.reg
  | .pick c a b=>c.reg ++ a.reg ++ b.reg
  | .build _ ps=>ps.flatMap fun p=>p.2.2.reg
  | .lit _ _ ps _ _=>ps.flatMap fun p=>p.2.reg
  | .store _ x v | .bin _ x v | .eqs _ _ x v | .iaddr _ _ x v | .aidx _ _ _ x v | .sidx x v | .look _ _ _ x v | .app _ _ x v | .copy _ x v | .mksl _ _ _ x v=>x.reg ++ v.reg
  | .slc _ x lo hi | .sslc x lo hi=>x.reg ++ (match lo with | some l=>l.reg | none=>[]) ++ (match hi with | some h=>h.reg | none=>[])
  | .mupd _ m k v=>m.reg ++ k.reg ++ v.reg
  | .mkfn _ cs=>cs.flatMap AOpd.reg
  | .minmax _ x ys=>x.reg ++ ys.flatMap AOpd.reg
  | .call _ as1=>as1.flatMap AOpd.reg
  | .callv x as1=>x.reg ++ as1.flatMap AOpd.reg
def AIns.reads:AIns→Bool
  | .load .. | .look .. | .mlen _ | .slc ..=>true
  | .iaddr _ arr _ _=>arr.isNone
  | _=>false
def AOp.names (o:AOp):List Nat:=o.ins.regs ++ (match o.guard with | some (r,_)=>[r] | none=>[])
def AIns.isAlloc:AIns→Bool
  | .alloc _=>true
  | _=>false
def opAt (as1:List AOp) (j:Nat):AOp:=as1.getD j { dst:=none,ins:=.mkmap ⟨false,[]⟩ }
def aheadB (b:Array Nat) (i j:Nat):Bool:=(b.getD j 0).testBit i
def loOf (b:Array Nat) (as1:List AOp) (j:Nat):Nat:=((List.range as1.length).filter fun e=>(opAt as1 e).ins.eff && aheadB b e j).length
def hiOf (b:Array Nat) (as1:List AOp) (j:Nat):Nat:=((List.range as1.length).filter fun e=>(opAt as1 e).ins.eff && !aheadB b j e).length
def floats (b:Array Nat) (as1:List AOp) (j:Nat):Bool:=(opAt as1 j).ins.isAlloc || ((opAt as1 j).ins.reads && !(loOf b as1 j == hiOf b as1 j))
def dstIn (d:Option Nat) (l:List Nat):Bool:=match d with
  | some d=>l.contains d
  | none=>false
def drawPair (b:Array Nat) (as1:List AOp) (i j:Nat):Bool :=
  (match (opAt as1 i).dst,(opAt as1 j).dst with | some d,some e=>d != e | _,_=>true) &&
  (!dstIn (opAt as1 i).dst (opAt as1 j).names || aheadB b i j) &&
  (!dstIn (opAt as1 j).dst (opAt as1 i).names || (aheadB b i j && !(opAt as1 j).ins.isAlloc && !floats b as1 i)) &&
  (!((opAt as1 i).ins.eff && (opAt as1 j).ins.eff) || aheadB b i j)
def drawSelf (b:Array Nat) (as1:List AOp) (j:Nat):Bool :=
  (match (opAt as1 j).ins with
  | .panic _ | .next _ | .range _ | .entry _=>false
  | .alloc z=>(opAt as1 j).guard.isNone && (opAt as1 j).dst.isSome && !z.isEmpty
  | .lit _ _ _ _ auto=>!auto
  | _=>true) && (!floats b as1 j || !dstIn (opAt as1 j).dst (opAt as1 j).names)
def drawEdges (b:Array Nat) (ops:Array Oper) (j:Nat):Bool:=match ops[j]? with
  | none=>false
  | some o=>o.after.all (fun e=>!Region.binds .any e || decide (e.on < j)) &&
    (List.range ops.size).all fun i=>!aheadB b i j || o.after.any fun e=>Region.binds .any e && (e.on == i || aheadB b i e.on)
def drawOK (b:Array Nat) (ops:Array Oper) (as1:List AOp):Bool :=
  (List.range as1.length).all fun j=>drawEdges b ops j && drawSelf b as1 j && (List.range j).all fun i=>drawPair b as1 i j
def drawChk (ops:Array Oper) (as1:List AOp):Option (List (Nat × Nat × Nat)) :=
  if drawOK (Region.before ops) ops as1 then
    some (((List.range as1.length).filter (floats (Region.before ops) as1)).map fun j=>(j,if (opAt as1 j).ins.isAlloc then 0 else loOf (Region.before ops) as1 j,hiOf (Region.before ops) as1 j))
  else none
def compile (P:Program) (own rows:List Nat):Code→Option ACode
  | .skip=>some .skip
  | .region _ ops draw=>(compileOps P (!draw) own rows ops ops.toList).bind fun as1 =>
      if draw then (drawChk ops as1).bind fun c=>some (.draw as1 c) else some (.reg as1)
  | .seq a b=>(compile P own rows a).bind fun x=>(compile P own rows b).bind fun y=>some (.seq x y)
  | .cond c t e=>(opd c).bind fun c=>(compile P own rows t).bind fun x=>(compile P own rows e).bind fun y=>some (.cond c x y)
  | .block id b=>(compile P own rows b).bind fun x=>some (.block id x)
  | .loop b=>(compile P own rows b).bind fun x=>some (.loop x)
  | .exit id=>some (.exit id)
  | .ret=>some .ret
  | .label _=>some .skip
  | .rangeFunc g ps assign body=>(opd g).bind fun g=>(compile P own rows assign).bind fun x=>(compile P own rows body).bind fun y=>some (.rangeF g ps.toList x y)
  | _=>none
def compileRes (P:Program):List ResultVar→List (Option Nat)→Option (List ARes)
  | [],_=>some []
  | .tmp t :: rs,fz=>(compileRes P rs fz.tail).bind fun l=>some ({ reg:=t,freeze:=fz.headD none } :: l)
  | .cell a t :: rs,fz=>(aggOf P t).bind fun g=>(compileRes P rs fz.tail).bind fun l=>some ({ reg:=a,cell:=some g,freeze:=fz.headD none } :: l)
def compileFn (P:Program) (own rows:List Nat) (fz:List (Option Nat)) (fn:Func):Option AFunc :=
  fn.body.bind fun c=>(compile P own rows c).bind fun b=>(compileRes P fn.results.toList fz).bind fun rs =>
  if fn.name == "runtime.NumGoroutine" then none else
  some { np:=fn.params.size + fn.nfree,ntmps:=fn.ntmps,results:=rs,body:=b }
end Go.Ai
end
section
namespace Go.Ai
open Go
structure Gh where
  blk:Nat→Option Nat
  siz:Nat→Nat
def Stable (G:Gh) (n:Nat) (w:World) (c:Nat):Prop:=c < w.heap.size∧∀ b,b < n→G.blk b ≠ some c
inductive PR (w:World) (S:Nat→Prop):AV→Value→Prop
  | int (k:IntKind) (n:Int):PR w S (.int k n) (.int k n)
  | bool (b:Bool):PR w S (.bool b) (.bool b)
  | str (s:ByteArray):PR w S (.str s) (.string s)
  | nilptr:PR w S .nilptr (.pointer none)
  | nilmap:PR w S .nilmap (.map none)
  | nilfn:PR w S .nilfn .nilFunc
  | nilIface:PR w S .nilIface .nilIface
  | undef:PR w S .undef (.tuple #[])
  | fn (f:FuncId):PR w S (.fn f []) (.func (.func f) #[] #[])
  | iface (t:TypeId) (x:AV) (u:Value) (h:PR w S x u):PR w S (.iface t x) (.iface t u)
  | agg (cs:List AV) (us:List Value) (hl:us.length=cs.length) (h:∀ (i:Nat) x u,cs[i]?=some x→us[i]?=some u→PR w S x u):PR w S (.agg cs) (.agg us.toArray)
  | slice0 (full:Bool) (sz:Nat) (a:Option Addr) (cap:Nat) (h:full=true→cap=0):PR w S (.slice full sz []) (.slice a 0 cap)
  | slice (full:Bool) (sz:Nat) (es:List (List AV)) (c off cap:Nat) (f:Nat→Nat→Value) (hne:es ≠ []) (hcap:es.length≤cap) (hfull:full=true→cap=es.length)
      (hS:S c) (hsz:0 < sz) (hlen:∀ e,e ∈ es→e.length=sz)
      (hc:∀ (i:Nat) e (j:Nat) x,es[i]?=some e→e[j]?=some x→w.cell? ⟨c,off + i * sz + j,none⟩=some (f i j))
      (hv:∀ (i:Nat) e (j:Nat) x,es[i]?=some e→e[j]?=some x→PR w S x (f i j)):PR w S (.slice full sz es) (.slice (some ⟨c,off,none⟩) es.length cap)
mutual
theorem under_mono {n m:Nat} (h:n≤m):∀ {x:AV},x.under n=true→x.under m=true
  | .int ..,_ | .bool _,_ | .str _,_ | .slice ..,_ | .vptr ..,_ | .nilptr,_ | .nilmap,_ | .nilfn,_ | .nilIface,_ | .undef,_=>rfl
  | .agg cs,hu=>by simp only [AV.under] at hu ⊢; exact underL_mono h hu
  | .tup cs,hu=>by simp only [AV.under] at hu ⊢; exact underL_mono h hu
  | .fn _ cs,hu=>by simp only [AV.under] at hu ⊢; exact underL_mono h hu
  | .iface _ v,hu=>by simp only [AV.under] at hu ⊢; exact under_mono h hu
  | .sref ..,hu | .ptr ..,hu | .map _,hu | .yield _,hu | .iter _,hu=>by simp only [AV.under,decide_eq_true_eq] at hu ⊢; omega
theorem underL_mono {n m:Nat} (h:n≤m):∀ {l:List AV},underL n l=true→underL m l=true
  | [],_=>rfl
  | a :: l,hu=>by simp only [underL,Bool.and_eq_true] at hu ⊢; exact ⟨under_mono h hu.1,underL_mono h hu.2⟩
end
def SR (G:Gh) (b off len ver sz:Nat) (a:Option Addr) (cap:Nat):Prop :=
  (G.blk b=none∧ver=0∧off=0∧len=0∧a=none∧cap=0) ∨
  (∃ c,G.blk b=some c∧a=some ⟨c,off,none⟩∧off + cap * sz=G.siz b∧len≤cap∧off + len * sz≤ver∧0 < sz)
inductive VR (G:Gh) (H:List AObj) (w:World):AV→Value→Prop
  | pure (x:AV) (u:Value) (h:PR w (Stable G H.length w) x u):VR G H w x u
  | agg (cs:List AV) (us:List Value) (hl:us.length=cs.length) (h:∀ (i:Nat) x u,cs[i]?=some x→us[i]?=some u→VR G H w x u):VR G H w (.agg cs) (.agg us.toArray)
  | tup (cs:List AV) (us:List Value) (hl:us.length=cs.length) (h:∀ (i:Nat) x u,cs[i]?=some x→us[i]?=some u→VR G H w x u):VR G H w (.tup cs) (.tuple us.toArray)
  | iface (t:TypeId) (x:AV) (u:Value) (h:VR G H w x u):VR G H w (.iface t x) (.iface t u)
  | fn (f:FuncId) (cs:List AV) (us:List Value) (hl:us.length=cs.length) (h:∀ (i:Nat) x u,cs[i]?=some x→us[i]?=some u→VR G H w x u) :
      VR G H w (.fn f cs) (.func (.func f) #[] us.toArray)
  | ptr (b off ver:Nat) (a:Addr) (hb:b < H.length) (hv:∀ cs,H[b]?=some (.cells cs)→ver≤cs.length)
      (h:∀ cs,H[b]?=some (.cells cs)→cs.length=ver→∃ c,G.blk b=some c∧a=⟨c,off,none⟩):VR G H w (.ptr b off ver) (.pointer (some a))
  | sref (b off len ver sz:Nat) (a:Option Addr) (cap:Nat) (hb:b < H.length) (hv:∀ cs,H[b]?=some (.cells cs)→ver≤cs.length)
      (h:∀ cs,H[b]?=some (.cells cs)→cs.length=ver→SR G b off len ver sz a cap):VR G H w (.sref b off len ver sz) (.slice a len cap)
  | vptr (cs:List AV) (off c o:Nat) (f:Nat→Value) (hS:Stable G H.length w c) (hc:∀ (j:Nat) x,cs[j]?=some x→w.cell? ⟨c,o + j,none⟩=some (f j))
      (hv:∀ (j:Nat) x,cs[j]?=some x→PR w (Stable G H.length w) x (f j)):VR G H w (.vptr cs off) (.pointer (some ⟨c,o + off,none⟩))
  | map (b c:Nat) (hb:b < H.length) (h:∀ t v es,H[b]?=some (.map t v es)→G.blk b=some c):VR G H w (.map b) (.map (some c))
  | yield (l c:Nat) (hb:l < H.length) (h:∀ ρ ps x y r j,H[l]?=some (.loop ρ ps x y r j)→G.blk l=some c):VR G H w (.yield l) (.func (.yield c) #[] #[])
  | iter (b c:Nat) (hb:b < H.length) (h:∀ m v r l,H[b]?=some (.iter m v r l)→G.blk b=some c):VR G H w (.iter b) (.pointer (some ⟨c,0,none⟩))
def entUnder (n:Nat) (p:AV × AV):Bool:=p.1.under n && p.2.under n
def jumpCode:Option Jump→Option Code
  | none=>none
  | some .ret=>some .ret
  | some (.exit id)=>some (.exit id)
def OR (P:Program) (G:Gh) (H:List AObj) (w:World) (b:Nat):AObj→Prop
  | .cells cs=>(G.blk b=none∧underL H.length cs=true)∨∃ c C e,G.blk b=some c∧w.heap[c]?=some (.cells C e (0,0))∧C.size=G.siz b∧cs.length≤C.size ∧
      ∀ (i:Nat) x,cs[i]?=some x→x.one=true∧∃ u,C[i]?=some u∧VR G H w x u
  | .map t _ es=>∃ c E clock,G.blk b=some c∧w.heap[c]?=some (.map E clock)∧E.size=es.length ∧
      (∀ (i:Nat) k v,es[i]?=some (k,v)→hasSh t k=true∧∃ e,E[i]?=some e∧VR G H w k e.key∧VR G H w v e.val) ∧
      (∀ (i:Nat) e,E[i]?=some e→e.born < clock)∧(∀ (i j:Nat) e e',E[i]?=some e→E[j]?=some e'→e.born=e'.born→i=j)
  | .iter m ver rest last=>rest.all (entUnder H.length)=true∧(∀ p,last=some p→entUnder H.length p=true)∧∃ c cm since seen stepped,G.blk b=some c∧w.heap[c]?=some (.mapIter (some cm) since seen stepped)∧m < H.length ∧
      (∀ t v es,H[m]?=some (.map t v es)→G.blk m=some cm∧ver≤v) ∧
      (∀ t es,H[m]?=some (.map t ver es)→∃ E,w.heap[cm]?=some (.map E since)∧stepped=since ∧
        (E.toList.filter fun e=>!seen.contains e.born).length=rest.length ∧
        (∀ (i:Nat) k v,rest[i]?=some (k,v)→∃ e,(E.toList.filter fun e=>!seen.contains e.born)[i]?=some e∧VR G H w k e.key∧VR G H w v e.val) ∧
        (∀ k v,last=some (k,v)→∃ s e,seen.back?=some s∧E.find? (·.born == s)=some e∧VR G H w k e.key∧VR G H w v e.val))
  | .loop ρ ps assign body ready jump=>∃ (c:Nat) (L:Loop),G.blk b=some c∧w.heap[c]?=some (.loop L)∧ps=L.params.toList ∧
      (∃ own rows,compile P own rows L.assign=some assign∧compile P own rows L.body=some body) ∧
      L.tmps.size=ρ.length∧(∀ (i:Nat) x,ρ[i]?=some x→∃ u,L.tmps[i]?=some u∧VR G H w x u) ∧
      (ready=true→L.state=.ready)∧(jump.isSome=true→L.state ≠ .busy)∧L.pending=jumpCode jump
structure R (P:Program) (G:Gh) (H:List AObj) (w:World):Prop where
  inj:∀ b b' c,b < H.length→b' < H.length→G.blk b=some c→G.blk b'=some c→b=b'
  lt:∀ b c,b < H.length→G.blk b=some c→c < w.heap.size
  obj:∀ b o,H[b]?=some o→OR P G H w b o
structure ExtW (G:Gh) (H:List AObj) (w:World) (G':Gh) (H':List AObj) (w':World):Prop where
  len:H.length≤H'.length
  os:w'.os=w.os
  tape:w'.tape=w.tape
  output:w'.output=w.output
  size:w.heap.size≤w'.heap.size
  stable:∀ c,Stable G H.length w c→Stable G' H'.length w' c∧w'.heap[c]?=w.heap[c]?
  cells:∀ b cs,H[b]?=some (.cells cs)→∃ cs',H'[b]?=some (.cells cs')∧cs.length≤cs'.length ∧
    (cs.length=cs'.length→(G'.blk b=G.blk b∧G'.siz b=G.siz b)∨(G.blk b=none∧0 < cs.length))
  map:∀ b t v es,H[b]?=some (.map t v es)→∃ v' es',H'[b]?=some (.map t v' es')∧G'.blk b=G.blk b∧v≤v' ∧
    (v'=v→es'=es∧∀ c,G.blk b=some c→w'.heap[c]?=w.heap[c]?)
  iter:∀ b m v r l,H[b]?=some (.iter m v r l)→∃ r' l',H'[b]?=some (.iter m v r' l')∧G'.blk b=G.blk b
  loop:∀ b ρ ps x y r j,H[b]?=some (.loop ρ ps x y r j)→∃ r' j',H'[b]?=some (.loop ρ ps x y r' j')∧G'.blk b=G.blk b
theorem ExtW.refl (G:Gh) (H:List AObj) (w:World):ExtW G H w G H w :=
  ⟨Nat.le_refl _,rfl,rfl,rfl,Nat.le_refl _,fun _ h=>⟨h,rfl⟩,fun _ cs h=>⟨cs,h,Nat.le_refl _,fun _=>.inl ⟨rfl,rfl⟩⟩,
    fun _ _ v es h=>⟨v,es,h,rfl,Nat.le_refl _,fun _=>⟨rfl,fun _ _=>rfl⟩⟩,fun _ _ _ r l h=>⟨r,l,h,rfl⟩,fun _ _ _ _ _ r j h=>⟨r,j,h,rfl⟩⟩
theorem ExtW.trans {G H w G1 H1 w1 G2 H2 w2} (a:ExtW G H w G1 H1 w1) (b:ExtW G1 H1 w1 G2 H2 w2):ExtW G H w G2 H2 w2 where
  len:=Nat.le_trans a.len b.len
  os:=b.os.trans a.os
  tape:=b.tape.trans a.tape
  output:=b.output.trans a.output
  size:=Nat.le_trans a.size b.size
  stable c h:=by
    obtain ⟨h1,e1⟩:=a.stable c h
    obtain ⟨h2,e2⟩:=b.stable c h1
    exact ⟨h2,e2.trans e1⟩
  cells x cs h:=by
    obtain ⟨c1,h1,l1,k1⟩:=a.cells x cs h
    obtain ⟨c2,h2,l2,k2⟩:=b.cells x c1 h1
    refine ⟨c2,h2,Nat.le_trans l1 l2,fun e=>?_⟩
    have e1:cs.length=c1.length:=by omega
    have e2:c1.length=c2.length:=by omega
    rcases k1 e1 with ⟨p1,p2⟩ | ⟨p1,p2⟩
    · rcases k2 e2 with ⟨q1,q2⟩ | ⟨q1,q2⟩
      · exact .inl ⟨q1.trans p1,q2.trans p2⟩
      · exact .inr ⟨p1 ▸ q1,by omega⟩
    · exact .inr ⟨p1,p2⟩
  map x t v es h:=by
    obtain ⟨v1,e1,h1,g1,l1,k1⟩:=a.map x t v es h
    obtain ⟨v2,e2,h2,g2,l2,k2⟩:=b.map x t v1 e1 h1
    refine ⟨v2,e2,h2,g2.trans g1,Nat.le_trans l1 l2,fun e=>?_⟩
    obtain ⟨r1,s1⟩:=k1 (by omega)
    obtain ⟨r2,s2⟩:=k2 (by omega)
    exact ⟨r2.trans r1,fun c hc=>(s2 c (g1 ▸ hc)).trans (s1 c hc)⟩
  iter x m v r l h:=by
    obtain ⟨r1,l1,h1,g1⟩:=a.iter x m v r l h
    obtain ⟨r2,l2,h2,g2⟩:=b.iter x m v r1 l1 h1
    exact ⟨r2,l2,h2,g2.trans g1⟩
  loop x ρ ps y z r j h:=by
    obtain ⟨r1,j1,h1,g1⟩:=a.loop x ρ ps y z r j h
    obtain ⟨r2,j2,h2,g2⟩:=b.loop x ρ ps y z r1 j1 h1
    exact ⟨r2,j2,h2,g2.trans g1⟩
theorem cell_heap {w w':World} {c o:Nat} (h:w'.heap[c]?=w.heap[c]?):w'.cell? ⟨c,o,none⟩=w.cell? ⟨c,o,none⟩:=World.cell?_of_block (a:=⟨c,o,none⟩) h
theorem PR.monoC {w w':World} {S S':Nat→Prop} (hS:∀ c,S c→S' c∧∀ o v,w.cell? ⟨c,o,none⟩=some v→w'.cell? ⟨c,o,none⟩=some v) {x:AV} {u:Value} (h:PR w S x u):PR w' S' x u:=by
  induction h with
  | int k n=>exact .int k n
  | bool b=>exact .bool b
  | str s=>exact .str s
  | nilptr=>exact .nilptr
  | nilmap=>exact .nilmap
  | nilfn=>exact .nilfn
  | nilIface=>exact .nilIface
  | undef=>exact .undef
  | fn f=>exact .fn f
  | iface t x u _ ih=>exact .iface t x u ih
  | agg cs us hl _ ih=>exact .agg cs us hl ih
  | slice0 full sz a cap h=>exact .slice0 full sz a cap h
  | slice full sz es c off cap f hne hcap hfull hs hsz hlen hc hv ih =>
    exact .slice full sz es c off cap f hne hcap hfull (hS c hs).1 hsz hlen (fun i e j x he hx=>(hS c hs).2 _ _ (hc i e j x he hx)) ih
theorem PR.mono {w w':World} {S S':Nat→Prop} (hS:∀ c,S c→S' c∧w'.heap[c]?=w.heap[c]?) {x:AV} {u:Value} (h:PR w S x u):PR w' S' x u :=
  h.monoC fun c hc=>⟨(hS c hc).1,fun _ _ hv=>(cell_heap (hS c hc).2).trans hv⟩
theorem ExtW.lt {G H w G' H' w'} (a:ExtW G H w G' H' w') {b:Nat} (h:b < H.length):b < H'.length:=Nat.lt_of_lt_of_le h a.len
theorem get_of_lt {α:Type} {l:List α} {i:Nat} (h:i < l.length):∃ x,l[i]?=some x:=⟨l[i],List.getElem?_eq_getElem h⟩
theorem lt_of_get {α:Type} {l:List α} {i:Nat} {x:α} (h:l[i]?=some x):i < l.length:=(List.getElem?_eq_some_iff.1 h).1
theorem ExtW.cells_back {G H w G' H' w'} (a:ExtW G H w G' H' w') {b:Nat} (hb:b < H.length) {cs':List AV} (h:H'[b]?=some (.cells cs')) :
    ∃ cs,H[b]?=some (.cells cs)∧cs.length≤cs'.length∧(cs.length=cs'.length→(G'.blk b=G.blk b∧G'.siz b=G.siz b)∨(G.blk b=none∧0 < cs.length)):=by
  obtain ⟨o,ho⟩:=get_of_lt hb
  cases o with
  | cells cs =>
    obtain ⟨c1,h1,l1,k1⟩:=a.cells b cs ho
    rw [h] at h1
    cases h1
    exact ⟨cs,ho,l1,k1⟩
  | map t v es=>obtain ⟨v',es',h1,_⟩:=a.map b t v es ho; rw [h] at h1; cases h1
  | iter m v r l=>obtain ⟨r',l',h1,_⟩:=a.iter b m v r l ho; rw [h] at h1; cases h1
  | loop ρ ps x y r j=>obtain ⟨r',j',h1,_⟩:=a.loop b ρ ps x y r j ho; rw [h] at h1; cases h1
theorem ExtW.map_back {G H w G' H' w'} (a:ExtW G H w G' H' w') {b:Nat} (hb:b < H.length) {t:Sh} {v':Nat} {es':List (AV × AV)} (h:H'[b]?=some (.map t v' es')) :
    ∃ v es,H[b]?=some (.map t v es)∧G'.blk b=G.blk b∧v≤v'∧(v'=v→es'=es∧∀ c,G.blk b=some c→w'.heap[c]?=w.heap[c]?):=by
  obtain ⟨o,ho⟩:=get_of_lt hb
  cases o with
  | cells cs=>obtain ⟨c1,h1,_⟩:=a.cells b cs ho; rw [h] at h1; cases h1
  | map t v es =>
    obtain ⟨v1,e1,h1,g1,l1,k1⟩:=a.map b t v es ho
    rw [h] at h1
    cases h1
    exact ⟨v,es,ho,g1,l1,k1⟩
  | iter m v r l=>obtain ⟨r',l',h1,_⟩:=a.iter b m v r l ho; rw [h] at h1; cases h1
  | loop ρ ps x y r j=>obtain ⟨r',j',h1,_⟩:=a.loop b ρ ps x y r j ho; rw [h] at h1; cases h1
theorem ExtW.iter_back {G H w G' H' w'} (a:ExtW G H w G' H' w') {b:Nat} (hb:b < H.length) {m v r l} (h:H'[b]?=some (.iter m v r l)) :
    ∃ r' l',H[b]?=some (.iter m v r' l')∧G'.blk b=G.blk b:=by
  obtain ⟨o,ho⟩:=get_of_lt hb
  cases o with
  | cells cs=>obtain ⟨c1,h1,_⟩:=a.cells b cs ho; rw [h] at h1; cases h1
  | map t v es=>obtain ⟨v',es',h1,_⟩:=a.map b t v es ho; rw [h] at h1; cases h1
  | iter m' v' r' l'=>obtain ⟨r1,l1,h1,g1⟩:=a.iter b m' v' r' l' ho; rw [h] at h1; cases h1; exact ⟨r',l',ho,g1⟩
  | loop ρ ps x y r j=>obtain ⟨r',j',h1,_⟩:=a.loop b ρ ps x y r j ho; rw [h] at h1; cases h1
theorem ExtW.loop_back {G H w G' H' w'} (a:ExtW G H w G' H' w') {b:Nat} (hb:b < H.length) {ρ ps x y r j} (h:H'[b]?=some (.loop ρ ps x y r j)) :
    ∃ r' j',H[b]?=some (.loop ρ ps x y r' j')∧G'.blk b=G.blk b:=by
  obtain ⟨o,ho⟩:=get_of_lt hb
  cases o with
  | cells cs=>obtain ⟨c1,h1,_⟩:=a.cells b cs ho; rw [h] at h1; cases h1
  | map t v es=>obtain ⟨v',es',h1,_⟩:=a.map b t v es ho; rw [h] at h1; cases h1
  | iter m' v' r' l'=>obtain ⟨r1,l1,h1,g1⟩:=a.iter b m' v' r' l' ho; rw [h] at h1; cases h1
  | loop ρ' ps' x' y' r' j'=>obtain ⟨r1,j1,h1,g1⟩:=a.loop b ρ' ps' x' y' r' j' ho; rw [h] at h1; cases h1; exact ⟨r',j',ho,g1⟩
structure Ext (G:Gh) (H:List AObj) (w:World) (G':Gh) (H':List AObj) (w':World):Prop extends ExtW G H w G' H' w' where
  kept:∀ b cs cs',H[b]?=some (.cells cs)→H'[b]?=some (.cells cs')→cs.length=cs'.length→G.blk b=none→G'.blk b=none
theorem Ext.refl (G:Gh) (H:List AObj) (w:World):Ext G H w G H w:=⟨ExtW.refl G H w,fun _ _ _ _ _ _ h=>h⟩
theorem Ext.trans {G H w G1 H1 w1 G2 H2 w2} (a:Ext G H w G1 H1 w1) (b:Ext G1 H1 w1 G2 H2 w2):Ext G H w G2 H2 w2 :=
  ⟨a.toExtW.trans b.toExtW,fun x cs cs2 h h2 e h0=>by
    obtain ⟨c1,h1,l1,_⟩:=a.cells x cs h
    obtain ⟨c2,h3,l2,_⟩:=b.cells x c1 h1
    rw [h2] at h3
    cases h3
    exact b.kept x c1 cs2 h1 h2 (by omega) (a.kept x cs c1 h h1 (by omega) h0)⟩
theorem Ext.lt {G H w G' H' w'} (a:Ext G H w G' H' w') {b:Nat} (h:b < H.length):b < H'.length:=a.toExtW.lt h
theorem VR.monoW {G H w G' H' w'} (a:ExtW G H w G' H' w') {x:AV} {u:Value} (h:VR G H w x u):VR G' H' w' x u:=by
  induction h with
  | pure x u h=>exact .pure x u (h.mono a.stable)
  | agg cs us hl _ ih=>exact .agg cs us hl ih
  | tup cs us hl _ ih=>exact .tup cs us hl ih
  | iface t x u _ ih=>exact .iface t x u ih
  | fn f cs us hl _ ih=>exact .fn f cs us hl ih
  | ptr b off ver ad hb hv h =>
    refine .ptr b off ver ad (a.lt hb) (fun cs' h'=>?_) (fun cs' h' e=>?_)
    · obtain ⟨cs,h1,l1,_⟩:=a.cells_back hb h'
      exact Nat.le_trans (hv cs h1) l1
    · obtain ⟨cs,h1,l1,k1⟩:=a.cells_back hb h'
      have:=hv cs h1
      have e1:cs.length=ver:=by omega
      obtain ⟨c,hc,hd⟩:=h cs h1 e1
      rcases k1 (by omega) with ⟨p,_⟩ | ⟨p,_⟩
      · exact ⟨c,p.trans hc,hd⟩
      · rw [p] at hc; cases hc
  | sref b off len ver sz ad cap hb hv h =>
    refine .sref b off len ver sz ad cap (a.lt hb) (fun cs' h'=>?_) (fun cs' h' e=>?_)
    · obtain ⟨cs,h1,l1,_⟩:=a.cells_back hb h'
      exact Nat.le_trans (hv cs h1) l1
    · obtain ⟨cs,h1,l1,k1⟩:=a.cells_back hb h'
      have:=hv cs h1
      have e1:cs.length=ver:=by omega
      rcases h cs h1 e1 with ⟨p0,p1,p2,p3,p4,p5⟩ | ⟨c,hc,q⟩
      · rcases k1 (by omega) with ⟨p,_⟩ | ⟨_,p⟩
        · exact .inl ⟨p.trans p0,p1,p2,p3,p4,p5⟩
        · omega
      · rcases k1 (by omega) with ⟨p,p'⟩ | ⟨p,_⟩
        · exact .inr ⟨c,p.trans hc,by rw [p']; exact q⟩
        · rw [p] at hc; cases hc
  | vptr cs off c o f hS hc hv =>
    obtain ⟨s1,s2⟩:=a.stable c hS
    exact .vptr cs off c o f s1 (fun j x hx=>(cell_heap s2).trans (hc j x hx)) (fun j x hx=>(hv j x hx).mono a.stable)
  | map b c hb h =>
    refine .map b c (a.lt hb) (fun t v es h'=>?_)
    obtain ⟨v0,e0,h0,g,_⟩:=a.map_back hb h'
    exact g.trans (h t v0 e0 h0)
  | yield l c hb h =>
    refine .yield l c (a.lt hb) (fun ρ ps x y r j h'=>?_)
    obtain ⟨r0,j0,h0,g⟩:=a.loop_back hb h'
    exact g.trans (h _ _ _ _ _ _ h0)
  | iter b c hb h =>
    refine .iter b c (a.lt hb) (fun m v r l h'=>?_)
    obtain ⟨r0,l0,h0,g⟩:=a.iter_back hb h'
    exact g.trans (h _ _ _ _ h0)
theorem entUnder_mono {n m:Nat} (h:n≤m) {p:AV × AV} (hu:entUnder n p=true):entUnder m p=true:=by
  simp only [entUnder,Bool.and_eq_true] at hu ⊢; exact ⟨under_mono h hu.1,under_mono h hu.2⟩
theorem OR.monoW {P G H w G' H' w'} (a:ExtW G H w G' H' w') {b:Nat} {o:AObj} (h:OR P G H w b o) (_hb:b < H.length) (hg:G'.blk b=G.blk b∧G'.siz b=G.siz b)
    (hw:∀ c,G.blk b=some c→w'.heap[c]?=w.heap[c]?):OR P G' H' w' b o:=by
  cases o with
  | cells cs =>
    rcases h with ⟨h,hu⟩ | ⟨c,C,e,h1,h2,h3,h4,h5⟩
    · exact .inl ⟨hg.1.trans h,underL_mono a.len hu⟩
    · refine .inr ⟨c,C,e,hg.1.trans h1,(hw c h1).trans h2,h3.trans hg.2.symm,h4,fun i x hx=>?_⟩
      obtain ⟨h6,u,h7,h8⟩:=h5 i x hx
      exact ⟨h6,u,h7,h8.monoW a⟩
  | map t v es =>
    obtain ⟨c,E,clock,h1,h2,h3,h4,h5,h6⟩:=h
    refine ⟨c,E,clock,hg.1.trans h1,(hw c h1).trans h2,h3,fun i k v hk=>?_,h5,h6⟩
    obtain ⟨q,e,q1,q2,q3⟩:=h4 i k v hk
    exact ⟨q,e,q1,q2.monoW a,q3.monoW a⟩
  | iter m ver rest last =>
    obtain ⟨hu1,hu2,c,cm,since,seen,stepped,h1,h2,h3,h4,h5⟩:=h
    refine ⟨List.all_eq_true.2 fun p hp=>entUnder_mono a.len (List.all_eq_true.1 hu1 p hp),fun p hp=>entUnder_mono a.len (hu2 p hp),c,cm,since,seen,stepped,hg.1.trans h1,(hw c h1).trans h2,a.lt h3,fun t v es hm=>?_,fun t es hm=>?_⟩
    · obtain ⟨v0,e0,h0,g,l,_⟩:=a.map_back h3 hm
      obtain ⟨q1,q2⟩:=h4 t v0 e0 h0
      exact ⟨g.trans q1,Nat.le_trans q2 l⟩
    · obtain ⟨v0,e0,h0,g,l,k⟩:=a.map_back h3 hm
      obtain ⟨q1,q2⟩:=h4 t v0 e0 h0
      obtain rfl:v0=ver:=by omega
      obtain ⟨rfl,k2⟩:=k rfl
      obtain ⟨E,r1,r2,r3,r4,r5⟩:=h5 t _ h0
      refine ⟨E,(k2 cm q1).trans r1,r2,r3,fun i k v hk=>?_,fun k v hk=>?_⟩
      · obtain ⟨e,s1,s2,s3⟩:=r4 i k v hk
        exact ⟨e,s1,s2.monoW a,s3.monoW a⟩
      · obtain ⟨s,e,s1,s2,s3,s4⟩:=r5 k v hk
        exact ⟨s,e,s1,s2,s3.monoW a,s4.monoW a⟩
  | loop ρ ps x y r j =>
    obtain ⟨c,L,h1,h2,h3,h4,h5,h6,h7⟩:=h
    refine ⟨c,L,hg.1.trans h1,(hw c h1).trans h2,h3,h4,h5,fun i x hx=>?_,h7⟩
    obtain ⟨u,q1,q2⟩:=h6 i x hx
    exact ⟨u,q1,q2.monoW a⟩
theorem VR.mono {G H w G' H' w'} (a:Ext G H w G' H' w') {x:AV} {u:Value} (h:VR G H w x u):VR G' H' w' x u:=h.monoW a.toExtW
theorem OR.mono {P G H w G' H' w'} (a:Ext G H w G' H' w') {b:Nat} {o:AObj} (h:OR P G H w b o) (hb:b < H.length) (hg:G'.blk b=G.blk b∧G'.siz b=G.siz b)
    (hw:∀ c,G.blk b=some c→w'.heap[c]?=w.heap[c]?):OR P G' H' w' b o:=h.monoW a.toExtW hb hg hw
theorem underL_all:∀ {n:Nat} {l:List AV},underL n l=true↔∀ x,x ∈ l→x.under n=true
  | n,[]=>by simp [underL]
  | n,a :: l=>by simp [underL,underL_all (l:=l)]
theorem underL_get {n:Nat} {l:List AV} (h:underL n l=true) {i:Nat} {x:AV} (hx:l[i]?=some x):x.under n=true:=underL_all.1 h x (List.mem_of_getElem? hx)
section
variable {G:Gh} {H:List AObj} {w:World}
theorem PR.under {S:Nat→Prop} {n:Nat} {x:AV} {u:Value} (h:PR w S x u):x.under n=true:=by
  induction h with
  | agg cs us hl _ ih =>
    simp only [AV.under]
    refine underL_all.2 fun x hx=>?_
    obtain ⟨i,hi⟩:=List.mem_iff_getElem?.1 hx
    obtain ⟨u,hu⟩:=get_of_lt (l:=us) (i:=i) (by rw [hl]; exact lt_of_get hi)
    exact ih i x u hi hu
  | iface t x u _ ih=>simpa [AV.under] using ih
  | fn f=>rfl
  | _=>rfl
theorem VR.under {x:AV} {u:Value} (h:VR G H w x u):x.under H.length=true:=by
  have lst:∀ (cs:List AV) (us:List Value),us.length=cs.length→(∀ (i:Nat) x u,cs[i]?=some x→us[i]?=some u→x.under H.length=true)→underL H.length cs=true:=by
    intro cs us hl ih
    refine underL_all.2 fun x hx=>?_
    obtain ⟨i,hi⟩:=List.mem_iff_getElem?.1 hx
    obtain ⟨u,hu⟩:=get_of_lt (l:=us) (i:=i) (by rw [hl]; exact lt_of_get hi)
    exact ih i x u hi hu
  induction h with
  | pure x u h=>exact h.under
  | agg cs us hl _ ih=>simpa [AV.under] using lst cs us hl ih
  | tup cs us hl _ ih=>simpa [AV.under] using lst cs us hl ih
  | iface t x u _ ih=>simpa [AV.under] using ih
  | fn f cs us hl _ ih=>simpa [AV.under] using lst cs us hl ih
  | ptr b off ver a hb=>simpa [AV.under] using hb
  | sref b off len ver sz a cap hb=>simpa [AV.under] using hb
  | vptr=>rfl
  | map b c hb=>simpa [AV.under] using hb
  | yield l c hb=>simpa [AV.under] using hb
  | iter b c hb=>simpa [AV.under] using hb
end
end Go.Ai
end
section
namespace Go.Ai
open Go
def Env (w w':World):Prop:=w'.os=w.os∧w'.tape=w.tape∧w'.output=w.output
def Gh.upd (G:Gh) (b:Nat) (c:Option Nat) (n:Nat):Gh:=⟨fun x=>if x=b then c else G.blk x,fun x=>if x=b then n else G.siz x⟩
@[simp] theorem Gh.upd_blk_same (G:Gh) (b:Nat) (c:Option Nat) (n:Nat):(G.upd b c n).blk b=c:=by simp [Gh.upd]
@[simp] theorem Gh.upd_siz_same (G:Gh) (b:Nat) (c:Option Nat) (n:Nat):(G.upd b c n).siz b=n:=by simp [Gh.upd]
theorem Gh.upd_blk_ne (G:Gh) (b:Nat) (c:Option Nat) (n:Nat) {x:Nat} (h:x ≠ b):(G.upd b c n).blk x=G.blk x:=by simp [Gh.upd,h]
theorem Gh.upd_siz_ne (G:Gh) (b:Nat) (c:Option Nat) (n:Nat) {x:Nat} (h:x ≠ b):(G.upd b c n).siz x=G.siz x:=by simp [Gh.upd,h]
theorem get_append_lt {α:Type} {l:List α} {x:α} {i:Nat} (h:i < l.length):(l ++ [x])[i]?=l[i]?:=List.getElem?_append_left h
theorem get_append_eq {α:Type} {l:List α} {x:α}:(l ++ [x])[l.length]?=some x:=by simp
theorem ExtW.push {P G H w} (hR:R P G H w) (o:AObj) (c:Option Nat) (n:Nat) {w':World} (he:Env w w') (hs:w.heap.size≤w'.heap.size)
    (hw:∀ k,k < w.heap.size→w'.heap[k]?=w.heap[k]?) (hc:∀ k,c=some k→k=w.heap.size):ExtW G H w (G.upd H.length c n) (H ++ [o]) w':=by
  have same:∀ b x,H[b]?=some x→(H ++ [o])[b]?=some x∧(G.upd H.length c n).blk b=G.blk b∧(G.upd H.length c n).siz b=G.siz b:=fun b x h =>
    have hb:=lt_of_get h
    ⟨by rw [get_append_lt hb]; exact h,Gh.upd_blk_ne _ _ _ _ (by omega),Gh.upd_siz_ne _ _ _ _ (by omega)⟩
  refine ⟨by simp,he.1,he.2.1,he.2.2,hs,fun k hk=>⟨⟨Nat.lt_of_lt_of_le hk.1 hs,fun b hb=>?_⟩,hw k hk.1⟩,fun b cs h=>?_,fun b t v es h=>?_,fun b m v r l h=>?_,fun b ρ ps x y r j h=>?_⟩
  · by_cases e:b=H.length
    · subst e
      rw [Gh.upd_blk_same]
      intro e2
      have:=hc k e2
      have:=hk.1
      omega
    · rw [Gh.upd_blk_ne _ _ _ _ e]
      exact hk.2 b (by simp at hb; omega)
  · obtain ⟨h1,h2,h3⟩:=same b _ h
    exact ⟨cs,h1,Nat.le_refl _,fun _=>.inl ⟨h2,h3⟩⟩
  · obtain ⟨h1,h2,h3⟩:=same b _ h
    exact ⟨v,es,h1,h2,Nat.le_refl _,fun _=>⟨rfl,fun k hk=>hw k (hR.lt b k (lt_of_get h) hk)⟩⟩
  · obtain ⟨h1,h2,h3⟩:=same b _ h
    exact ⟨r,l,h1,h2⟩
  · obtain ⟨h1,h2,h3⟩:=same b _ h
    exact ⟨r,j,h1,h2⟩
theorem Ext.push {P G H w} (hR:R P G H w) (o:AObj) (c:Option Nat) (n:Nat) {w':World} (he:Env w w') (hs:w.heap.size≤w'.heap.size)
    (hw:∀ k,k < w.heap.size→w'.heap[k]?=w.heap[k]?) (hc:∀ k,c=some k→k=w.heap.size):Ext G H w (G.upd H.length c n) (H ++ [o]) w' :=
  ⟨ExtW.push hR o c n he hs hw hc,fun b cs cs' h _ _ h0=>by rw [Gh.upd_blk_ne _ _ _ _ (Nat.ne_of_lt (lt_of_get h))]; exact h0⟩
theorem R.push {P G H w} (hR:R P G H w) (o:AObj) (c:Option Nat) (n:Nat) {w':World} (he:Env w w') (hs:w.heap.size≤w'.heap.size)
    (hw:∀ k,k < w.heap.size→w'.heap[k]?=w.heap[k]?) (hc:∀ k,c=some k→k=w.heap.size∧w.heap.size < w'.heap.size)
    (ho:OR P (G.upd H.length c n) (H ++ [o]) w' H.length o):R P (G.upd H.length c n) (H ++ [o]) w':=by
  have hx:=Ext.push hR o c n he hs hw (fun k hk=>(hc k hk).1)
  refine ⟨fun b b' k hb hb' h h'=>?_,fun b k hb h=>?_,fun b x h=>?_⟩
  · simp at hb hb'
    by_cases e:b=H.length <;> by_cases e':b'=H.length
    · omega
    · subst e
      rw [Gh.upd_blk_same] at h
      rw [Gh.upd_blk_ne _ _ _ _ e'] at h'
      have:=(hc k h).1
      have:=hR.lt b' k (by omega) h'
      omega
    · subst e'
      rw [Gh.upd_blk_same] at h'
      rw [Gh.upd_blk_ne _ _ _ _ e] at h
      have:=(hc k h').1
      have:=hR.lt b k (by omega) h
      omega
    · rw [Gh.upd_blk_ne _ _ _ _ e] at h
      rw [Gh.upd_blk_ne _ _ _ _ e'] at h'
      exact hR.inj b b' k (by omega) (by omega) h h'
  · simp at hb
    by_cases e:b=H.length
    · subst e
      rw [Gh.upd_blk_same] at h
      obtain ⟨h1,h2⟩:=hc k h
      omega
    · rw [Gh.upd_blk_ne _ _ _ _ e] at h
      exact Nat.lt_of_lt_of_le (hR.lt b k (by omega) h) hs
  · by_cases e:b=H.length
    · subst e
      rw [get_append_eq] at h
      cases h
      exact ho
    · have hb:b < H.length:=by have:=lt_of_get h; simp at this; omega
      rw [get_append_lt hb] at h
      exact (hR.obj b x h).mono hx hb ⟨Gh.upd_blk_ne _ _ _ _ e,Gh.upd_siz_ne _ _ _ _ e⟩ (fun k hk=>hw k (hR.lt b k hb hk))
def Turns:AObj→AObj→Prop
  | .cells cs,.cells cs'=>cs.length≤cs'.length
  | .map t v _,.map t' v' _=>t=t'∧v < v'
  | .iter m v _ _,.iter m' v' _ _=>m=m'∧v=v'
  | .loop ρ ps x y _ _,.loop ρ' ps' x' y' _ _=>ρ=ρ'∧ps=ps'∧x=x'∧y=y'
  | _,_=>False
theorem get_set_ne {α:Type} {l:List α} {i j:Nat} {x:α} (h:j ≠ i):(l.set i x)[j]?=l[j]?:=by
  rw [List.getElem?_set]; simp [Ne.symm h]
theorem get_set_eq {α:Type} {l:List α} {i:Nat} {x:α} (h:i < l.length):(l.set i x)[i]?=some x:=by
  simp [h]
theorem ExtW.turn {P G H w} (hR:R P G H w) {b c:Nat} {o o':AObj} (hb:H[b]?=some o) (hc:G.blk b=some c) (ht:Turns o o') {w':World} (he:Env w w')
    (hs:w'.heap.size=w.heap.size) (hw:∀ k,k ≠ c→w'.heap[k]?=w.heap[k]?):ExtW G H w G (H.set b o') w':=by
  have hbl:=lt_of_get hb
  have other:∀ x y,x ≠ b→H[x]?=some y→(H.set b o')[x]?=some y:=fun x y hx h=>by rw [get_set_ne hx]; exact h
  have at_:(H.set b o')[b]?=some o':=get_set_eq hbl
  refine ⟨by simp,he.1,he.2.1,he.2.2,by omega,fun k hk=>⟨⟨by have:=hk.1; omega,by simpa using hk.2⟩,hw k (fun e=>hk.2 b hbl (e ▸ hc))⟩,fun x cs h=>?_,fun x t v es h=>?_,fun x m v r l h=>?_,fun x ρ ps y z r j h=>?_⟩
  · by_cases e:x=b
    · subst e
      rw [h] at hb; cases hb
      cases o' with
      | cells cs'=>exact ⟨cs',at_,ht,fun _=>.inl ⟨rfl,rfl⟩⟩
      | _=>exact ht.elim
    · exact ⟨cs,other x _ e h,Nat.le_refl _,fun _=>.inl ⟨rfl,rfl⟩⟩
  · by_cases e:x=b
    · subst e
      rw [h] at hb; cases hb
      cases o' with
      | map t' v' es' =>
        obtain ⟨rfl,ht⟩:=ht
        exact ⟨v',es',at_,rfl,Nat.le_of_lt ht,fun q=>absurd ht (by omega)⟩
      | _=>exact ht.elim
    · exact ⟨v,es,other x _ e h,rfl,Nat.le_refl _,fun _=>⟨rfl,fun k hk=>hw k (fun q=>e (hR.inj x b c (lt_of_get h) hbl (q ▸ hk) hc))⟩⟩
  · by_cases e:x=b
    · subst e
      rw [h] at hb; cases hb
      cases o' with
      | iter m' v' r' l'=>obtain ⟨rfl,rfl⟩:=ht; exact ⟨r',l',at_,rfl⟩
      | _=>exact ht.elim
    · exact ⟨r,l,other x _ e h,rfl⟩
  · by_cases e:x=b
    · subst e
      rw [h] at hb; cases hb
      cases o' with
      | loop ρ' ps' y' z' r' j'=>obtain ⟨rfl,rfl,rfl,rfl⟩:=ht; exact ⟨r',j',at_,rfl⟩
      | _=>exact ht.elim
    · exact ⟨r,j,other x _ e h,rfl⟩
theorem Ext.turn {P G H w} (hR:R P G H w) {b c:Nat} {o o':AObj} (hb:H[b]?=some o) (hc:G.blk b=some c) (ht:Turns o o') {w':World} (he:Env w w')
    (hs:w'.heap.size=w.heap.size) (hw:∀ k,k ≠ c→w'.heap[k]?=w.heap[k]?):Ext G H w G (H.set b o') w' :=
  ⟨ExtW.turn hR hb hc ht he hs hw,fun _ _ _ _ _ _ h=>h⟩
theorem R.turn {P G H w} (hR:R P G H w) {b c:Nat} {o o':AObj} (hb:H[b]?=some o) (hc:G.blk b=some c) (ht:Turns o o') {w':World} (he:Env w w')
    (hs:w'.heap.size=w.heap.size) (hw:∀ k,k ≠ c→w'.heap[k]?=w.heap[k]?) (ho:OR P G (H.set b o') w' b o'):R P G (H.set b o') w':=by
  have hx:=Ext.turn hR hb hc ht he hs hw
  have hbl:=lt_of_get hb
  refine ⟨fun x y k hx hy=>hR.inj x y k (by simpa using hx) (by simpa using hy),fun x k hk h=>by rw [hs]; exact hR.lt x k (by simpa using hk) h,fun x y h=>?_⟩
  by_cases e:x=b
  · subst e
    rw [get_set_eq hbl] at h
    cases h
    exact ho
  · rw [get_set_ne e] at h
    exact (hR.obj x y h).mono hx (lt_of_get h) ⟨rfl,rfl⟩ (fun k hk=>hw k (fun q=>e (hR.inj x b c (lt_of_get h) hbl (q ▸ hk) hc)))
theorem ExtW.move {P G H w} (hR:R P G H w) {b:Nat} {cs cs':List AV} (hb:H[b]?=some (.cells cs)) (hl:cs.length < cs'.length) (n:Nat) {w':World} (he:Env w w')
    (hs:w.heap.size≤w'.heap.size) (hw:∀ k,k < w.heap.size→w'.heap[k]?=w.heap[k]?):ExtW G H w (G.upd b (some w.heap.size) n) (H.set b (.cells cs')) w':=by
  have hbl:=lt_of_get hb
  have other:∀ x y,x ≠ b→H[x]?=some y→(H.set b (.cells cs'))[x]?=some y∧(G.upd b (some w.heap.size) n).blk x=G.blk x∧(G.upd b (some w.heap.size) n).siz x=G.siz x :=
    fun x y hx h=>⟨by rw [get_set_ne hx]; exact h,Gh.upd_blk_ne _ _ _ _ hx,Gh.upd_siz_ne _ _ _ _ hx⟩
  have at_:(H.set b (.cells cs'))[b]?=some (.cells cs'):=get_set_eq hbl
  refine ⟨by simp,he.1,he.2.1,he.2.2,hs,fun k hk=>⟨⟨by have:=hk.1; omega,fun x hx=>?_⟩,hw k hk.1⟩,fun x c0 h=>?_,fun x t v es h=>?_,fun x m v r l h=>?_,fun x ρ ps y z r j h=>?_⟩
  · by_cases e:x=b
    · subst e
      rw [Gh.upd_blk_same]
      intro e2
      cases e2
      exact absurd hk.1 (Nat.lt_irrefl _)
    · rw [Gh.upd_blk_ne _ _ _ _ e]
      exact hk.2 x (by simpa using hx)
  · by_cases e:x=b
    · subst e
      rw [h] at hb; cases hb
      exact ⟨cs',at_,by omega,fun q=>by omega⟩
    · obtain ⟨h1,h2,h3⟩:=other x _ e h
      exact ⟨c0,h1,Nat.le_refl _,fun _=>.inl ⟨h2,h3⟩⟩
  · by_cases e:x=b
    · subst e; rw [h] at hb; cases hb
    · obtain ⟨h1,h2,h3⟩:=other x _ e h
      exact ⟨v,es,h1,h2,Nat.le_refl _,fun _=>⟨rfl,fun k hk=>hw k (hR.lt x k (lt_of_get h) hk)⟩⟩
  · by_cases e:x=b
    · subst e; rw [h] at hb; cases hb
    · obtain ⟨h1,h2,h3⟩:=other x _ e h
      exact ⟨r,l,h1,h2⟩
  · by_cases e:x=b
    · subst e; rw [h] at hb; cases hb
    · obtain ⟨h1,h2,h3⟩:=other x _ e h
      exact ⟨r,j,h1,h2⟩
theorem Ext.move {P G H w} (hR:R P G H w) {b:Nat} {cs cs':List AV} (hb:H[b]?=some (.cells cs)) (hl:cs.length < cs'.length) (n:Nat) {w':World} (he:Env w w')
    (hs:w.heap.size≤w'.heap.size) (hw:∀ k,k < w.heap.size→w'.heap[k]?=w.heap[k]?):Ext G H w (G.upd b (some w.heap.size) n) (H.set b (.cells cs')) w' :=
  ⟨ExtW.move hR hb hl n he hs hw,fun x c0 c1 h h1 e h0=>by
    by_cases q:x=b
    · subst q
      rw [get_set_eq (lt_of_get hb)] at h1
      cases h1
      rw [h] at hb
      cases hb
      omega
    · rw [Gh.upd_blk_ne _ _ _ _ q]; exact h0⟩
theorem R.move {P G H w} (hR:R P G H w) {b:Nat} {cs cs':List AV} (hb:H[b]?=some (.cells cs)) (hl:cs.length < cs'.length) (n:Nat) {w':World} (he:Env w w')
    (hs:w.heap.size < w'.heap.size) (hw:∀ k,k < w.heap.size→w'.heap[k]?=w.heap[k]?)
    (ho:OR P (G.upd b (some w.heap.size) n) (H.set b (.cells cs')) w' b (.cells cs')):R P (G.upd b (some w.heap.size) n) (H.set b (.cells cs')) w':=by
  have hx:=Ext.move hR hb hl n he (Nat.le_of_lt hs) hw
  have hbl:=lt_of_get hb
  refine ⟨fun x y k hlx hy h h'=>?_,fun x k hk h=>?_,fun x y h=>?_⟩
  · simp at hlx hy
    by_cases e:x=b <;> by_cases e':y=b
    · omega
    · subst e
      rw [Gh.upd_blk_same] at h
      rw [Gh.upd_blk_ne _ _ _ _ e'] at h'
      cases h
      exact absurd (hR.lt y _ hy h') (Nat.lt_irrefl _)
    · subst e'
      rw [Gh.upd_blk_same] at h'
      rw [Gh.upd_blk_ne _ _ _ _ e] at h
      cases h'
      exact absurd (hR.lt x _ hlx h) (Nat.lt_irrefl _)
    · rw [Gh.upd_blk_ne _ _ _ _ e] at h
      rw [Gh.upd_blk_ne _ _ _ _ e'] at h'
      exact hR.inj x y k hlx hy h h'
  · simp at hk
    by_cases e:x=b
    · subst e
      rw [Gh.upd_blk_same] at h
      cases h
      exact hs
    · rw [Gh.upd_blk_ne _ _ _ _ e] at h
      exact Nat.lt_trans (hR.lt x k hk h) hs
  · by_cases e:x=b
    · subst e
      rw [get_set_eq hbl] at h
      cases h
      exact ho
    · rw [get_set_ne e] at h
      exact (hR.obj x y h).mono hx (lt_of_get h) ⟨Gh.upd_blk_ne _ _ _ _ e,Gh.upd_siz_ne _ _ _ _ e⟩ (fun k hk=>hw k (hR.lt x k (lt_of_get h) hk))
theorem ExtW.lay {P G H w} (hR:R P G H w) {b:Nat} {cs:List AV} (hb:H[b]?=some (.cells cs)) (h0:G.blk b=none) (hne:0 < cs.length) (n:Nat) {w':World} (he:Env w w')
    (hs:w.heap.size≤w'.heap.size) (hw:∀ k,k < w.heap.size→w'.heap[k]?=w.heap[k]?):ExtW G H w (G.upd b (some w.heap.size) n) H w':=by
  have hbl:=lt_of_get hb
  have other:∀ x,x ≠ b→(G.upd b (some w.heap.size) n).blk x=G.blk x∧(G.upd b (some w.heap.size) n).siz x=G.siz x :=
    fun x hx=>⟨Gh.upd_blk_ne _ _ _ _ hx,Gh.upd_siz_ne _ _ _ _ hx⟩
  refine ⟨Nat.le_refl _,he.1,he.2.1,he.2.2,hs,fun k hk=>⟨⟨by have:=hk.1; omega,fun x hx=>?_⟩,hw k hk.1⟩,fun x c0 h=>?_,fun x t v es h=>?_,fun x m v r l h=>?_,fun x ρ ps y z r j h=>?_⟩
  · by_cases e:x=b
    · subst e
      rw [Gh.upd_blk_same]
      intro e2
      cases e2
      exact absurd hk.1 (Nat.lt_irrefl _)
    · rw [Gh.upd_blk_ne _ _ _ _ e]
      exact hk.2 x hx
  · by_cases e:x=b
    · subst e
      rw [h] at hb; cases hb
      exact ⟨_,h,Nat.le_refl _,fun _=>.inr ⟨h0,hne⟩⟩
    · obtain ⟨h2,h3⟩:=other x e
      exact ⟨c0,h,Nat.le_refl _,fun _=>.inl ⟨h2,h3⟩⟩
  · by_cases e:x=b
    · subst e; rw [h] at hb; cases hb
    · exact ⟨v,es,h,(other x e).1,Nat.le_refl _,fun _=>⟨rfl,fun k hk=>hw k (hR.lt x k (lt_of_get h) hk)⟩⟩
  · by_cases e:x=b
    · subst e; rw [h] at hb; cases hb
    · exact ⟨r,l,h,(other x e).1⟩
  · by_cases e:x=b
    · subst e; rw [h] at hb; cases hb
    · exact ⟨r,j,h,(other x e).1⟩
theorem R.lay {P G H w} (hR:R P G H w) {b:Nat} {cs:List AV} (hb:H[b]?=some (.cells cs)) (h0:G.blk b=none) (hne:0 < cs.length) (n:Nat) {w':World} (he:Env w w')
    (hs:w.heap.size < w'.heap.size) (hw:∀ k,k < w.heap.size→w'.heap[k]?=w.heap[k]?)
    (ho:OR P (G.upd b (some w.heap.size) n) H w' b (.cells cs)):R P (G.upd b (some w.heap.size) n) H w':=by
  have hx:=ExtW.lay hR hb h0 hne n he (Nat.le_of_lt hs) hw
  refine ⟨fun x y k hlx hy h h'=>?_,fun x k hk h=>?_,fun x y h=>?_⟩
  · by_cases e:x=b <;> by_cases e':y=b
    · omega
    · subst e
      rw [Gh.upd_blk_same] at h
      rw [Gh.upd_blk_ne _ _ _ _ e'] at h'
      cases h
      exact absurd (hR.lt y _ hy h') (Nat.lt_irrefl _)
    · subst e'
      rw [Gh.upd_blk_same] at h'
      rw [Gh.upd_blk_ne _ _ _ _ e] at h
      cases h'
      exact absurd (hR.lt x _ hlx h) (Nat.lt_irrefl _)
    · rw [Gh.upd_blk_ne _ _ _ _ e] at h
      rw [Gh.upd_blk_ne _ _ _ _ e'] at h'
      exact hR.inj x y k hlx hy h h'
  · by_cases e:x=b
    · subst e
      rw [Gh.upd_blk_same] at h
      cases h
      exact hs
    · rw [Gh.upd_blk_ne _ _ _ _ e] at h
      exact Nat.lt_trans (hR.lt x k hk h) hs
  · by_cases e:x=b
    · subst e
      rw [hb] at h
      cases h
      exact ho
    · exact (hR.obj x y h).monoW hx (lt_of_get h) ⟨Gh.upd_blk_ne _ _ _ _ e,Gh.upd_siz_ne _ _ _ _ e⟩ (fun k hk=>hw k (hR.lt x k (lt_of_get h) hk))
theorem ExtW.same {G H w} {w':World} (he:Env w w') (hh:w'.heap=w.heap):ExtW G H w G H w' :=
  ⟨Nat.le_refl _,he.1,he.2.1,he.2.2,by rw [hh]; exact Nat.le_refl _,fun k hk=>⟨⟨by rw [hh]; exact hk.1,hk.2⟩,by rw [hh]⟩,fun _ cs h=>⟨cs,h,Nat.le_refl _,fun _=>.inl ⟨rfl,rfl⟩⟩,
    fun _ _ v es h=>⟨v,es,h,rfl,Nat.le_refl _,fun _=>⟨rfl,fun _ _=>by rw [hh]⟩⟩,fun _ _ _ r l h=>⟨r,l,h,rfl⟩,fun _ _ _ _ _ r j h=>⟨r,j,h,rfl⟩⟩
theorem Ext.same {G H w} {w':World} (he:Env w w') (hh:w'.heap=w.heap):Ext G H w G H w' :=
  ⟨ExtW.same he hh,fun _ _ _ _ _ _ h=>h⟩
theorem R.same {P G H w} (hR:R P G H w) {w':World} (he:Env w w') (hh:w'.heap=w.heap):R P G H w' :=
  ⟨hR.inj,fun b c hb h=>by rw [hh]; exact hR.lt b c hb h,fun b o h=>(hR.obj b o h).mono (Ext.same he hh) (lt_of_get h) ⟨rfl,rfl⟩ (fun _ _=>by rw [hh])⟩
end Go.Ai
end
section
namespace Go.Ai
open Go
theorem addr_add (c off n:Nat):(⟨c,off,none⟩:Addr).add n=⟨c,off + n,none⟩:=by
  unfold Addr.add; split
  · next h=>subst h; rfl
  · rfl
def RR (G:Gh) (H:List AObj) (w:World) (ρ:Regs) (tmps:Array Value):Prop :=
  tmps.size=ρ.length∧∀ (i:Nat) x,ρ[i]?=some x→∃ u,tmps[i]?=some u∧VR G H w x u
def LR (G:Gh) (H:List AObj) (w:World) (xs:List AV) (us:List Value):Prop :=
  us.length=xs.length∧∀ (i:Nat) x u,xs[i]?=some x→us[i]?=some u→VR G H w x u
theorem RR.mono {G H w G' H' w'} (a:Ext G H w G' H' w') {ρ:Regs} {t:Array Value} (h:RR G H w ρ t):RR G' H' w' ρ t :=
  ⟨h.1,fun i x hx=>let ⟨u,h1,h2⟩:=h.2 i x hx; ⟨u,h1,h2.mono a⟩⟩
theorem LR.mono {G H w G' H' w'} (a:Ext G H w G' H' w') {ρ:List AV} {t:List Value} (h:LR G H w ρ t):LR G' H' w' ρ t :=
  ⟨h.1,fun i x u hx hu=>(h.2 i x u hx hu).mono a⟩
theorem LR.nil {G H w}:LR G H w [] []:=⟨rfl,fun i x u hx _=>by simp at hx⟩
theorem LR.cons {G H w} {x:AV} {u:Value} {xs:List AV} {us:List Value} (h:VR G H w x u) (hs:LR G H w xs us):LR G H w (x :: xs) (u :: us):=by
  refine ⟨by simp [hs.1],fun i y v hy hv=>?_⟩
  cases i with
  | zero=>simp at hy hv; subst hy; subst hv; exact h
  | succ i=>simp at hy hv; exact hs.2 i y v hy hv
theorem LR.append {G H w} {xs ys:List AV} {us vs:List Value} (h:LR G H w xs us) (k:LR G H w ys vs):LR G H w (xs ++ ys) (us ++ vs):=by
  refine ⟨by simp [h.1,k.1],fun i y v hy hv=>?_⟩
  by_cases hi:i < xs.length
  · rw [List.getElem?_append_left hi] at hy
    rw [List.getElem?_append_left (by rw [h.1]; exact hi)] at hv
    exact h.2 i y v hy hv
  · rw [List.getElem?_append_right (by omega)] at hy
    rw [List.getElem?_append_right (by rw [h.1]; omega),h.1] at hv
    exact k.2 _ y v hy hv
theorem LR.take {G H w} {xs:List AV} {us:List Value} (h:LR G H w xs us) (n:Nat):LR G H w (xs.take n) (us.take n):=by
  refine ⟨by simp [h.1],fun i y v hy hv=>?_⟩
  rw [List.getElem?_take] at hy hv
  split at hy
  · rename_i hi
    rw [if_pos hi] at hv
    exact h.2 i y v hy hv
  · cases hy
theorem LR.drop {G H w} {xs:List AV} {us:List Value} (h:LR G H w xs us) (n:Nat):LR G H w (xs.drop n) (us.drop n):=by
  refine ⟨by simp [h.1],fun i y v hy hv=>?_⟩
  rw [List.getElem?_drop] at hy hv
  exact h.2 _ y v hy hv
theorem LR.get {G H w} {xs:List AV} {us:List Value} (h:LR G H w xs us) {i:Nat} {x:AV} (hx:xs[i]?=some x):∃ u,us[i]?=some u∧VR G H w x u:=by
  obtain ⟨u,hu⟩:=get_of_lt (l:=us) (i:=i) (by rw [h.1]; exact lt_of_get hx)
  exact ⟨u,hu,h.2 i x u hx hu⟩
theorem RR.ofLR {G H w} {xs:List AV} {us:List Value} (h:LR G H w xs us):RR G H w xs us.toArray :=
  ⟨by simp [h.1],fun i x hx=>by obtain ⟨u,h1,h2⟩:=h.get hx; exact ⟨u,by simpa using h1,h2⟩⟩
theorem VR.undef' {G H w}:VR G H w .undef undef:=.pure _ _ .undef
theorem ofVal1_PR {w:World} {S:Nat→Prop} {v:Value} {x:AV} (h:ofVal1 v=some x):PR w S x v:=by
  unfold ofVal1 at h
  split at h <;> first | cases h | skip
  · exact .int _ _
  · exact .bool _
  · exact .str _
  · exact .nilptr
  · exact .slice0 true 0 none 0 (fun _=>rfl)
  · exact .nilmap
  · exact .nilfn
  · exact .nilIface
theorem ofVals1_PR {w:World} {S:Nat→Prop}:∀ {vs:List Value} {xs:List AV},ofVals1 vs=some xs→vs.length=xs.length∧∀ (i:Nat) x u,xs[i]?=some x→vs[i]?=some u→PR w S x u
  | [],xs,h=>by simp [ofVals1] at h; subst h; exact ⟨rfl,fun i x u hx _=>by simp at hx⟩
  | v :: vs,xs,h=>by
    simp only [ofVals1,Option.bind_eq_some_iff] at h
    obtain ⟨x,hx,ys,hys,h⟩:=h
    cases h
    have ih:=ofVals1_PR (w:=w) (S:=S) hys
    refine ⟨by simp [ih.1],fun i y u hy hu=>?_⟩
    cases i with
    | zero=>simp at hy hu; subst hy; subst hu; exact ofVal1_PR hx
    | succ i=>simp at hy hu; exact ih.2 i y u hy hu
theorem ofVal_PR {w:World} {S:Nat→Prop} {v:Value} {x:AV} (h:ofVal v=some x):PR w S x v:=by
  unfold ofVal at h
  split at h
  · rename_i cs
    simp only [Option.bind_eq_some_iff] at h
    obtain ⟨xs,hxs,h⟩:=h
    cases h
    have:=ofVals1_PR (w:=w) (S:=S) hxs
    have e:=PR.agg (w:=w) (S:=S) xs cs.toList this.1 this.2
    simpa using e
  · rename_i cs
    split at h
    · rename_i h0
      cases h
      have:cs=#[]:=Array.eq_empty_of_size_eq_zero h0
      subst this
      exact .undef
    · cases h
  · exact ofVal1_PR h
theorem getD_VR {G H w} {ρ:Regs} {t:Array Value} (hr:RR G H w ρ t) (i:Nat):VR G H w (ρ.getD i .undef) (t.getD i undef):=by
  by_cases hi:i < ρ.length
  · obtain ⟨x,hx⟩:=get_of_lt hi
    obtain ⟨u,hu,hv⟩:=hr.2 i x hx
    rw [List.getD_eq_getElem?_getD,hx,Array.getD_eq_getD_getElem?,hu]
    exact hv
  · rw [List.getD_eq_getElem?_getD,List.getElem?_eq_none (by omega),Array.getD_eq_getD_getElem?,Array.getElem?_eq_none (by rw [hr.1]; omega)]
    exact VR.undef'
theorem opd_VR {G H w} {ρ:Regs} {a:Act} (hr:RR G H w ρ a.tmps) {o:Operand} {y:AOpd} (h:opd o=some y):VR G H w (y.ev ρ) (a.eval o):=by
  cases o with
  | tmp t=>simp [opd] at h; subst h; exact getD_VR hr t
  | const v =>
    simp only [opd,Option.bind_eq_some_iff] at h
    obtain ⟨x,hx,h⟩:=h
    cases h
    exact .pure _ _ (ofVal_PR hx)
  | global g=>simp [opd] at h
  | func f=>simp [opd] at h; subst h; exact .pure _ _ (.fn f)
theorem opds_LR {G H w} {ρ:Regs} {a:Act} (hr:RR G H w ρ a.tmps):∀ {os:List Operand} {ys:List AOpd},opds os=some ys→LR G H w (ys.map (·.ev ρ)) (os.map a.eval)
  | [],ys,h=>by simp [opds] at h; subst h; exact LR.nil
  | o :: os,ys,h=>by
    simp only [opds,Option.bind_eq_some_iff] at h
    obtain ⟨y,hy,zs,hzs,h⟩:=h
    cases h
    exact LR.cons (opd_VR hr hy) (opds_LR hr hzs)
theorem put_RR {G H w} {ρ:Regs} {a:Act} (hr:RR G H w ρ a.tmps) (d:Option Nat) {v:AV} {u:Value} (hv:VR G H w v u):RR G H w (put ρ d v) (a.put d u).tmps:=by
  cases d with
  | none=>exact hr
  | some d =>
    refine ⟨by simp [Act.put,put,hr.1],fun i x hx=>?_⟩
    simp only [put,List.getElem?_set] at hx
    simp only [Act.put]
    by_cases e:d=i
    · subst e
      rw [if_pos rfl] at hx
      split at hx
      · rename_i hl
        cases hx
        refine ⟨u,?_,hv⟩
        rw [Array.getElem?_setIfInBounds_self_of_lt (by rw [hr.1]; exact hl)]
      · cases hx
    · rw [if_neg e] at hx
      obtain ⟨z,h1,h2⟩:=hr.2 i x hx
      exact ⟨z,by rw [Array.getElem?_setIfInBounds_ne e]; exact h1,h2⟩
section
variable {G:Gh} {H:List AObj} {w:World}
theorem VR.int_inv {k:IntKind} {n:Int} {u:Value} (h:VR G H w (.int k n) u):u=.int k n:=by
  cases h with | pure _ _ h=>cases h; rfl
theorem VR.bool_inv {b:Bool} {u:Value} (h:VR G H w (.bool b) u):u=.bool b:=by
  cases h with | pure _ _ h=>cases h; rfl
theorem VR.str_inv {s:ByteArray} {u:Value} (h:VR G H w (.str s) u):u=.string s:=by
  cases h with | pure _ _ h=>cases h; rfl
theorem VR.agg_inv {cs:List AV} {u:Value} (h:VR G H w (.agg cs) u):∃ us,u=.agg us.toArray∧LR G H w cs us:=by
  cases h with
  | pure _ _ h=>cases h with | agg _ us hl h=>exact ⟨us,rfl,hl,fun i x u hx hu=>.pure _ _ (h i x u hx hu)⟩
  | agg _ us hl h=>exact ⟨us,rfl,hl,h⟩
theorem VR.tup_inv {cs:List AV} {u:Value} (h:VR G H w (.tup cs) u):∃ us,u=.tuple us.toArray∧LR G H w cs us:=by
  cases h with
  | pure _ _ h=>cases h
  | tup _ us hl h=>exact ⟨us,rfl,hl,h⟩
theorem VR.fn_inv {f:FuncId} {cs:List AV} {u:Value} (h:VR G H w (.fn f cs) u):∃ us,u=.func (.func f) #[] us.toArray∧LR G H w cs us:=by
  cases h with
  | pure _ _ h=>cases h; exact ⟨[],rfl,LR.nil⟩
  | fn _ _ us hl h=>exact ⟨us,rfl,hl,h⟩
theorem VR.iface_inv {t:TypeId} {x:AV} {u:Value} (h:VR G H w (.iface t x) u):∃ v,u=.iface t v∧VR G H w x v:=by
  cases h with
  | pure _ _ h=>cases h with | iface _ _ v h=>exact ⟨v,rfl,.pure _ _ h⟩
  | iface _ _ v h=>exact ⟨v,rfl,h⟩
theorem cells_of_not_agg {x:AV} (h:∀ cs,x ≠ .agg cs):x.cells=[x]:=by cases x <;> first | rfl | exact absurd rfl (h _)
theorem VR.not_agg {x:AV} {u:Value} (h:VR G H w x u) (hx:∀ cs,x ≠ .agg cs):u.cells=#[u]:=by
  cases h with
  | pure _ _ h=>cases h <;> first | rfl | exact absurd rfl (hx _)
  | agg=>exact absurd rfl (hx _)
  | _=>rfl
theorem VR.cells {x:AV} {u:Value} (h:VR G H w x u):LR G H w x.cells u.cells.toList:=by
  by_cases hx:∃ cs,x=.agg cs
  · obtain ⟨cs,rfl⟩:=hx
    obtain ⟨us,rfl,hl⟩:=h.agg_inv
    simpa [AV.cells,Value.cells] using hl
  · have hx':∀ cs,x ≠ .agg cs:=fun cs e=>hx ⟨cs,e⟩
    rw [cells_of_not_agg hx',h.not_agg hx']
    exact LR.cons h LR.nil
theorem VR.oneCell {x:AV} {u:Value} (h:VR G H w x u) (hx:x.one=true):u.oneCell'=true:=by
  cases h with
  | pure _ _ h=>cases h <;> first | rfl | simp [AV.one] at hx
  | agg=>simp [AV.one] at hx
  | tup=>simp [AV.one] at hx
  | _=>rfl
theorem LR.oneCells {xs:List AV} {us:List Value} (h:LR G H w xs us) (hx:xs.all AV.one=true):∀ u ∈ us,u.oneCell'=true:=by
  intro u hu
  obtain ⟨i,hi⟩:=List.mem_iff_getElem?.1 hu
  obtain ⟨x,hx'⟩:=get_of_lt (l:=xs) (i:=i) (by rw [← h.1]; exact lt_of_get hi)
  exact (h.2 i x u hx' hi).oneCell (List.all_eq_true.1 hx x (List.mem_of_getElem? hx'))
theorem row_some {b ver:Nat} {cs:List AV} (h:row H b ver=some cs):H[b]?=some (.cells cs)∧cs.length=ver:=by
  unfold row at h
  split at h
  · rename_i cs' hb
    split at h
    · rename_i e; cases h; exact ⟨hb,e⟩
    · cases h
  · cases h
theorem row_at {P:Program} (hR:R P G H w) {b c:Nat} {cs:List AV} (hb:H[b]?=some (.cells cs)) (hc:G.blk b=some c) :
    ∃ C e,w.heap[c]?=some (.cells C e (0,0))∧C.size=G.siz b∧cs.length≤C.size∧∀ (i:Nat) x,cs[i]?=some x→x.one=true∧∃ u,C[i]?=some u∧VR G H w x u:=by
  rcases hR.obj b _ hb with ⟨h,_⟩ | ⟨c',C,e,h1,h2,h3,h4,h5⟩
  · rw [h] at hc; cases hc
  · rw [h1] at hc; cases hc; exact ⟨C,e,h2,h3,h4,h5⟩
theorem VR.ptr_inv {b off ver:Nat} {u:Value} {cs:List AV} (h:VR G H w (.ptr b off ver) u) (hr:row H b ver=some cs):∃ c,u=.pointer (some ⟨c,off,none⟩)∧G.blk b=some c:=by
  obtain ⟨hb,hl⟩:=row_some hr
  cases h with
  | pure _ _ h=>cases h
  | ptr _ _ _ a _ hv h=>obtain ⟨c,hc,rfl⟩:=h cs hb hl; exact ⟨c,rfl,hc⟩
theorem VR.ptr_shape {b off ver:Nat} {u:Value} (h:VR G H w (.ptr b off ver) u):∃ a,u=.pointer (some a):=by
  cases h with
  | pure _ _ h=>cases h
  | ptr _ _ _ a=>exact ⟨a,rfl⟩
theorem VR.vptr_inv {cs:List AV} {off:Nat} {u:Value} (h:VR G H w (.vptr cs off) u) :
    ∃ (c o:Nat) (f:Nat→Value),u=.pointer (some ⟨c,o + off,none⟩)∧Stable G H.length w c∧(∀ (j:Nat) x,cs[j]?=some x→w.cell? ⟨c,o + j,none⟩=some (f j)) ∧
      ∀ (j:Nat) x,cs[j]?=some x→PR w (Stable G H.length w) x (f j):=by
  cases h with
  | pure _ _ h=>cases h
  | vptr _ _ c o f hS hc hv=>exact ⟨c,o,f,rfl,hS,hc,hv⟩
theorem ptr_cells {P:Program} (hR:R P G H w) {b c:Nat} {cs:List AV} (hb:H[b]?=some (.cells cs)) (hc:G.blk b=some c) (i:Nat) {x:AV} (hx:cs[i]?=some x) :
    ∃ u,w.cell? ⟨c,i,none⟩=some u∧VR G H w x u:=by
  obtain ⟨C,e,h1,_,_,h4⟩:=row_at hR hb hc
  obtain ⟨_,u,hu,hv⟩:=h4 i x hx
  exact ⟨u,by simp [World.cell?,h1,hu],hv⟩
end
end Go.Ai
end
section
namespace Go.Ai
open Go
def Sim1 (P:Program) (G:Gh) (H:List AObj) (w:World) (r:Result Next) (v:AV) (H':List AObj):Prop :=
  ∃ u w' G',(r=.ok (.value u) w'∨(r=.ok .skip w'∧u=undef))∧R P G' H' w'∧Ext G H w G' H' w'∧VR G' H' w' v u
section
variable {P:Program} {G:Gh} {H:List AObj} {w:World}
theorem Sim1.here (hR:R P G H w) {r:Result Next} {v:AV} {u:Value} (hr:r=.ok (.value u) w) (hv:VR G H w v u):Sim1 P G H w r v H :=
  ⟨u,w,G,.inl hr,hR,Ext.refl G H w,hv⟩
theorem run_und {t:TypeId} {d:TypeDesc} (h:P.underlying t=some d) (w:World):(underlying t).run P w=.ok d w:=run_underlying h w
theorem run_sizeOf' {t:TypeId} {n:Nat} (h:tsize P t=some n) (w:World):(sizeOf t).run P w=.ok n w:=by
  unfold tsize at h
  simp only [Option.bind_eq_some_iff] at h
  obtain ⟨i,hi,h⟩:=h
  cases h
  simp [sizeOf,typeInfo,hi,program,Sem.run]
theorem run_isAgg' {t:TypeId} {b:Bool} (h:isAggT P t=some b) (w:World):(isAgg t).run P w=.ok b w:=by
  unfold isAggT at h
  simp only [Option.bind_eq_some_iff] at h
  obtain ⟨d,hd,h⟩:=h
  unfold isAgg
  rw [Sem.run_bind,run_und hd]
  cases d <;> simp_all
theorem aggOf_some {t:TypeId} {a:Option Nat} (h:aggOf P t=some a):(a=none∧isAggT P t=some false)∨(∃ n,a=some n∧isAggT P t=some true∧tsize P t=some n):=by
  unfold aggOf at h
  simp only [Option.bind_eq_some_iff] at h
  obtain ⟨b,hb,h⟩:=h
  cases b with
  | false=>simp at h; exact .inl ⟨h.symm,hb⟩
  | true =>
    simp only [if_true,Option.bind_eq_some_iff] at h
    obtain ⟨n,hn,h⟩:=h
    cases h
    exact .inr ⟨n,rfl,hb,hn⟩
theorem run_loadVar' {t:TypeId} {agg:Option Nat} (ha:aggOf P t=some agg) {c o:Nat} {cs:List AV} {off:Nat}
    (hc:∀ (i:Nat) x,cs[i]?=some x→∃ u,w.cell? ⟨c,o + i,none⟩=some u∧VR G H w x u) {v:AV} (hv:rdc cs off agg=some v) :
    ∃ u,(loadVar t ⟨c,o + off,none⟩).run P w=.ok u w∧VR G H w v u:=by
  rcases aggOf_some ha with ⟨rfl,hb⟩ | ⟨n,rfl,hb,hn⟩
  · obtain ⟨u,hu,hvr⟩:=hc off v hv
    exact ⟨u,by simp [loadVar,run_isAgg' hb,hu],hvr⟩
  · simp only [rdc] at hv
    split at hv
    · rename_i hle
      cases hv
      have hget:∀ j,j < n→∃ x u,cs[off + j]?=some x∧w.cell? ⟨c,o + (off + j),none⟩=some u∧VR G H w x u:=by
        intro j hj
        obtain ⟨x,hx⟩:=get_of_lt (l:=cs) (i:=off + j) (by omega)
        obtain ⟨u,hu,hvr⟩:=hc (off + j) x hx
        exact ⟨x,u,hx,hu,hvr⟩
      let f:Nat→Value:=fun j=>(w.cell? ⟨c,o + (off + j),none⟩).getD undef
      have hf:∀ j,j < n→w.cell? ((⟨c,o + off,none⟩:Addr).add j)=some (f j):=by
        intro j hj
        obtain ⟨x,u,_,hu,_⟩:=hget j hj
        rw [addr_add,Nat.add_assoc]
        simp [f,hu]
      refine ⟨.agg ((List.range n).map f).toArray,by simp [loadVar,run_isAgg' hb,run_sizeOf' hn,run_loadCells w _ n f hf],?_⟩
      refine .agg _ _ (by simp; omega) (fun i x u hx hu=>?_)
      have hi:i < n:=by have:=lt_of_get hu; simpa using this
      obtain ⟨y,z,hy,hz,hvr⟩:=hget i hi
      rw [List.getElem?_take,if_pos hi,List.getElem?_drop,hy] at hx
      cases hx
      have:u=z:=by
        rw [List.getElem?_map,List.getElem?_range hi] at hu
        simp [f,hz] at hu
        exact hu.symm
      subst this
      exact hvr
    · cases hv
theorem rdc_part {t:TypeId} {agg:Option Nat} (ha:aggOf P t=some agg) {cs:List AV} {us:List Value} (hl:LR G H w cs us) {off:Nat} {v:AV} (hv:rdc cs off agg=some v) :
    ∃ u,(part t us.toArray off).run P w=.ok u w∧VR G H w v u:=by
  rcases aggOf_some ha with ⟨rfl,hb⟩ | ⟨n,rfl,hb,hn⟩
  · obtain ⟨u,hu,hvr⟩:=hl.get hv
    exact ⟨u,by simp [part,run_isAgg' hb,hu],hvr⟩
  · simp only [rdc] at hv
    split at hv
    · rename_i hle
      cases hv
      have h2:=(hl.drop off).take n
      refine ⟨.agg (us.toArray.extract off (off + n)),by simp [part,run_isAgg' hb,run_sizeOf' hn],?_⟩
      have e:us.toArray.extract off (off + n)=((us.drop off).take n).toArray:=by
        simp [List.extract_toArray,List.extract_eq_drop_take]
      rw [e]
      exact .agg _ _ h2.1 h2.2
    · cases hv
end
end Go.Ai
end
section
namespace Go.Ai
open Go
section
variable {P:Program} {G:Gh} {H:List AObj} {w:World}
def PS (P:Program) (G:Gh) (H:List AObj) (w:World) (s:Sem Value) (v:AV):Prop:=∃ u,s.run P w=.ok u w∧VR G H w v u
theorem ps_load (hR:R P G H w) {t:TypeId} {agg:Option Nat} (ha:aggOf P t=some agg) {x:AV} {u:Value} (hx:VR G H w x u) {v:AV} (hv:ld H agg x=some v) :
    PS P G H w (Instr.loadAt t u) v:=by
  unfold ld at hv
  split at hv
  · rename_i b off ver
    simp only [Option.bind_eq_some_iff] at hv
    obtain ⟨cs,hrow,hv⟩:=hv
    obtain ⟨c,rfl,hc⟩:=hx.ptr_inv hrow
    obtain ⟨hb,_⟩:=row_some hrow
    have h:=run_loadVar' (P:=P) (t:=t) ha (c:=c) (o:=0) (cs:=cs) (off:=off) (fun i x hx=>by simpa using ptr_cells hR hb hc i hx) hv
    obtain ⟨u,hu,hvr⟩:=h
    rw [Nat.zero_add] at hu
    exact ⟨u,by simp [Instr.loadAt,Instr.sureAddr,hu],hvr⟩
  · rename_i cs off
    obtain ⟨c,o,f,rfl,hS,hc,hp⟩:=hx.vptr_inv
    have h:=run_loadVar' (P:=P) (G:=G) (H:=H) (t:=t) ha (c:=c) (o:=o) (cs:=cs) (off:=off) (fun i x hx=>⟨f i,hc i x hx,.pure _ _ (hp i x hx)⟩) hv
    obtain ⟨u,hu,hvr⟩:=h
    exact ⟨u,by simp [Instr.loadAt,Instr.sureAddr,hu],hvr⟩
  · cases hv
theorem ps_bin {op:BinOp} {t:TypeId} {x y:AV} {u v:Value} (hx:VR G H w x u) (hy:VR G H w y v) {r:AV} (hr:evBin op x y=some r) :
    PS P G H w (binOp op t u v) r:=by
  unfold evBin at hr
  split at hr
  · rename_i k a j b
    have e1:=hx.int_inv
    have e2:=hy.int_inv
    subst e1; subst e2
    cases op <;> simp only at hr
    case shl =>
      split at hr
      · cases hr
      · rename_i hb; cases hr
        exact ⟨_,by simp [binOp,Op.shift,hb],.pure _ _ (.int _ _)⟩
    case shr =>
      split at hr
      · cases hr
      · rename_i hb; cases hr
        exact ⟨_,by simp [binOp,Op.shift,hb],.pure _ _ (.int _ _)⟩
    all_goals
      split at hr
      · cases hr
      · rename_i hk
        have hk':k=j:=by simpa using hk
        subst hk'
        first
          | (cases hr; exact ⟨_,by simp [binOp,Op.intArith,Op.intCmp,Op.intBits],.pure _ _ (.int _ _)⟩)
          | (cases hr; exact ⟨_,by simp [binOp,Op.intArith,Op.intCmp,Op.intBits],.pure _ _ (.bool _)⟩)
          | (split at hr
             · cases hr
             · rename_i hb; cases hr
               exact ⟨_,by simp [binOp,Op.intDiv,hb],.pure _ _ (.int _ _)⟩)
          | cases hr
  · rename_i a b
    have e1:=hx.str_inv
    have e2:=hy.str_inv
    subst e1; subst e2
    cases op <;> simp only at hr
    case add =>
      split at hr
      · cases hr
      · rename_i hb; cases hr
        exact ⟨_,by simp only [binOp,Op.stringOp,if_neg hb]; rfl,.pure _ _ (.str _)⟩
    all_goals first
      | cases hr; exact ⟨_,by simp [binOp,Op.stringOp],.pure _ _ (.bool _)⟩
      | cases hr
  · cases hr
theorem ps_un {op:UnOp} {x:AV} {u:Value} (hx:VR G H w x u) {r:AV} (hr:evUn op x=some r):PS P G H w (Op.unary op u) r:=by
  unfold evUn at hr
  split at hr
  · have e1:=hx.int_inv
    subst e1
    cases op <;> simp at hr
    cases hr
    exact ⟨_,by simp [Op.unary,Op.intArith],.pure _ _ (.int _ _)⟩
  · have e1:=hx.bool_inv
    subst e1
    cases op <;> simp at hr
    cases hr
    exact ⟨_,by simp [Op.unary],.pure _ _ (.bool _)⟩
  · cases hr
theorem ps_conv {src dst:TypeId} {k j:IntKind} (hs:P.underlying src=some (.int j)) (hd:P.underlying dst=some (.int k)) {i:IntKind} {n:Int} {u:Value}
    (hx:VR G H w (.int i n) u):PS P G H w (convert src dst u) (.int k (k.wrap n)):=by
  have e:=hx.int_inv
  subst e
  exact ⟨_,by simp [convert,run_und hs,run_und hd,Conv.intToInt],.pure _ _ (.int _ _)⟩
theorem run_fieldPlace {c o:Nat} {f:Field} {n:Nat} (hn:tsize P f.type=some n) (h0:0 < n) (w:World):(fieldPlace ⟨c,o,none⟩ f).run P w=.ok ⟨c,o + f.offset,none⟩ w:=by
  unfold fieldPlace
  have hz:n ≠ 0:=by omega
  simp [run_sizeOf' hn,hz,addr_add]
theorem ps_off_ptr {s:TypeId} {fields:Array Field} (hs:P.underlying s=some (.struct fields)) {i:Nat} {f:Field} (hf:fields[i]?=some f) {n:Nat} (hn:tsize P f.type=some n) (h0:0 < n)
    {b off ver:Nat} {u:Value} (hx:VR G H w (.ptr b off ver) u):PS P G H w (Instr.fieldAt s u i) (.ptr b (off + f.offset) ver):=by
  cases hx with
  | pure _ _ h=>cases h
  | ptr _ _ _ a hb hv h =>
    by_cases hk:∃ cs,H[b]?=some (.cells cs)∧cs.length=ver
    · obtain ⟨cs,h1,h2⟩:=hk
      obtain ⟨c,hc,rfl⟩:=h cs h1 h2
      refine ⟨.pointer (some ⟨c,off + f.offset,none⟩),by simp [Instr.fieldAt,run_und hs,hf,Instr.sureAddr,run_fieldPlace hn h0],.ptr _ _ _ _ hb hv (fun cs' h1' h2'=>⟨c,hc,rfl⟩)⟩
    ·
      have hz:n ≠ 0:=by omega
      refine ⟨.pointer (some (a.add f.offset)),by simp [Instr.fieldAt,run_und hs,hf,Instr.sureAddr,fieldPlace,run_sizeOf' hn,hz],.ptr _ _ _ _ hb hv (fun cs' h1' h2'=>absurd ⟨cs',h1',h2'⟩ hk)⟩
theorem ps_off_vptr {s:TypeId} {fields:Array Field} (hs:P.underlying s=some (.struct fields)) {i:Nat} {f:Field} (hf:fields[i]?=some f) {n:Nat} (hn:tsize P f.type=some n) (h0:0 < n)
    {cs:List AV} {off:Nat} {u:Value} (hx:VR G H w (.vptr cs off) u):PS P G H w (Instr.fieldAt s u i) (.vptr cs (off + f.offset)):=by
  obtain ⟨c,o,g,rfl,hS,hc,hp⟩:=hx.vptr_inv
  exact ⟨.pointer (some ⟨c,o + (off + f.offset),none⟩),by simp [Instr.fieldAt,run_und hs,hf,Instr.sureAddr,run_fieldPlace hn h0,Nat.add_assoc],.vptr cs (off + f.offset) c o g hS hc hp⟩
theorem ps_fld {s:TypeId} {fields:Array Field} (hs:P.underlying s=some (.struct fields)) {i:Nat} {f:Field} (hf:fields[i]?=some f) {agg:Option Nat} (ha:aggOf P f.type=some agg)
    {cs:List AV} {u:Value} (hx:VR G H w (.agg cs) u) {v:AV} (hv:rdc cs f.offset agg=some v):PS P G H w (Instr.field s u i) v:=by
  obtain ⟨us,rfl,hl⟩:=hx.agg_inv
  obtain ⟨r,hr,hvr⟩:=rdc_part (P:=P) (w:=w) ha hl hv
  exact ⟨r,by simp [Instr.field,run_und hs,hf,asAgg,hr],hvr⟩
theorem idxOf_some {n:Nat} {x:AV} {j:Nat} (h:idxOf n x=some j) {u:Value} (hx:VR G H w x u):∃ (k:IntKind) (i:Int),u=.int k i∧0≤i∧i < n∧i.toNat=j∧j < n:=by
  unfold idxOf at h
  split at h
  · rename_i k i
    split at h
    · rename_i hi
      cases h
      exact ⟨k,i,hx.int_inv,hi.1,hi.2,rfl,by omega⟩
    · cases h
  · cases h
theorem ps_iaddr_slice {t e:TypeId} (ht:P.underlying t=some (.slice e)) {size:Nat} (hn:tsize P e=some size) {full:Bool} {es:List (List AV)} {i:AV} {u v:Value}
    (hx:VR G H w (.slice full size es) u) (hi:VR G H w i v) {j:Nat} (hj:idxOf es.length i=some j) {el:List AV} (hel:es[j]?=some el):PS P G H w (Instr.indexAt t u v) (.vptr el 0):=by
  obtain ⟨k,n,rfl,h0,hlt,rfl,hjl⟩:=idxOf_some hj hi
  cases hx with
  | pure _ _ h =>
    cases h with
    | slice0=>simp at hjl
    | slice _ _ _ c off cap f hne hcap hfull hS hsz hlen hc hv =>
      refine ⟨.pointer (some ⟨c,off + n.toNat * size,none⟩),?_,?_⟩
      · have h2:n < (es.length:Int):=hlt
        simp [Instr.indexAt,asIntOf,run_und ht,h0,h2,run_sizeOf' hn,addr_add]
      · have:=VR.vptr (G:=G) (H:=H) (w:=w) el 0 c (off + n.toNat * size) (f n.toNat) hS (fun q y hy=>hc n.toNat el q y hel hy) (fun q y hy=>hv n.toNat el q y hel hy)
        simpa using this
theorem ps_iaddr_sref {t e:TypeId} (ht:P.underlying t=some (.slice e)) {size:Nat} (hn:tsize P e=some size) {b off len ver:Nat} {i:AV} {u v:Value}
    (hx:VR G H w (.sref b off len ver size) u) (hi:VR G H w i v) {cs:List AV} (hrow:row H b ver=some cs) {j:Nat} (hj:idxOf len i=some j) :
    PS P G H w (Instr.indexAt t u v) (.ptr b (off + j * size) ver):=by
  obtain ⟨k,n,rfl,h0,hlt,rfl,hjl⟩:=idxOf_some hj hi
  obtain ⟨hb,hl⟩:=row_some hrow
  cases hx with
  | pure _ _ h=>cases h
  | sref _ _ _ _ _ a cap hbl hv h =>
    rcases h cs hb hl with ⟨_,_,_,h4,_⟩ | ⟨c,hc,rfl,h1,h2,h3,h4⟩
    · omega
    · refine ⟨.pointer (some ⟨c,off + n.toNat * size,none⟩),?_,.ptr _ _ _ _ hbl hv (fun cs' h1' h2'=>⟨c,hc,rfl⟩)⟩
      have h2:n < (len:Int):=hlt
      simp [Instr.indexAt,asIntOf,run_und ht,h0,h2,run_sizeOf' hn,addr_add]
theorem ps_iaddr_arr {t e:TypeId} {len:Nat} (ht:P.underlying t=some (.array len e)) {size:Nat} (hn:tsize P e=some size) {b off ver:Nat} {i:AV} {u v:Value}
    (hx:VR G H w (.ptr b off ver) u) (hi:VR G H w i v) {j:Nat} (hj:idxOf len i=some j):PS P G H w (Instr.indexAt t u v) (.ptr b (off + j * size) ver):=by
  obtain ⟨k,n,rfl,h0,hlt,rfl,hjl⟩:=idxOf_some hj hi
  have h2:n < (len:Int):=hlt
  cases hx with
  | pure _ _ h=>cases h
  | ptr _ _ _ a hb hv h =>
    by_cases hk:∃ cs,H[b]?=some (.cells cs)∧cs.length=ver
    · obtain ⟨cs,h1,h3⟩:=hk
      obtain ⟨c,hc,rfl⟩:=h cs h1 h3
      refine ⟨.pointer (some ⟨c,off + n.toNat * size,none⟩),?_,.ptr _ _ _ _ hb hv (fun cs' h1' h2'=>⟨c,hc,rfl⟩)⟩
      simp [Instr.indexAt,asIntOf,run_und ht,Instr.sureAddr,h0,h2,run_sizeOf' hn,addr_add]
    · refine ⟨.pointer (some (a.add (n.toNat * size))),?_,.ptr _ _ _ _ hb hv (fun cs' h1' h2'=>absurd ⟨cs',h1',h2'⟩ hk)⟩
      simp [Instr.indexAt,asIntOf,run_und ht,Instr.sureAddr,h0,h2,run_sizeOf' hn]
theorem ps_iaddr_varr {t e:TypeId} {len:Nat} (ht:P.underlying t=some (.array len e)) {size:Nat} (hn:tsize P e=some size) {cs:List AV} {off:Nat} {i:AV} {u v:Value}
    (hx:VR G H w (.vptr cs off) u) (hi:VR G H w i v) {j:Nat} (hj:idxOf len i=some j):PS P G H w (Instr.indexAt t u v) (.vptr cs (off + j * size)):=by
  obtain ⟨k,n,rfl,h0,hlt,rfl,hjl⟩:=idxOf_some hj hi
  have h2:n < (len:Int):=hlt
  obtain ⟨c,o,f,rfl,hS,hc,hp⟩:=hx.vptr_inv
  refine ⟨.pointer (some ⟨c,o + (off + n.toNat * size),none⟩),?_,.vptr cs _ c o f hS hc hp⟩
  simp [Instr.indexAt,asIntOf,run_und ht,Instr.sureAddr,h0,h2,run_sizeOf' hn,addr_add,Nat.add_assoc]
theorem ps_aidx {t e:TypeId} {len:Nat} (ht:P.underlying t=some (.array len e)) {size:Nat} (hn:tsize P e=some size) {agg:Option Nat} (ha:aggOf P e=some agg) {cs:List AV} {i:AV} {u v:Value}
    (hx:VR G H w (.agg cs) u) (hi:VR G H w i v) {j:Nat} (hj:idxOf len i=some j) {r:AV} (hr:rdc cs (j * size) agg=some r):PS P G H w (Instr.index t u v) r:=by
  obtain ⟨k,n,rfl,h0,hlt,rfl,hjl⟩:=idxOf_some hj hi
  have h2:n < (len:Int):=hlt
  obtain ⟨us,rfl,hl⟩:=hx.agg_inv
  obtain ⟨z,hz,hvr⟩:=rdc_part (P:=P) (w:=w) ha hl hr
  exact ⟨z,by simp [Instr.index,asIntOf,run_und ht,h0,h2,run_sizeOf' hn,hz],hvr⟩
theorem ps_sidx {t:TypeId} (ht:P.underlying t=some .string) {s:ByteArray} {i:AV} {u v:Value} (hx:VR G H w (.str s) u) (hi:VR G H w i v) {j:Nat} (hj:idxOf s.size i=some j) {c:UInt8}
    (hc:s.data[j]?=some c):PS P G H w (Instr.index t u v) (.int .u8 c.toNat):=by
  obtain ⟨k,n,rfl,h0,hlt,rfl,hjl⟩:=idxOf_some hj hi
  have e:=hx.str_inv
  subst e
  have hs:s[n.toNat]?=some c:=by
    rw [← hc]
    have h1:n.toNat < s.size:=hjl
    rw [getElem?_pos s n.toNat h1,getElem?_pos s.data n.toNat (by simpa using h1)]
    rfl
  exact ⟨.int .u8 c.toNat,by simp [Instr.index,asIntOf,run_und ht,h0,hs],.pure _ _ (.int _ _)⟩
theorem ps_ext {i:Nat} {vs:List AV} {u:Value} (hx:VR G H w (.tup vs) u) {v:AV} (hv:vs[i]?=some v):PS P G H w (Instr.extract u i) v:=by
  obtain ⟨us,rfl,hl⟩:=hx.tup_inv
  obtain ⟨z,hz,hvr⟩:=hl.get hv
  exact ⟨z,by simp [Instr.extract,hz],hvr⟩
theorem minmax_ok (mx:Bool):∀ (ys:List AV) (us:List Value) (x:AV) (u:Value) (r:AV),VR G H w x u→LR G H w ys us→evMinMax mx x ys=some r →
    ∃ z,((us.foldlM (if mx then Builtin.max2 else Builtin.min2) u:Sem Value)).run P w=.ok z w∧VR G H w r z
  | [],us,x,u,r,hx,hl,hr=>by
    have:us=[]:=List.eq_nil_of_length_eq_zero (by simpa using hl.1)
    subst this
    simp only [evMinMax] at hr
    cases hr
    exact ⟨u,by simp,hx⟩
  | y :: ys,us,x,u,r,hx,hl,hr=>by
    unfold evMinMax at hr
    split at hr
    · rename_i heq; cases heq
    · rename_i k a j b rest heq
      cases heq
      split at hr
      · rename_i hk
        subst hk
        obtain ⟨v,vs,rfl⟩:∃ v vs,us=v :: vs:=by
          cases us with
          | nil=>have:=hl.1; simp at this
          | cons v vs=>exact ⟨v,vs,rfl⟩
        have hv:=hl.2 0 _ v rfl rfl
        have e1:=hx.int_inv
        have e2:=hv.int_inv
        subst e1; subst e2
        have hl':LR G H w ys vs:=⟨by simpa using hl.1,fun i x u hx hu=>hl.2 (i + 1) x u (by simpa using hx) (by simpa using hu)⟩
        obtain ⟨z,hz,hvr⟩:=minmax_ok mx ys vs _ (.int k (if mx then (if b > a then b else a) else (if b < a then b else a))) r (.pure _ _ (.int _ _)) hl' hr
        refine ⟨z,?_,hvr⟩
        cases mx <;> simp_all [List.foldlM_cons,Builtin.max2,Builtin.min2]
      · cases hr
    · cases hr
theorem ps_max {ts:Array TypeId} {ty:TypeId} {x:AV} {ys:List AV} {u:Value} {us:List Value} (hx:VR G H w x u) (hl:LR G H w ys us) {r:AV} (hr:evMinMax true x ys=some r) :
    PS P G H w (Builtin.max_ ts ty (u :: us).toArray) r:=by
  obtain ⟨z,hz,hvr⟩:=minmax_ok (P:=P) true ys us x u r hx hl hr
  exact ⟨z,by simpa [Builtin.max_] using hz,hvr⟩
theorem ps_min {ts:Array TypeId} {ty:TypeId} {x:AV} {ys:List AV} {u:Value} {us:List Value} (hx:VR G H w x u) (hl:LR G H w ys us) {r:AV} (hr:evMinMax false x ys=some r) :
    PS P G H w (Builtin.min_ ts ty (u :: us).toArray) r:=by
  obtain ⟨z,hz,hvr⟩:=minmax_ok (P:=P) false ys us x u r hx hl hr
  exact ⟨z,by simpa [Builtin.min_] using hz,hvr⟩
end
end Go.Ai
end
section
namespace Go.Ai
open Go
section
variable {P:Program} {G:Gh} {H:List AObj} {w:World}
def OV (G:Gh) (H:List AObj) (w:World):Option AV→Option Value→Prop
  | none,none=>True
  | some x,some u=>VR G H w x u
  | _,_=>False
theorem boundOf_some {n:Nat} {x:AV} {j:Nat} (h:boundOf n x=some j) {u:Value} (hx:VR G H w x u):∃ (k:IntKind) (i:Int),u=.int k i∧0≤i∧i≤n∧i.toNat=j∧j≤n:=by
  unfold boundOf at h
  split at h
  · rename_i k i
    split at h
    · rename_i hi
      cases h
      exact ⟨k,i,hx.int_inv,hi.1,hi.2,rfl,by omega⟩
    · cases h
  · cases h
theorem run_bounds {isS:Bool} {len cap:Nat} (hle:len≤cap) {lo hi:Option AV} {u v:Option Value} (hlo:OV G H w lo u) (hhi:OV G H w hi v) {l h:Nat} (hb:boundsOf len lo hi=some (l,h)) :
    (Instr.sliceBounds isS len cap u v none).run P w=.ok (l,h,cap) w∧l≤h∧h≤len:=by
  unfold boundsOf at hb
  simp only [Option.bind_eq_some_iff] at hb
  obtain ⟨h',hh,l',hl,e⟩:=hb
  cases e
  have e1:(match v with
      | some v=>Instr.sliceBound v cap (if isS then .sliceAcap else .sliceAlen)
      | none=>pure len:Sem Nat).run P w=.ok h w∧h≤len:=by
    cases hi with
    | none =>
      cases v with
      | none=>simp at hh; subst hh; exact ⟨by simp,Nat.le_refl _⟩
      | some _=>exact hhi.elim
    | some x =>
      cases v with
      | none=>exact hhi.elim
      | some v =>
        obtain ⟨k,i,rfl,h0,h1,rfl,h2⟩:=boundOf_some hh hhi
        have h3:i≤(cap:Int):=by omega
        exact ⟨by simp [Instr.sliceBound,asIntOf,h0,h3],h2⟩
  have e2:(match u with
      | some v=>Instr.sliceBound v h .sliceB
      | none=>pure 0:Sem Nat).run P w=.ok l w∧l≤h:=by
    cases lo with
    | none =>
      cases u with
      | none=>simp at hl; subst hl; exact ⟨by simp,Nat.zero_le _⟩
      | some _=>exact hlo.elim
    | some x =>
      cases u with
      | none=>exact hlo.elim
      | some v =>
        obtain ⟨k,i,rfl,h0,h1,rfl,h2⟩:=boundOf_some hl hlo
        exact ⟨by simp [Instr.sliceBound,asIntOf,h0,h1],h2⟩
  refine ⟨?_,e2.2,e1.2⟩
  have e1':=e1.1
  have e2':=e2.1
  cases u <;> cases v <;> simp_all [Instr.sliceBounds]
theorem ps_slc_slice {t e:TypeId} (ht:P.underlying t=some (.slice e)) {size:Nat} (hn:tsize P e=some size) {full:Bool} {sz:Nat} {es:List (List AV)} (hsz:sz=size∨es=[]) {x:Value}
    (hx:VR G H w (.slice full sz es) x) {lo hi:Option AV} {u v:Option Value} (hlo:OV G H w lo u) (hhi:OV G H w hi v) {l h:Nat} (hb:boundsOf es.length lo hi=some (l,h)) :
    PS P G H w (Instr.sliceAt t x u v none) (.slice (full && decide (h=es.length)) sz ((es.take h).drop l)):=by
  cases hx with
  | pure _ _ hp =>
    cases hp with
    | slice0 full sz a cap hf =>
      obtain ⟨hr,h1,h2⟩:=run_bounds (P:=P) (isS:=true) (cap:=cap) (Nat.zero_le _) hlo hhi hb
      have h0:h=0:=by simpa using h2
      subst h0
      obtain rfl:l=0:=by omega
      simp only [List.take_nil,List.drop_nil,List.length_nil,decide_true,Bool.and_true] at hr ⊢
      refine ⟨.slice (if cap=0 then a else a.map (·.add (0 * size))) 0 cap,?_,.pure _ _ (.slice0 _ _ _ _ hf)⟩
      simp [Instr.sliceAt,run_und ht,Instr.slice,hr,run_sizeOf' hn]
    | slice full sz es c off cap f hne hcap hfull hS hs0 hlen hc hv =>
      have hszs:sz=size:=hsz.resolve_right hne
      subst hszs
      obtain ⟨hr,h1,h2⟩:=run_bounds (P:=P) (isS:=true) (cap:=cap) hcap hlo hhi hb
      have hrun:(Instr.sliceAt t (.slice (some ⟨c,off,none⟩) es.length cap) u v none).run P w =
          .ok (.slice (if cap=l then some ⟨c,off,none⟩ else some ⟨c,off + l * sz,none⟩) (h - l) (cap - l)) w:=by
        simp [Instr.sliceAt,run_und ht,Instr.slice,hr,run_sizeOf' hn,addr_add]
      refine ⟨_,hrun,.pure _ _ ?_⟩
      by_cases he:h=l
      · subst he
        have:(es.take h).drop h=[]:=by rw [List.drop_eq_nil_iff]; simp; omega
        rw [this,Nat.sub_self]
        refine .slice0 _ _ _ _ (fun hf=>?_)
        simp only [Bool.and_eq_true,decide_eq_true_eq] at hf
        have:=hfull hf.1
        omega
      · have hlen':((es.take h).drop l).length=h - l:=by simp; omega
        rw [if_neg (by omega),← hlen']
        have hget:∀ (i:Nat) e,((es.take h).drop l)[i]?=some e→es[l + i]?=some e:=by
          intro i e he
          rw [List.getElem?_drop,List.getElem?_take] at he
          split at he
          · exact he
          · cases he
        refine .slice _ sz _ c (off + l * sz) (cap - l) (fun i j=>f (l + i) j) (fun e=>?_) (by rw [hlen']; omega) (fun hf=>?_) hS hs0 (fun e he=>hlen e ?_) (fun i e j x he hx=>?_) (fun i e j x he hx=>hv (l + i) e j x (hget i e he) hx)
        · rw [e] at hlen'; simp at hlen'; omega
        · simp only [Bool.and_eq_true,decide_eq_true_eq] at hf
          have:=hfull hf.1
          rw [hlen']; omega
        · exact List.mem_of_mem_take (List.mem_of_mem_drop he)
        · have:=hc (l + i) e j x (hget i e he) hx
          rw [show off + l * sz + i * sz + j=off + (l + i) * sz + j by rw [Nat.add_mul]; omega]
          exact this
theorem ps_slc_sref {t e:TypeId} (ht:P.underlying t=some (.slice e)) {size:Nat} (hn:tsize P e=some size) {b off len ver:Nat} {x:Value}
    (hx:VR G H w (.sref b off len ver size) x) {cs:List AV} (hrow:row H b ver=some cs) {lo hi:Option AV} {u v:Option Value} (hlo:OV G H w lo u) (hhi:OV G H w hi v) {l h:Nat} (hb:boundsOf len lo hi=some (l,h)) :
    PS P G H w (Instr.sliceAt t x u v none) (if l=h then .slice false size [] else .sref b (off + l * size) (h - l) ver size):=by
  obtain ⟨hbk,hl⟩:=row_some hrow
  cases hx with
  | pure _ _ h=>cases h
  | sref _ _ _ _ _ a cap hbl hv hsr =>
    have hle:len≤cap:=by rcases hsr cs hbk hl with ⟨_,_,_,h4,_,h6⟩ | ⟨c,hc,_,_,h2,_⟩ <;> omega
    obtain ⟨hr,h1,h2⟩:=run_bounds (P:=P) (isS:=true) (cap:=cap) hle hlo hhi hb
    have hrun:(Instr.sliceAt t (.slice a len cap) u v none).run P w=.ok (.slice (if cap=l then a else a.map (·.add (l * size))) (h - l) (cap - l)) w:=by
      simp [Instr.sliceAt,run_und ht,Instr.slice,hr,run_sizeOf' hn]
    refine ⟨_,hrun,?_⟩
    by_cases he:l=h
    · subst he
      rw [if_pos rfl,Nat.sub_self]
      exact .pure _ _ (.slice0 _ _ _ _ (fun q=>by cases q))
    · rw [if_neg he]
      rcases hsr cs hbk hl with ⟨_,_,_,h4,_⟩ | ⟨c,hc,rfl,q1,q2,q3,q4⟩
      · omega
      · rw [if_neg (by omega)]
        refine .sref b _ _ ver size _ _ hbl hv (fun cs' k1 k2=>.inr ⟨c,hc,by simp [addr_add],?_,by omega,?_,q4⟩)
        · rw [Nat.add_assoc,← Nat.add_mul,Nat.add_sub_cancel' (by omega)]; exact q1
        · rw [Nat.add_assoc,← Nat.add_mul,Nat.add_sub_cancel' (by omega)]
          exact Nat.le_trans (Nat.add_le_add_left (Nat.mul_le_mul_right _ h2) _) q3
theorem ps_sslc {t:TypeId} (ht:P.underlying t=some .string) {s:ByteArray} {x:Value} (hx:VR G H w (.str s) x) {lo hi:Option AV} {u v:Option Value} (hlo:OV G H w lo u) (hhi:OV G H w hi v) {l h:Nat}
    (hb:boundsOf s.size lo hi=some (l,h)):PS P G H w (Instr.sliceAt t x u v none) (.str (s.extract l h)):=by
  have e:=hx.str_inv
  subst e
  obtain ⟨hr,h1,h2⟩:=run_bounds (P:=P) (isS:=false) (cap:=s.size) (Nat.le_refl _) hlo hhi hb
  exact ⟨_,by simp [Instr.sliceAt,run_und ht,Instr.slice,hr],.pure _ _ (.str _)⟩
theorem VR.slice_shape {full:Bool} {sz:Nat} {es:List (List AV)} {u:Value} (h:VR G H w (.slice full sz es) u):∃ a cap,u=.slice a es.length cap∧es.length≤cap:=by
  cases h with
  | pure _ _ h =>
    cases h with
    | slice0 _ _ a cap=>exact ⟨a,cap,rfl,Nat.zero_le _⟩
    | slice _ _ _ c off cap f hne hcap=>exact ⟨_,cap,rfl,hcap⟩
theorem VR.sref_shape {b off len ver sz:Nat} {u:Value} (h:VR G H w (.sref b off len ver sz) u):∃ a cap,u=.slice a len cap:=by
  cases h with
  | pure _ _ h=>cases h
  | sref _ _ _ _ _ a cap=>exact ⟨a,cap,rfl⟩
theorem ps_len_slice {t e ty:TypeId} (ht:P.underlying t=some (.slice e)) {a:Option Addr} {n cap:Nat}:PS P G H w (Builtin.len_ #[t] ty #[.slice a n cap]) (.int .i64 n) :=
  ⟨.int .i64 n,by simp [Builtin.len_,run_und ht,goInt],.pure _ _ (.int _ _)⟩
theorem ps_len_string {t ty:TypeId} (ht:P.underlying t=some .string) {s:ByteArray}:PS P G H w (Builtin.len_ #[t] ty #[.string s]) (.int .i64 s.size) :=
  ⟨.int .i64 s.size,by simp [Builtin.len_,run_und ht,goInt],.pure _ _ (.int _ _)⟩
theorem ps_alen {t e ty:TypeId} {n:Nat} (ht:P.underlying t=some (.array n e)) {x:Value}:PS P G H w (Builtin.len_ #[t] ty #[x]) (.int .i64 n) :=
  ⟨.int .i64 n,by simp [Builtin.len_,run_und ht,goInt],.pure _ _ (.int _ _)⟩
theorem LR.setAt:∀ {vs:List AV} {zs:List Value} {cs:List AV} {us:List Value} (off:Nat),LR G H w cs us→LR G H w vs zs→off + vs.length≤cs.length →
    LR G H w (setAt cs off vs) (us.take off ++ zs ++ us.drop (off + vs.length))
  | [],zs,cs,us,off,hl,hv,_=>by
    have:zs=[]:=List.eq_nil_of_length_eq_zero (by simpa using hv.1)
    subst this
    simpa [Ai.setAt] using hl
  | v :: vs,zs,cs,us,off,hl,hv,hle=>by
    obtain ⟨z,zs',rfl⟩:∃ z zs',zs=z :: zs':=by
      cases zs with
      | nil=>have:=hv.1; simp at this
      | cons z zs'=>exact ⟨z,zs',rfl⟩
    have hz:=hv.2 0 v z rfl rfl
    have hv':LR G H w vs zs':=⟨by simpa using hv.1,fun i x u hx hu=>hv.2 (i + 1) x u (by simpa using hx) (by simpa using hu)⟩
    have hset:LR G H w (cs.set off v) (us.set off z):=by
      refine ⟨by simp [hl.1],fun i x u hx hu=>?_⟩
      rw [List.getElem?_set] at hx hu
      by_cases e:off=i
      · subst e
        rw [if_pos rfl] at hx hu
        split at hx
        · rename_i h1
          rw [if_pos (by rw [hl.1]; exact h1)] at hu
          cases hx; cases hu
          exact hz
        · cases hx
      · rw [if_neg e] at hx hu
        exact hl.2 i x u hx hu
    have ih:=LR.setAt (off + 1) hset hv' (by simp at hle ⊢; omega)
    simp only [Ai.setAt]
    have hlen:off + (zs'.length + 1)≤us.length:=by rw [hl.1]; have:=hv'.1; simp at hle; omega
    have e:=list_seg_step us off z zs' hlen
    have hzl:zs'.length=vs.length:=hv'.1
    rw [hzl] at e
    simp only [List.length_cons]
    rw [← e]
    exact ih
theorem length_setAt:∀ (vs:List AV) (cs:List AV) (off:Nat),(setAt cs off vs).length=cs.length
  | [],_,_=>rfl
  | v :: vs,cs,off=>by simp [setAt,length_setAt vs]
theorem foldl_set_eq:∀ (l:List Value) (k:Nat) (cs:Array Value) (off:Nat),off + k + l.length≤cs.size →
    (l.zipIdx k).foldl (fun cs (p:Value × Nat)=>cs.setIfInBounds (off + p.2) p.1) cs=(cs.toList.take (off + k) ++ l ++ cs.toList.drop (off + k + l.length)).toArray
  | [],k,cs,off,_=>by simp
  | v :: l,k,cs,off,h=>by
    simp only [List.zipIdx_cons,List.foldl_cons]
    rw [foldl_set_eq l (k + 1) (cs.setIfInBounds (off + k) v) off (by simp at h ⊢; omega)]
    have e:=list_seg_step cs.toList (off + k) v l (by simp at h ⊢; omega)
    congr 1
    simpa [Array.toList_setIfInBounds,Nat.add_assoc] using e
inductive Parts (place:Nat→Option (Nat × Nat)) (G:Gh) (H:List AObj) (w:World):List (Nat × Nat × AV)→List (Nat × Value)→Prop
  | nil:Parts place G H w [] []
  | cons {i off size:Nat} {x:AV} {u:Value} {xs us} (hp:place i=some (off,size)) (hv:VR G H w x u) (h:Parts place G H w xs us):Parts place G H w ((off,size,x) :: xs) ((i,u) :: us)
theorem fill_ok {place:Nat→Option (Nat × Nat)}:∀ {xs:List (Nat × Nat × AV)} {us:List (Nat × Value)} {cs:List AV} {zs:List Value} {r:List AV},Parts place G H w xs us→LR G H w cs zs→fillA cs xs=some r →
    ∃ ys,Instr.fill place zs.toArray us=some ys.toArray∧LR G H w r ys
  | _,_,cs,zs,r,.nil,hl,hr=>by
    simp only [fillA] at hr
    cases hr
    exact ⟨zs,by simp [Instr.fill],hl⟩
  | _, _, cs,zs,r,.cons (off:=off) (size:=size) (x:=x) (u:=u) hp hv h,hl,hr=>by
    simp only [fillA] at hr
    split at hr
    · rename_i hc
      have hcl:=hv.cells
      have hsz:u.cells.size=size:=by have:=hcl.1; simpa [hc.1] using this
      have hl2:=LR.setAt off hl hcl (by rw [hc.1]; exact hc.2)
      obtain ⟨ys,hys,hlr⟩:=fill_ok h hl2 hr
      refine ⟨ys,?_,hlr⟩
      have hfit:¬ (u.cells.size ≠ size || decide (off + u.cells.size > zs.toArray.size))=true:=by
        have:=hl.1
        simp [hsz]; omega
      have hfold:(u.cells.zipIdx.foldl (fun cs (c,j)=>cs.setIfInBounds (off + j) c) zs.toArray)=(zs.take off ++ u.cells.toList ++ zs.drop (off + x.cells.length)).toArray:=by
        have e:=foldl_set_eq u.cells.toList 0 zs.toArray off (by have:=hl.1; simp [hsz]; omega)
        rw [← Array.foldl_toList]
        simp only [Array.toList_zipIdx]
        simp only [Nat.add_zero] at e
        rw [show x.cells.length=u.cells.toList.length from hcl.1.symm]
        exact e
      simp only [Instr.fill,hp]
      rw [if_neg (by simpa using hfit)]
      rw [hfold]
      exact hys
    · cases hr
end
end Go.Ai
end
section
namespace Go.Ai
open Go
section
variable {P:Program} {G:Gh} {H:List AObj} {w:World}
theorem env_alloc (w:World) (o:Obj):Env w (w.alloc o):=⟨rfl,rfl,rfl⟩
theorem heap_alloc_lt (w:World) (o:Obj) {k:Nat} (h:k < w.heap.size):(w.alloc o).heap[k]?=w.heap[k]?:=by
  show (w.heap.push o)[k]?=_
  rw [Array.getElem?_push,if_neg (by omega)]
theorem heap_alloc_at (w:World) (o:Obj):(w.alloc o).heap[w.heap.size]?=some o:=by
  show (w.heap.push o)[w.heap.size]?=_
  simp
theorem ofVal1_one {v:Value} {x:AV} (h:ofVal1 v=some x):x.one=true:=by
  unfold ofVal1 at h
  split at h <;> first | (cases h; rfl) | cases h
theorem ofVals1_one:∀ {vs:List Value} {xs:List AV},ofVals1 vs=some xs→xs.all AV.one=true
  | [],xs,h=>by simp [ofVals1] at h; subst h; rfl
  | v :: vs,xs,h=>by
    simp only [ofVals1,Option.bind_eq_some_iff] at h
    obtain ⟨x,hx,ys,hys,h⟩:=h
    cases h
    simp [ofVal1_one hx]
    simpa using ofVals1_one hys
theorem ofVals1_LR {vs:List Value} {xs:List AV} (h:ofVals1 vs=some xs):LR G H w xs vs :=
  have q:=ofVals1_PR (w:=w) (S:=Stable G H.length w) h
  ⟨q.1,fun i x u hx hu=>.pure _ _ (q.2 i x u hx hu)⟩
theorem new_row (hR:R P G H w) {cs:List AV} {us:List Value} (hl:LR G H w cs us) (h1:cs.all AV.one=true) (e:TypeId) {w':World} (hw:w'.heap=w.heap.push (.cells us.toArray e (0,0))) (he:Env w w') :
    R P (G.upd H.length (some w.heap.size) us.length) (H ++ [.cells cs]) w'∧Ext G H w (G.upd H.length (some w.heap.size) us.length) (H ++ [.cells cs]) w':=by
  have hlt:∀ k,k < w.heap.size→w'.heap[k]?=w.heap[k]?:=fun k hk=>by rw [hw,Array.getElem?_push,if_neg (by omega)]
  have hat:w'.heap[w.heap.size]?=some (.cells us.toArray e (0,0)):=by rw [hw]; simp
  have hs:w.heap.size < w'.heap.size:=by rw [hw]; simp
  have hx:=Ext.push hR (.cells cs) (some w.heap.size) us.length he (Nat.le_of_lt hs) hlt (fun k hk=>by cases hk; rfl)
  refine ⟨R.push hR _ _ _ he (Nat.le_of_lt hs) hlt (fun k hk=>by cases hk; exact ⟨rfl,hs⟩) (.inr ⟨w.heap.size,us.toArray,e,by simp,hat,by simp,by simp [hl.1],fun i x hx'=>?_⟩),hx⟩
  obtain ⟨u,hu,hv⟩:=hl.get hx'
  exact ⟨List.all_eq_true.1 h1 x (List.mem_of_getElem? hx'),u,by simpa using hu,hv.mono hx⟩
theorem ptr_new {n:Nat} {cs:List AV} (hn:cs.length=n) {G':Gh} {w':World} {c:Nat} (hc:G'.blk H.length=some c):VR G' (H ++ [.cells cs]) w' (.ptr H.length 0 n) (.pointer (some ⟨c,0,none⟩)):=by
  refine .ptr _ _ _ _ (by simp) (fun cs' h=>?_) (fun cs' _ _=>⟨c,hc,rfl⟩)
  rw [get_append_eq] at h; cases h; omega
theorem run_zeroValue' {t:TypeId} {i:TypeInfo} (hi:P.info? t=some i) {v:Value} (hz:i.zero=some v) (w:World):(zeroValue t).run P w=.ok v w:=by
  simp [zeroValue,typeInfo,hi,hz,program,Sem.run]
theorem zeroCells_some {t:TypeId} {zs:List AV} (h:zeroCells P t=some zs):∃ i v,P.info? t=some i∧i.zero=some v∧ofVals1 v.cells.toList=some zs:=by
  unfold zeroCells at h
  simp only [Option.bind_eq_some_iff] at h
  obtain ⟨i,hi,v,hv,h⟩:=h
  exact ⟨i,v,hi,hv,h⟩
theorem sim_own (hR:R P G H w) (sz:Nat):R P (G.upd H.length none 0) (H ++ [.cells []]) w∧Ext G H w (G.upd H.length none 0) (H ++ [.cells []]) w ∧
    VR (G.upd H.length none 0) (H ++ [.cells []]) w (.sref H.length 0 0 0 sz) (.slice none 0 0):=by
  have he:Env w w:=⟨rfl,rfl,rfl⟩
  refine ⟨R.push hR _ _ _ he (Nat.le_refl _) (fun _ _=>rfl) (fun k hk=>by cases hk) (.inl ⟨by simp,rfl⟩),Ext.push hR _ _ _ he (Nat.le_refl _) (fun _ _=>rfl) (fun k hk=>by cases hk),?_⟩
  exact .sref _ _ _ _ _ _ _ (by simp) (fun _ _=>Nat.zero_le _) (fun _ _ _=>.inl ⟨by simp,rfl,rfl,rfl,rfl,rfl⟩)
theorem sim_alloc (hR:R P G H w) {t:TypeId} {zs:List AV} (hz:zeroCells P t=some zs) :
    ∃ u w' G',(Instr.alloc t true (.tuple #[])).run P w=.ok u w'∧R P G' (H ++ [.cells zs]) w'∧Ext G H w G' (H ++ [.cells zs]) w'∧VR G' (H ++ [.cells zs]) w' (.ptr H.length 0 zs.length) u:=by
  obtain ⟨i,v,hi,hv,ho⟩:=zeroCells_some hz
  have hl:LR G H w zs v.cells.toList:=ofVals1_LR ho
  obtain ⟨h1,h2⟩:=new_row hR hl (ofVals1_one ho) t (w':=w.alloc (.cells v.cells t)) rfl (env_alloc _ _)
  refine ⟨.pointer (some ⟨w.heap.size,0,none⟩),_,_,?_,h1,h2,ptr_new rfl (by simp)⟩
  simp [Instr.alloc,run_zeroValue' hi hv,newVar,newRow,newObj,Sem.run]
theorem sim_box (hR:R P G H w) (t:TypeId) {x:AV} {u:Value} (hx:VR G H w x u) {n:Nat} (hn:x.cells.length=n) (h1:x.cells.all AV.one=true) :
    ∃ r w' G',(Instr.box t u).run P w=.ok r w'∧R P G' (H ++ [.cells x.cells]) w'∧Ext G H w G' (H ++ [.cells x.cells]) w'∧VR G' (H ++ [.cells x.cells]) w' (.ptr H.length 0 n) r:=by
  obtain ⟨k1,k2⟩:=new_row hR hx.cells h1 t (w':=w.alloc (.cells u.cells t)) rfl (env_alloc _ _)
  refine ⟨.pointer (some ⟨w.heap.size,0,none⟩),_,_,?_,k1,k2,ptr_new hn (by simp)⟩
  simp [Instr.box,newVar,newRow,newObj,Sem.run]
theorem setRow_env (w:World) (g:Nat) (cs:Array Value):Env w (w.setRow g cs):=⟨rfl,rfl,rfl⟩
theorem set_row (hR:R P G H w) {b c:Nat} {cs:List AV} (hb:H[b]?=some (.cells cs)) (hc:G.blk b=some c) {C:Array Value} {e:TypeId} (hC:w.heap[c]?=some (.cells C e (0,0)))
    {off:Nat} {vs:List AV} {zs:List Value} (hv:LR G H w vs zs) (h1:vs.all AV.one=true) (hle:off + vs.length≤cs.length) :
    R P G (H.set b (.cells (setAt cs off vs))) (w.setRow c (C.toList.take off ++ zs ++ C.toList.drop (off + zs.length)).toArray) ∧
    Ext G H w G (H.set b (.cells (setAt cs off vs))) (w.setRow c (C.toList.take off ++ zs ++ C.toList.drop (off + zs.length)).toArray):=by
  obtain ⟨C',e',h2,hs,hcl,hcell⟩:=row_at hR hb hc
  rw [hC] at h2
  cases h2
  have hzl:zs.length=vs.length:=hv.1
  have hsz:(w.setRow c (C.toList.take off ++ zs ++ C.toList.drop (off + zs.length)).toArray).heap.size=w.heap.size:=by simp
  have hother:∀ k,k ≠ c→(w.setRow c (C.toList.take off ++ zs ++ C.toList.drop (off + zs.length)).toArray).heap[k]?=w.heap[k]?:=fun k hk=>setRow_other w c k _ hk
  have ht:Turns (.cells cs) (.cells (setAt cs off vs)):=by simp [Turns,length_setAt]
  have hx:=Ext.turn hR hb hc ht (setRow_env w c _) hsz hother
  refine ⟨R.turn hR hb hc ht (setRow_env w c _) hsz hother (.inr ⟨c,_,e,hc,setRow_heap w c C _ e (0,0) hC,?_,?_,fun i x hx'=>?_⟩),hx⟩
  · simp; omega
  · simp [length_setAt]; omega
  ·
    have hlc:LR G H w cs (C.toList.take cs.length):=by
      refine ⟨by simp; omega,fun j y u hy hu=>?_⟩
      obtain ⟨_,u',hu',hvr⟩:=hcell j y hy
      rw [List.getElem?_take,if_pos (lt_of_get hy),Array.getElem?_toList,hu'] at hu
      cases hu
      exact hvr
    have hset:=LR.setAt off hlc hv (by omega)
    obtain ⟨u,hu,hvr⟩:=hset.get hx'
    have hi:i < cs.length:=by have:=lt_of_get hx'; rwa [length_setAt] at this
    have hone:x.one=true:=by

      have : ∀ (vs:List AV) (cs:List AV) (off:Nat) (i:Nat) (x:AV),(∀ (i:Nat) x,cs[i]?=some x→x.one=true)→vs.all AV.one=true→(setAt cs off vs)[i]?=some x→x.one=true:=by
        intro vs
        induction vs with
        | nil=>intro cs off i x hcs _ hx; exact hcs i x hx
        | cons v vs ih =>
          intro cs off i x hcs hvs hx
          simp only [List.all_cons,Bool.and_eq_true] at hvs
          refine ih (cs.set off v) (off + 1) i x (fun j y hy=>?_) hvs.2 hx
          rw [List.getElem?_set] at hy
          split at hy
          · split at hy
            · cases hy; exact hvs.1
            · cases hy
          · exact hcs j y hy
      exact this vs cs off i x (fun j y hy=>(hcell j y hy).1) h1 hx'
    refine ⟨hone,u,?_,hvr.mono hx⟩
    rw [List.getElem?_toArray,← hu,hzl]
    simp only [List.getElem?_append,List.length_append,List.length_take,Array.length_toList,List.getElem?_take,List.getElem?_drop]
    have e1:min off (min cs.length C.size)=min off C.size:=by omega
    rw [e1]
    by_cases h3:i < min off C.size + zs.length
    · rw [if_pos h3,if_pos h3]
      by_cases h4:i < min off C.size
      · simp only [if_pos h4]
        by_cases h5:i < off
        · simp [h5,hi]
        · simp [h5]
      · simp only [if_neg h4]
    · rw [if_neg h3,if_neg h3]
      have:off + vs.length + (i - (min off C.size + zs.length))=i:=by omega
      rw [this,if_pos hi]
theorem sim_store (hR:R P G H w) {t:TypeId} {n:Nat} (hn:tsize P t=some n) {b off ver:Nat} {u v:Value} {y:AV} (hx:VR G H w (.ptr b off ver) u) (hy:VR G H w y v) {cs:List AV} (hrow:row H b ver=some cs)
    (hl:y.cells.length=n) (hle:off + n≤cs.length) (h1:y.cells.all AV.one=true) :
    ∃ w',(Instr.storeAt t u v).run P w=.ok () w'∧R P G (H.set b (.cells (setAt cs off y.cells))) w'∧Ext G H w G (H.set b (.cells (setAt cs off y.cells))) w':=by
  obtain ⟨c,rfl,hc⟩:=hx.ptr_inv hrow
  obtain ⟨hb,hver⟩:=row_some hrow
  obtain ⟨C,e,hC,hs,hcl,hcell⟩:=row_at hR hb hc
  have hyc:=hy.cells
  have hvl:v.cells.size=n:=by have:=hyc.1; simpa [hl] using this
  obtain ⟨k1,k2⟩:=set_row hR hb hc hC hyc h1 (off:=off) (by omega)
  refine ⟨_,?_,k1,k2⟩
  have hst:=run_storeCells_at P c off e v.cells.toList 0 C w hC (by simp; omega) (hyc.oneCells h1)
  simp only [Nat.add_zero] at hst
  have hne:¬ (v.cells.size ≠ n):=by simp [hvl]
  simp only [Instr.storeAt,Instr.sureAddr,storeVar,Sem.run_bind,Sem.run_pure,Result.andThen_ok,run_sizeOf' hn,Sem.run_ite,if_neg hne]
  exact hst
end
end Go.Ai
end
section
namespace Go.Ai
open Go
section
variable {P:Program} {G:Gh} {H:List AObj} {w:World}
theorem Ext.grow {w':World} (he:Env w w') (hs:w.heap.size≤w'.heap.size) (hw:∀ k,k < w.heap.size→w'.heap[k]?=w.heap[k]?) (hR:R P G H w):Ext G H w G H w' :=
  ⟨⟨Nat.le_refl _,he.1,he.2.1,he.2.2,hs,fun k hk=>⟨⟨Nat.lt_of_lt_of_le hk.1 hs,hk.2⟩,hw k hk.1⟩,fun _ cs h=>⟨cs,h,Nat.le_refl _,fun _=>.inl ⟨rfl,rfl⟩⟩,
    fun b _ v es h=>⟨v,es,h,rfl,Nat.le_refl _,fun _=>⟨rfl,fun k hk=>hw k (hR.lt b k (lt_of_get h) hk)⟩⟩,fun _ _ _ r l h=>⟨r,l,h,rfl⟩,fun _ _ _ _ _ r j h=>⟨r,j,h,rfl⟩⟩,fun _ _ _ _ _ _ h=>h⟩
theorem R.grow {w':World} (hR:R P G H w) (he:Env w w') (hs:w.heap.size≤w'.heap.size) (hw:∀ k,k < w.heap.size→w'.heap[k]?=w.heap[k]?):R P G H w' :=
  ⟨hR.inj,fun b c hb h=>Nat.lt_of_lt_of_le (hR.lt b c hb h) hs,fun b o h=>(hR.obj b o h).mono (Ext.grow he hs hw hR) (lt_of_get h) ⟨rfl,rfl⟩ (fun k hk=>hw k (hR.lt b k (lt_of_get h) hk))⟩
theorem run_places (w:World):∀ {fs:List Field} {l:List (Nat × Nat)},fsizes P fs=some l→(fs.mapM (fun f=>do pure (f.offset,← sizeOf f.type)):Sem (List (Nat × Nat))).run P w=.ok l w
  | [],l,h=>by simp [fsizes] at h; subst h; rfl
  | f :: fs,l,h=>by
    simp only [fsizes,Option.bind_eq_some_iff] at h
    obtain ⟨n,hn,l',hl,h⟩:=h
    cases h
    have ih:=run_places w hl
    rw [List.mapM_cons]
    simp only [Sem.run_bind,run_sizeOf' hn,Result.andThen_ok,Sem.run_pure,ih]
theorem parts_of {places:List (Nat × Nat)} {ρ:Regs} {a:Act} (hr:RR G H w ρ a.tmps):∀ {ps:List (Nat × Operand)} {qs:List (Nat × Nat × AOpd)},partsB places ps=some qs →
    Parts (places.toArray[·]?) G H w (qs.map fun p=>(p.1,p.2.1,p.2.2.ev ρ)) (ps.map fun p=>(p.1,a.eval p.2))
  | [],qs,h=>by simp [partsB] at h; subst h; exact .nil
  | (i,x) :: ps,qs,h=>by
    simp only [partsB,Option.bind_eq_some_iff] at h
    obtain ⟨p,hp,y,hy,zs,hzs,h⟩:=h
    cases h
    exact .cons (by simpa using hp) (opd_VR hr hy) (parts_of hr hzs)
theorem partsA_of {size:Nat} {ρ:Regs} {a:Act} (hr:RR G H w ρ a.tmps):∀ {ps:List (Nat × Operand)} {qs:List (Nat × Nat × AOpd)},partsA size ps=some qs →
    Parts (fun i=>some (i * size,size)) G H w (qs.map fun p=>(p.1,p.2.1,p.2.2.ev ρ)) (ps.map fun p=>(p.1,a.eval p.2))
  | [],qs,h=>by simp [partsA] at h; subst h; exact .nil
  | (i,x) :: ps,qs,h=>by
    simp only [partsA,Option.bind_eq_some_iff] at h
    obtain ⟨y,hy,zs,hzs,h⟩:=h
    cases h
    exact .cons rfl (opd_VR hr hy) (partsA_of hr hzs)
theorem partsS_of {size:Nat} {ρ:Regs} {a:Act} (hr:RR G H w ρ a.tmps):∀ {ps:List (Nat × Operand)} {qs:List (Nat × AOpd)},partsS size ps=some qs →
    Parts (fun i=>some (i * size,size)) G H w (qs.map fun p=>(p.1,size,p.2.ev ρ)) (ps.map fun p=>(p.1,a.eval p.2))
  | [],qs,h=>by simp [partsS] at h; subst h; exact .nil
  | (i,x) :: ps,qs,h=>by
    simp only [partsS,Option.bind_eq_some_iff] at h
    obtain ⟨y,hy,zs,hzs,h⟩:=h
    cases h
    exact .cons rfl (opd_VR hr hy) (partsS_of hr hzs)
theorem ps_build_struct {t:TypeId} {fields:Array Field} (ht:P.underlying t=some (.struct fields)) {zs:List AV} (hz:zeroCells P t=some zs) {places:List (Nat × Nat)} (hp:fsizes P fields.toList=some places)
    {xs:List (Nat × Nat × AV)} {us:List (Nat × Value)} (hx:Parts (places.toArray[·]?) G H w xs us) {r:List AV} (hr:fillA zs xs=some r):PS P G H w (Instr.build t us.toArray) (.agg r):=by
  obtain ⟨i,v,hi,hv,ho⟩:=zeroCells_some hz
  obtain ⟨ys,hys,hl⟩:=fill_ok hx (ofVals1_LR ho) hr
  refine ⟨.agg ys.toArray,?_,.agg _ _ hl.1 hl.2⟩
  have hm:(fields.mapM (fun f=>do pure (f.offset,← sizeOf f.type)):Sem (Array (Nat × Nat))).run P w=.ok places.toArray w:=by
    have:=run_places w hp
    rw [Array.mapM_eq_mapM_toList]
    show ((List.toArray <$> (fields.toList.mapM (fun f=>do pure (f.offset,← sizeOf f.type)):Sem (List (Nat × Nat)))).run P w)=_
    rw [← bind_pure_comp,Sem.run_bind,this]
    rfl
  have hz':(zeroValue t).run P w=.ok v w:=run_zeroValue' hi hv w
  simp only [Instr.build,Sem.run_bind,hz',Result.andThen_ok,run_und ht,hm]
  simp only [Array.toArray_toList] at hys
  rw [hys]
  rfl
theorem ps_build_array {t e:TypeId} {n size:Nat} (ht:P.underlying t=some (.array n e)) (hn:tsize P e=some size) {zs:List AV} (hz:zeroCells P t=some zs)
    {xs:List (Nat × Nat × AV)} {us:List (Nat × Value)} (hx:Parts (fun i=>some (i * size,size)) G H w xs us) {r:List AV} (hr:fillA zs xs=some r):PS P G H w (Instr.build t us.toArray) (.agg r):=by
  obtain ⟨i,v,hi,hv,ho⟩:=zeroCells_some hz
  obtain ⟨ys,hys,hl⟩:=fill_ok hx (ofVals1_LR ho) hr
  refine ⟨.agg ys.toArray,?_,.agg _ _ hl.1 hl.2⟩
  have hz':(zeroValue t).run P w=.ok v w:=run_zeroValue' hi hv w
  simp only [Instr.build,Sem.run_bind,hz',Result.andThen_ok,run_und ht,run_sizeOf' hn]
  simp only [Array.toArray_toList] at hys
  rw [hys]
  rfl
theorem get_replicate_flatten {α:Type} (z:List α):∀ (n i:Nat),i < n * z.length→(List.replicate n z).flatten[i]?=z[i % z.length]?
  | 0,i,h=>by simp at h
  | n + 1,i,h=>by
    have h0:0 < z.length:=by
      rcases Nat.eq_zero_or_pos z.length with h1 | h1
      · simp [h1] at h
      · exact h1
    rw [List.replicate_succ,List.flatten_cons]
    by_cases hi:i < z.length
    · rw [List.getElem?_append_left hi,Nat.mod_eq_of_lt hi]
    · rw [List.getElem?_append_right (by omega),get_replicate_flatten z n (i - z.length) (by rw [Nat.succ_mul] at h; omega)]
      congr 1
      rw [Nat.mod_eq_sub_mod (by omega:i ≥ z.length)]
theorem length_replicate_flatten {α:Type} (z:List α) (n:Nat):(List.replicate n z).flatten.length=n * z.length:=by simp
theorem zeros_LR {z:List AV} {Z:Array Value} (hl:LR G H w z Z.toList) (h0:0 < z.length) (n:Nat):LR G H w (List.replicate n z).flatten ((Array.range (n * z.length)).map (Z[· % Z.size]!)).toList:=by
  have hZ:Z.size=z.length:=by have:=hl.1; simpa using this
  refine ⟨by simp,fun i x u hx hu=>?_⟩
  have hi:i < n * z.length:=by have:=lt_of_get hx; rwa [length_replicate_flatten] at this
  rw [get_replicate_flatten z n i hi] at hx
  have hm:i % z.length < z.length:=Nat.mod_lt _ h0
  have hu':Z.toList[i % z.length]?=some u:=by
    have e:((Array.range (n * z.length)).map (Z[· % Z.size]!)).toList[i]?=some (Z[i % Z.size]!):=by simp [hi]
    rw [e] at hu
    cases hu
    rw [hZ,Array.getElem?_toList]
    rw [getElem!_pos Z (i % z.length) (by rw [hZ]; exact hm)]
    exact Array.getElem?_eq_getElem _
  exact hl.2 _ x u hx hu'
theorem length_fillA:∀ {xs:List (Nat × Nat × AV)} {cs r:List AV},fillA cs xs=some r→r.length=cs.length
  | [],cs,r,h=>by simp [fillA] at h; subst h; rfl
  | (o,s,v) :: xs,cs,r,h=>by
    simp only [fillA] at h
    split at h
    · rw [length_fillA h,length_setAt]
    · cases h
theorem length_chunk (size:Nat):∀ (n:Nat) (l:List AV),(chunk size n l).length=n
  | 0,_=>rfl
  | n + 1,l=>by simp [chunk,length_chunk size n]
theorem chunk_get (size:Nat):∀ (n:Nat) (l:List AV) (i:Nat) (e:List AV),(chunk size n l)[i]?=some e→i < n∧e=(l.drop (i * size)).take size
  | 0,l,i,e,h=>by simp [chunk] at h
  | n + 1,l,i,e,h=>by
    cases i with
    | zero=>simp [chunk] at h; subst h; simp
    | succ i =>
      simp only [chunk,List.getElem?_cons_succ] at h
      obtain ⟨h1,h2⟩:=chunk_get size n (l.drop size) i e h
      refine ⟨by omega,?_⟩
      rw [h2,List.drop_drop]
      congr 2
      rw [Nat.succ_mul]; omega
theorem VR.toPR {x:AV} {u:Value} (h:VR G H w x u):x.clean=true→PR w (Stable G H.length w) x u:=by
  induction h with
  | pure _ _ h=>exact fun _=>h
  | agg cs us hl _ ih =>
    intro hc
    refine .agg cs us hl (fun i x u hx hu=>ih i x u hx hu ?_)
    simp only [AV.clean] at hc
    have:∀ (l:List AV),cleanL l=true→∀ x ∈ l,x.clean=true:=by
      intro l
      induction l with
      | nil=>intro _ x hx; cases hx
      | cons a l ih=>intro h x hx; simp only [cleanL,Bool.and_eq_true] at h; cases hx with | head=>exact h.1 | tail _ hx=>exact ih h.2 x hx
    exact this cs hc x (List.mem_of_getElem? hx)
  | iface t x u _ ih=>intro hc; exact .iface t x u (ih hc)
  | tup=>intro hc; simp [AV.clean] at hc
  | fn=>intro hc; simp [AV.clean] at hc
  | ptr=>intro hc; simp [AV.clean] at hc
  | sref=>intro hc; simp [AV.clean] at hc
  | vptr=>intro hc; simp [AV.clean] at hc
  | map=>intro hc; simp [AV.clean] at hc
  | yield=>intro hc; simp [AV.clean] at hc
  | iter=>intro hc; simp [AV.clean] at hc
theorem cleanL_mem:∀ {l:List AV},cleanL l=true→∀ x ∈ l,x.clean=true
  | [],_,x,hx=>by cases hx
  | a :: l,h,x,hx=>by
    simp only [cleanL,Bool.and_eq_true] at h
    cases hx with
    | head=>exact h.1
    | tail _ hx=>exact cleanL_mem h.2 x hx
theorem slice_of_row {G:Gh} {n0:Nat} {w:World} {cs:List AV} {c off:Nat} {f:Nat→Value} (hS:Stable G n0 w c) {size n cap:Nat} (h0:0 < size) (hlen:cs.length=n * size) (hcap:n≤cap) (full:Bool) (hfull:full=true→cap=n)
    (hc:∀ (i:Nat) x,cs[i]?=some x→w.cell? ⟨c,off + i,none⟩=some (f i)∧PR w (Stable G n0 w) x (f i)) :
    PR w (Stable G n0 w) (.slice full size (chunk size n cs)) (.slice (some ⟨c,off,none⟩) n cap):=by
  by_cases hn:n=0
  · subst hn
    exact .slice0 _ _ _ _ hfull
  · have hl:=length_chunk size n cs
    have hget:∀ (i:Nat) e (j:Nat) x,(chunk size n cs)[i]?=some e→e[j]?=some x→cs[i * size + j]?=some x:=by
      intro i e j x he hx
      obtain ⟨_,rfl⟩:=chunk_get size n cs i e he
      rw [List.getElem?_take] at hx
      split at hx
      · rwa [List.getElem?_drop] at hx
      · cases hx
    have := PR.slice (w:=w) (S:=Stable G n0 w) full size (chunk size n cs) c off cap (fun i j=>f (i * size + j)) (fun e=>hn (by rw [← hl,e]; rfl)) (by omega) (fun h=>by rw [hl]; exact hfull h) hS h0
      (fun e he=>by
        obtain ⟨i,hi⟩:=List.mem_iff_getElem?.1 he
        obtain ⟨h1,rfl⟩:=chunk_get size n cs i e hi
        have:i * size + size≤n * size:=by rw [← Nat.succ_mul]; exact Nat.mul_le_mul_right _ h1
        simp; omega)
      (fun i e j x he hx=>by rw [Nat.add_assoc]; exact (hc _ x (hget i e j x he hx)).1)
      (fun i e j x he hx=>(hc _ x (hget i e j x he hx)).2)
    rwa [hl] at this
theorem sim_lit (hR:R P G H w) {t e:TypeId} (ht:P.underlying t=some (.slice e)) {size len:Nat} (hn:tsize P e=some size) (h0:0 < size) (hmax:len * size≤1024) {z:List AV} (hz:zeroCells P e=some z) (hzl:z.length=size)
    {xs:List (Nat × Nat × AV)} {us:List (Nat × Value)} (hx:Parts (fun i=>some (i * size,size)) G H w xs us) {r:List AV} (hr:fillA (List.replicate len z).flatten xs=some r) (h1:r.all AV.one=true) :
    (∃ u w' G',(Instr.buildSlice t len us.toArray).run P w=.ok u w'∧R P G' (H ++ [.cells r]) w'∧Ext G H w G' (H ++ [.cells r]) w'∧VR G' (H ++ [.cells r]) w' (.sref H.length 0 (r.length / size) r.length size) u) ∧
    (cleanL r=true→∃ u w',(Instr.buildSlice t len us.toArray).run P w=.ok u w'∧R P G H w'∧Ext G H w G H w'∧VR G H w' (.slice true size (chunk size (r.length / size) r)) u):=by
  obtain ⟨i,v,hi,hv,ho⟩:=zeroCells_some hz
  have hzL:=zeros_LR (n:=len) (ofVals1_LR (G:=G) (H:=H) (w:=w) ho) (by omega)
  obtain ⟨ys,hys,hl⟩:=fill_ok hx hzL hr
  have hrl:r.length=len * size:=by rw [length_fillA hr,length_replicate_flatten,hzl]
  have hdiv:r.length / size=len:=by rw [hrl]; exact Nat.mul_div_cancel _ h0
  have hvs:v.cells.size=size:=by have:=(ofVals1_LR (G:=G) (H:=H) (w:=w) ho).1; simp at this; omega
  have hrun:(Instr.buildSlice t len us.toArray).run P w=.ok (.slice (some ⟨w.heap.size,0,none⟩) len len) (w.alloc (.cells ys.toArray e)):=by
    have hz':(zeroValue e).run P w=.ok v w:=run_zeroValue' hi hv w
    have hbig:¬ (len * size > 2 ^ 24):=by omega
    simp only [Array.toArray_toList] at hys
    rw [hzl] at hys
    simp only [Instr.buildSlice,Sem.run_bind,run_und ht,Result.andThen_ok,run_sizeOf' hn,if_neg hbig]
    by_cases hz0:len * size=0
    · have hl0:len=0:=by
        rcases Nat.mul_eq_zero.1 hz0 with h | h
        · exact h
        · omega
      subst hl0
      have e1:∀ f:Nat→Value,(Array.range (0 * size)).map f=#[]:=by intro f; simp
      rw [e1] at hys
      simp only [if_pos hz0,e1]
      rw [hys]
      rfl
    · simp only [if_neg hz0,Sem.run_bind,hz',Sem.run_pure,Result.andThen_ok]
      rw [hys]
      rfl
  constructor
  · obtain ⟨k1,k2⟩:=new_row hR hl h1 e (w':=w.alloc (.cells ys.toArray e)) rfl (env_alloc _ _)
    refine ⟨_,_,_,hrun,k1,k2,?_⟩
    rw [hdiv]
    refine .sref _ _ _ _ _ _ _ (by simp) (fun cs' h=>?_) (fun cs' h _=>.inr ⟨w.heap.size,by simp,rfl,?_,Nat.le_refl _,?_,h0⟩)
    · rw [get_append_eq] at h; cases h; exact Nat.le_refl _
    · simp; rw [hl.1,hrl]
    · simp [hrl]
  · intro hcl
    have hs:w.heap.size≤(w.alloc (.cells ys.toArray e)).heap.size:=by simp
    have hw:∀ k,k < w.heap.size→(w.alloc (.cells ys.toArray e)).heap[k]?=w.heap[k]?:=fun k hk=>heap_alloc_lt w _ hk
    have hx':=Ext.grow (env_alloc _ _) hs hw hR
    have hR':=R.grow hR (env_alloc _ _) hs hw
    refine ⟨_,_,hrun,hR',hx',?_⟩
    rw [hdiv]
    have hS:Stable G H.length (w.alloc (.cells ys.toArray e)) w.heap.size:=⟨by simp,fun b hb h=>absurd (hR.lt b _ hb h) (Nat.lt_irrefl _)⟩
    refine .pure _ _ (slice_of_row (f:=fun i=>(ys[i]?).getD undef) hS h0 hrl (Nat.le_refl _) true (fun _=>rfl) (fun i x hx=>?_))
    obtain ⟨u,hu,hvr⟩:=hl.get hx
    refine ⟨?_,?_⟩
    · show (match (w.alloc (.cells ys.toArray e)).heap[w.heap.size]? with | some (.cells c _ _)=>c[0 + i]? | _=>none)=_
      rw [heap_alloc_at,Nat.zero_add]
      simp [hu]
    · rw [hu]
      exact (hvr.mono hx').toPR (cleanL_mem hcl x (List.mem_of_getElem? hx))
end
end Go.Ai
end
section
namespace Go.Ai
open Go
section
variable {P:Program} {G:Gh} {H:List AObj} {w:World}
theorem flatten_get {α:Type} {sz:Nat} (h0:0 < sz):∀ (es:List (List α)) (k:Nat),(∀ e,e ∈ es→e.length=sz)→es.flatten[k]?=(es[k / sz]?).bind fun e=>e[k % sz]?
  | [],k,_=>by simp
  | e :: es,k,h=>by
    have he:e.length=sz:=h e (.head _)
    rw [List.flatten_cons]
    by_cases hk:k < sz
    · rw [List.getElem?_append_left (by omega),Nat.div_eq_of_lt hk,Nat.mod_eq_of_lt hk]; rfl
    · rw [List.getElem?_append_right (by omega),flatten_get h0 es (k - e.length) (fun x hx=>h x (.tail _ hx)),he]
      have e1:k / sz=(k - sz) / sz + 1:=by rw [Nat.div_eq_sub_div h0 (by omega)]
      have e2:k % sz=(k - sz) % sz:=by rw [Nat.mod_eq_sub_mod (by omega)]
      rw [e1,e2]; rfl
theorem flatten_len {α:Type} {sz:Nat}:∀ (es:List (List α)),(∀ e,e ∈ es→e.length=sz)→es.flatten.length=es.length * sz
  | [],_=>by simp
  | e :: es,h=>by
    rw [List.flatten_cons,List.length_append,flatten_len es (fun x hx=>h x (.tail _ hx)),h e (.head _),List.length_cons,Nat.succ_mul]
    omega
theorem first_cells (hR:R P G H w) {size:Nat} {y:AV} {u:Value} (hy:VR G H w y u) {n:Nat} {cs:List AV} (hq:rowOf H size y=some (n,cs)) (hl:cs.length=n * size) :
    ∃ a cap news,u=.slice a n cap∧LR G H w cs news∧(∀ w':World,w'.heap=w.heap→(Builtin.firstCells size n u).run P w'=.ok news.toArray w') ∧
      (∀ m,m≤n→∀ w':World,w'.heap=w.heap→(Builtin.firstCells size m u).run P w'=.ok (news.take (m * size)).toArray w'):=by

  have key:∀ (b:Addr) (cap:Nat) (news:List Value),u=.slice (some b) n cap→LR G H w cs news→(∀ (j:Nat) v,news[j]?=some v→w.cell? (b.add j)=some v) →
      ∃ a cap news,u=.slice a n cap∧LR G H w cs news∧(∀ w':World,w'.heap=w.heap→(Builtin.firstCells size n u).run P w'=.ok news.toArray w') ∧
      (∀ m,m≤n→∀ w':World,w'.heap=w.heap→(Builtin.firstCells size m u).run P w'=.ok (news.take (m * size)).toArray w'):=by
    intro b cap news hu hL hc
    subst hu
    have hcell:∀ (w':World),w'.heap=w.heap→∀ (j:Nat) v,news[j]?=some v→w'.cell? (b.add j)=some v:=fun w' hw j v hv=>by
      rw [World.cell?_of_block (w:=w) (by rw [hw])]; exact hc j v hv
    refine ⟨some b,cap,news,rfl,hL,fun w' hw=>run_firstCells_some w' size n b n cap news (by rw [hL.1,hl]) (hcell w' hw),fun m hm w' hw=>?_⟩
    refine run_firstCells_some w' size m b n cap (news.take (m * size)) ?_ (fun j v hv=>hcell w' hw j v ?_)
    · rw [List.length_take,hL.1,hl,Nat.min_eq_left (Nat.mul_le_mul_right _ hm)]
    · rw [List.getElem?_take] at hv
      split at hv
      · exact hv
      · cases hv
  have zero:n=0→(∃ a cap,u=.slice a n cap)→∃ a cap news,u=.slice a n cap∧LR G H w cs news∧(∀ w':World,w'.heap=w.heap→(Builtin.firstCells size n u).run P w'=.ok news.toArray w') ∧
      (∀ m,m≤n→∀ w':World,w'.heap=w.heap→(Builtin.firstCells size m u).run P w'=.ok (news.take (m * size)).toArray w'):=by
    rintro rfl ⟨a,cap,rfl⟩
    have hcs:cs=[]:=List.eq_nil_of_length_eq_zero (by omega)
    subst hcs
    cases a with
    | some b=>exact key b cap [] rfl .nil (fun j v hv=>by simp at hv)
    | none =>
      refine ⟨none,cap,[],rfl,.nil,fun w' _=>run_firstCells_none w' size 0 0 cap,fun m hm w' _=>?_⟩
      simpa using run_firstCells_none w' size m 0 cap
  cases y with
  | slice full sz es =>
    simp only [rowOf] at hq
    split at hq
    · rename_i hz
      cases hq
      cases hy with
      | pure _ _ h =>
        cases h with
        | slice0 _ _ a cap h=>exact zero rfl ⟨a,cap,rfl⟩
        | slice _ _ _ c off cap f hne hcap hfull hS hsz hlen hc hv =>
          have hsz':sz=size:=by rcases hz with h | h; exact h; exact absurd h hne
          subst hsz'
          have hget:∀ (k:Nat) x,es.flatten[k]?=some x→∃ e,es[k / sz]?=some e∧e[k % sz]?=some x:=by
            intro k x hk
            rw [flatten_get hsz es k hlen] at hk
            simpa [Option.bind_eq_some_iff] using hk
          have hnl:es.flatten.length=es.length * sz:=flatten_len es hlen
          refine key ⟨c,off,none⟩ cap ((List.range (es.length * sz)).map fun k=>f (k / sz) (k % sz)) rfl ⟨by simp [hnl],fun i x u hx hu=>?_⟩ (fun j v hj=>?_)
          · obtain ⟨e,he,hx'⟩:=hget i x hx
            have hi:i < es.length * sz:=by rw [← hnl]; exact lt_of_get hx
            rw [List.getElem?_map,List.getElem?_range hi] at hu
            cases hu
            exact .pure _ _ (hv _ e _ x he hx')
          · have hj':j < es.length * sz:=by have:=lt_of_get hj; simpa using this
            rw [List.getElem?_map,List.getElem?_range hj'] at hj
            cases hj
            obtain ⟨x,hx⟩:=get_of_lt (l:=es.flatten) (i:=j) (by rw [hnl]; exact hj')
            obtain ⟨e,he,hx'⟩:=hget j x hx
            have:=hc _ e _ x he hx'
            rw [addr_add]
            rw [show off + j=off + j / sz * sz + j % sz by rw [Nat.add_assoc,Nat.mul_comm,Nat.div_add_mod]]
            exact this
    · cases hq
  | sref b off len ver sz =>
    simp only [rowOf] at hq
    split at hq
    · rename_i hz
      subst hz
      simp only [Option.bind_eq_some_iff] at hq
      obtain ⟨row,hrow,hq⟩:=hq
      cases hq
      obtain ⟨hb,hver⟩:=row_some hrow
      cases hy with
      | pure _ _ h=>cases h
      | sref _ _ _ _ _ a cap _ hv h =>
        rcases h row hb hver with ⟨_,h1,h2,h3,rfl,rfl⟩ | ⟨c,hc,rfl,hsiz,hcap,hle,h0⟩
        · subst h3; exact zero rfl ⟨none,0,rfl⟩
        · obtain ⟨C,e,hC,hCs,hcl,hcell⟩:=row_at hR hb hc
          refine key ⟨c,off,none⟩ cap ((C.toList.drop off).take (n * sz)) rfl ⟨?_,fun i x u hx hu=>?_⟩ (fun j v hj=>?_)
          · simp; omega
          · rw [List.getElem?_take] at hx hu
            split at hx
            · rename_i hi
              rw [if_pos hi,List.getElem?_drop] at hu
              rw [List.getElem?_drop] at hx
              obtain ⟨_,u',hu',hvr⟩:=hcell _ x hx
              rw [Array.getElem?_toList,hu'] at hu
              cases hu
              exact hvr
            · cases hx
          · rw [List.getElem?_take] at hj
            split at hj
            · rw [List.getElem?_drop,Array.getElem?_toList] at hj
              rw [addr_add]
              simp [World.cell?,hC,hj]
            · cases hj
    · cases hq
  | _=>simp [rowOf] at hq
theorem ext_row (hR:R P G H w) {b c:Nat} {cs:List AV} (hb:H[b]?=some (.cells cs)) (hc:G.blk b=some c) {C:Array Value} {e:TypeId} (hC:w.heap[c]?=some (.cells C e (0,0)))
    {k:Nat} {vs:List AV} {zs:List Value} (hv:LR G H w vs zs) (h1:vs.all AV.one=true) (hk:k≤cs.length) (hlong:cs.length≤k + vs.length) (hfit:k + vs.length≤C.size) :
    R P G (H.set b (.cells (cs.take k ++ vs))) (w.setRow c (C.toList.take k ++ zs ++ C.toList.drop (k + zs.length)).toArray) ∧
    Ext G H w G (H.set b (.cells (cs.take k ++ vs))) (w.setRow c (C.toList.take k ++ zs ++ C.toList.drop (k + zs.length)).toArray):=by
  obtain ⟨C',e',h2,hs,hcl,hcell⟩:=row_at hR hb hc
  rw [hC] at h2
  cases h2
  have hzl:zs.length=vs.length:=hv.1
  have hsz:(w.setRow c (C.toList.take k ++ zs ++ C.toList.drop (k + zs.length)).toArray).heap.size=w.heap.size:=by simp
  have hother:∀ x,x ≠ c→(w.setRow c (C.toList.take k ++ zs ++ C.toList.drop (k + zs.length)).toArray).heap[x]?=w.heap[x]?:=fun x hx=>setRow_other w c x _ hx
  have ht:Turns (.cells cs) (.cells (cs.take k ++ vs)):=by simp [Turns]; omega
  have hx:=Ext.turn hR hb hc ht (setRow_env w c _) hsz hother
  refine ⟨R.turn hR hb hc ht (setRow_env w c _) hsz hother (.inr ⟨c,_,e,hc,setRow_heap w c C _ e (0,0) hC,?_,?_,fun i x hx'=>?_⟩),hx⟩
  · simp; omega
  · simp; omega
  · have hlc:LR G H w (cs.take k) (C.toList.take k):=by
      refine ⟨by simp; omega,fun j y u hy hu=>?_⟩
      rw [List.getElem?_take] at hy hu
      split at hy
      · rename_i hj
        obtain ⟨_,u',hu',hvr⟩:=hcell j y hy
        rw [if_pos hj,Array.getElem?_toList,hu'] at hu
        cases hu
        exact hvr
      · cases hy
    obtain ⟨u,hu,hvr⟩:=(hlc.append hv).get hx'
    refine ⟨?_,u,?_,hvr.mono hx⟩
    · rcases List.mem_append.1 (List.mem_of_getElem? hx') with hm | hm
      · obtain ⟨j,hj⟩:=List.mem_iff_getElem?.1 (List.mem_of_mem_take hm)
        exact (hcell j x hj).1
      · exact List.all_eq_true.1 h1 x hm
    · rw [List.getElem?_toArray,List.getElem?_append_left (lt_of_get hu)]
      exact hu
theorem move_row (hR:R P G H w) {b:Nat} {cs cs':List AV} (hb:H[b]?=some (.cells cs)) (hl:cs.length < cs'.length) {us rest:List Value} (hv:LR G H w cs' us) (h1:cs'.all AV.one=true) (e:TypeId)
    {w':World} (hw:w'.heap=w.heap.push (.cells (us ++ rest).toArray e (0,0))) (he:Env w w') :
    R P (G.upd b (some w.heap.size) (us.length + rest.length)) (H.set b (.cells cs')) w'∧Ext G H w (G.upd b (some w.heap.size) (us.length + rest.length)) (H.set b (.cells cs')) w':=by
  have hlt:∀ k,k < w.heap.size→w'.heap[k]?=w.heap[k]?:=fun k hk=>by rw [hw,Array.getElem?_push,if_neg (by omega)]
  have hat:w'.heap[w.heap.size]?=some (.cells (us ++ rest).toArray e (0,0)):=by rw [hw]; simp
  have hs:w.heap.size < w'.heap.size:=by rw [hw]; simp
  have hx:=Ext.move hR hb hl (us.length + rest.length) he (Nat.le_of_lt hs) hlt
  refine ⟨R.move hR hb hl _ he hs hlt (.inr ⟨w.heap.size,_,e,by simp,hat,by simp,by simp [hv.1],fun i x hx'=>?_⟩),hx⟩
  obtain ⟨u,hu,hvr⟩:=hv.get hx'
  refine ⟨List.all_eq_true.1 h1 x (List.mem_of_getElem? hx'),u,?_,hvr.mono hx⟩
  rw [List.getElem?_toArray,List.getElem?_append_left (lt_of_get hu)]
  exact hu
theorem new_row_cap (hR:R P G H w) {cs:List AV} {us rest:List Value} (hl:LR G H w cs us) (h1:cs.all AV.one=true) (e:TypeId) {w':World} (hw:w'.heap=w.heap.push (.cells (us ++ rest).toArray e (0,0))) (he:Env w w') :
    R P (G.upd H.length (some w.heap.size) (us.length + rest.length)) (H ++ [.cells cs]) w'∧Ext G H w (G.upd H.length (some w.heap.size) (us.length + rest.length)) (H ++ [.cells cs]) w':=by
  have hlt:∀ k,k < w.heap.size→w'.heap[k]?=w.heap[k]?:=fun k hk=>by rw [hw,Array.getElem?_push,if_neg (by omega)]
  have hat:w'.heap[w.heap.size]?=some (.cells (us ++ rest).toArray e (0,0)):=by rw [hw]; simp
  have hs:w.heap.size < w'.heap.size:=by rw [hw]; simp
  have hx:=Ext.push hR (.cells cs) (some w.heap.size) (us.length + rest.length) he (Nat.le_of_lt hs) hlt (fun k hk=>by cases hk; rfl)
  refine ⟨R.push hR _ _ _ he (Nat.le_of_lt hs) hlt (fun k hk=>by cases hk; exact ⟨rfl,hs⟩) (.inr ⟨w.heap.size,_,e,by simp,hat,by simp,by simp [hl.1],fun i x hx'=>?_⟩),hx⟩
  obtain ⟨u,hu,hv⟩:=hl.get hx'
  refine ⟨List.all_eq_true.1 h1 x (List.mem_of_getElem? hx'),u,?_,hv.mono hx⟩
  rw [List.getElem?_toArray,List.getElem?_append_left (lt_of_get hu)]
  exact hu
theorem run_append_none {t u ty e e2:TypeId} {i:TypeInfo} (ht:P.underlying t=some (.slice e)) (hu:P.underlying u=some (.slice e2)) (hi:P.info? e=some i)
    {base:Option Addr} {n cap:Nat} (hcap:n≤cap) {a:Option Addr} {c:Nat} (hf:(Builtin.firstCells i.size 0 (.slice a 0 c)).run P w=.ok #[] w) :
    (Builtin.append_ #[t,u] ty #[.slice base n cap,.slice a 0 c]).run P w=.ok (.slice base n cap) w:=by
  cases base <;> simp [Builtin.append_,run_underlying ht,run_underlying hu,sizeOf,typeInfo,hi,Builtin.lenOf,hcap,hf,storeCells]
theorem run_append_in {t u ty e e2:TypeId} {i:TypeInfo} (ht:P.underlying t=some (.slice e)) (hu:P.underlying u=some (.slice e2)) (hi:P.info? e=some i)
    {g sLen sCap:Nat} {cur:Array Value} {e3:TypeId} (hg:w.heap[g]?=some (.cells cur e3 (0,0)))
    {a:Option Addr} {m c:Nat} {news:List Value} (hf:(Builtin.firstCells i.size m (.slice a m c)).run P w=.ok news.toArray w) (h1:∀ u ∈ news,u.oneCell'=true)
    (hroom:sLen + m≤sCap) (hfit:sLen * i.size + news.length≤cur.size) :
    (Builtin.append_ #[t,u] ty #[.slice (some ⟨g,0,none⟩) sLen sCap,.slice a m c]).run P w =
      .ok (.slice (some ⟨g,0,none⟩) (sLen + m) sCap) (w.setRow g (cur.toList.take (sLen * i.size) ++ news ++ cur.toList.drop (sLen * i.size + news.length)).toArray):=by
  have hst:=run_storeCells_at P g (sLen * i.size) e3 news 0 cur w hg (by simpa using hfit) h1
  simp only [Nat.add_zero] at hst
  simp [Builtin.append_,run_underlying ht,run_underlying hu,sizeOf,typeInfo,hi,Builtin.lenOf,hroom,hf,Addr.add_lit,hst]
theorem run_append_new {t u ty e e2:TypeId} {i:TypeInfo} {z:Value} (ht:P.underlying t=some (.slice e)) (hu:P.underlying u=some (.slice e2)) (hi:P.info? e=some i) (hz:i.zero=some z)
    {base:Option Addr} {sLen sCap:Nat} {olds:List Value} (hfo:(Builtin.firstCells i.size sLen (.slice base sLen sCap)).run P w.drew=.ok olds.toArray w.drew)
    {a:Option Addr} {m c:Nat} {news:List Value} (hf:(Builtin.firstCells i.size m (.slice a m c)).run P w.drew=.ok news.toArray w.drew)
    (hg:sCap < sLen + m) (hb0:0 < i.bytes) (hfit:(sLen + m) * i.bytes≤140737488355328) :
    (Builtin.append_ #[t,u] ty #[.slice base sLen sCap,.slice a m c]).run P w =
      .ok (.slice (some ⟨w.heap.size,0,none⟩) (sLen + m) (grownCap w (sLen + m) sCap e))
        (w.drew.alloc (.cells ((olds ++ news) ++ (Builtin.zeroCells z.cells (grownCap w (sLen + m) sCap e - (sLen + m))).toList).toArray e)):=by
  have hn:¬ (sLen + m≤sCap):=by omega
  have hb0':¬ i.bytes=0:=by omega
  have h48':¬ (281474976710656 < Builtin.nextslicecap (sLen + m) sCap * i.bytes):=by have:=growslice_fits hg hfit; omega
  simp [Builtin.append_,run_underlying ht,run_underlying hu,sizeOf,typeInfo,zeroValue,hi,hz,Builtin.lenOf,hn,hb0',h48',Question.forced,hf,hfo,newRow,grownCap]
  congr 2
  apply Array.ext'
  simp
theorem grown_sizes {z:Value} {size:Nat} (hz:z.cells.size=size) {need old:Nat} (w:World) (e:TypeId):(Builtin.zeroCells z.cells (grownCap w need old e - need)).toList.length=(grownCap w need old e - need) * size:=by
  rw [Array.length_toList,size_zeroCells,hz]
theorem env_drew_alloc (w:World) (o:Obj):Env w (w.drew.alloc o):=⟨rfl,rfl,rfl⟩
theorem sim_app_slice (hR:R P G H w) {t u e e2 ty:TypeId} {i:TypeInfo} {z:Value} (ht:P.underlying t=some (.slice e)) (hu:P.underlying u=some (.slice e2)) (hi:P.info? e=some i) (hz:i.zero=some z) (hzs:z.cells.size=i.size)
    (h0:0 < i.size) (hb0:0 < i.bytes) {sz:Nat} {es:List (List AV)} {x y:Value} (hx:VR G H w (.slice true sz es) x) {q:AV} (hy:VR G H w q y) {n:Nat} {cs:List AV} (hq:rowOf H i.size q=some (n,cs)) (hn:n ≠ 0)
    (hsz:sz=i.size∨es=[]) (hfit:(es.length + n) * i.bytes≤140737488355328) (hl1:es.flatten.length=es.length * i.size) (hl2:cs.length=n * i.size) (ho1:es.flatten.all AV.one=true) (ho2:cs.all AV.one=true) :
    ∃ r w' G',(Builtin.append_ #[t,u] ty #[x,y]).run P w=.ok r w'∧R P G' (H ++ [.cells (es.flatten ++ cs)]) w'∧Ext G H w G' (H ++ [.cells (es.flatten ++ cs)]) w' ∧
      VR G' (H ++ [.cells (es.flatten ++ cs)]) w' (.sref H.length 0 (es.length + n) ((es.length + n) * i.size) i.size) r:=by
  obtain ⟨a,cap,news,rfl,hL,hf,_⟩:=first_cells hR hy hq hl2
  have hqx:rowOf H i.size (.slice true sz es)=some (es.length,es.flatten):=by simp [rowOf,hsz]
  obtain ⟨base,capx,olds,rfl,hLo,hfo,_⟩:=first_cells hR hx hqx hl1
  have hcap:capx=es.length:=by
    cases hx with
    | pure _ _ h=>cases h with
      | slice0 _ _ _ _ h=>exact h rfl
      | slice _ _ _ _ _ _ _ _ _ hfull=>exact hfull rfl
  subst hcap
  have hg:es.length < es.length + n:=by omega
  have hrun:=run_append_new (w:=w) (ty:=ty) ht hu hi hz (hfo w.drew rfl) (hf w.drew rfl) hg hb0 hfit
  have hge:=grownCap_ge w (es.length + n) es.length e
  have hlen:(es.flatten ++ cs).length=(es.length + n) * i.size:=by rw [List.length_append,hl1,hl2,Nat.add_mul]
  obtain ⟨k1,k2⟩:=new_row_cap hR (hLo.append hL) (by rw [List.all_append,ho1,ho2]; rfl) e (w':=w.drew.alloc _) (rest:=(Builtin.zeroCells z.cells (grownCap w (es.length + n) es.length e - (es.length + n))).toList) rfl (env_drew_alloc _ _)
  refine ⟨_,_,_,hrun,k1,k2,?_⟩
  refine .sref _ _ _ _ _ _ _ (by simp) (fun cs' h=>?_) (fun cs' h _=>.inr ⟨w.heap.size,by simp,rfl,?_,hge,?_,h0⟩)
  · rw [get_append_eq] at h; cases h; rw [hlen]; exact Nat.le_refl _
  · rw [Gh.upd_siz_same,(hLo.append hL).1,hlen,grown_sizes hzs,← Nat.add_mul,Nat.zero_add]
    congr 1
    omega
  · rw [Nat.zero_add]; exact Nat.le_refl _
theorem sim_app_sref (hR:R P G H w) {t u e e2 ty:TypeId} {i:TypeInfo} {z:Value} (ht:P.underlying t=some (.slice e)) (hu:P.underlying u=some (.slice e2)) (hi:P.info? e=some i) (hz:i.zero=some z) (hzs:z.cells.size=i.size)
    (h0:0 < i.size) (hb0:0 < i.bytes) {b len ver:Nat} {x y:Value} (hx:VR G H w (.sref b 0 len ver i.size) x) {rw':List AV} (hrow:row H b ver=some rw') {q:AV} (hy:VR G H w q y) {n:Nat} {cs:List AV}
    (hq:rowOf H i.size q=some (n,cs)) (hn:n ≠ 0) (hfit:(len + n) * i.bytes≤140737488355328) (hl2:cs.length=n * i.size) (ho2:cs.all AV.one=true) (hle:len * i.size≤ver) :
    ∃ r w' G',(Builtin.append_ #[t,u] ty #[x,y]).run P w=.ok r w'∧R P G' (H.set b (.cells (appRow rw' cs (len * i.size) ver))) w'∧Ext G H w G' (H.set b (.cells (appRow rw' cs (len * i.size) ver))) w' ∧
      VR G' (H.set b (.cells (appRow rw' cs (len * i.size) ver))) w' (.sref b 0 (len + n) (appRow rw' cs (len * i.size) ver).length i.size) r:=by
  obtain ⟨hb,hver⟩:=row_some hrow
  have hbl:=lt_of_get hb
  obtain ⟨a,cap,news,rfl,hL,hf,_⟩:=first_cells hR hy hq hl2
  have hqx:rowOf H i.size (.sref b 0 len ver i.size)=some (len,rw'.take (len * i.size)):=by simp [rowOf,hrow]
  have hl1:(rw'.take (len * i.size)).length=len * i.size:=by rw [List.length_take]; omega
  obtain ⟨base,capx,olds,rfl,hLo,hfo,_⟩:=first_cells hR hx hqx hl1
  have hSR:SR G b 0 len ver i.size base capx:=by
    cases hx with
    | pure _ _ h=>cases h
    | sref _ _ _ _ _ _ _ _ _ h=>exact h rw' hb hver
  have hadd:(len + n) * i.size=len * i.size + n * i.size:=Nat.add_mul _ _ _
  have hpos:0 < n * i.size:=Nat.mul_pos (by omega) h0

  have fin:∀ (G':Gh) (w':World) (c cap':Nat),G'.blk b=some c→cap' * i.size=G'.siz b→len + n≤cap'→(len + n) * i.size≤(appRow rw' cs (len * i.size) ver).length →
      VR G' (H.set b (.cells (appRow rw' cs (len * i.size) ver))) w' (.sref b 0 (len + n) (appRow rw' cs (len * i.size) ver).length i.size) (.slice (some ⟨c,0,none⟩) (len + n) cap'):=by
    intro G' w' c cap' hc hs hcap hlen
    refine .sref _ _ _ _ _ _ _ (by simpa using hbl) (fun cs' h=>?_) (fun cs' h _=>.inr ⟨c,hc,rfl,by omega,hcap,by omega,h0⟩)
    rw [get_set_eq hbl] at h; cases h; exact Nat.le_refl _
  have hlong:(len + n) * i.size≤(appRow rw' cs (len * i.size) ver).length:=by
    unfold appRow
    split
    · rw [length_setAt]; omega
    · rw [List.length_append,hl1]; omega
  have room:∀ c,G.blk b=some c→base=some ⟨c,0,none⟩→capx * i.size=G.siz b→len + n≤capx →
      ∃ r w' G',(Builtin.append_ #[t,u] ty #[.slice base len capx,.slice a n cap]).run P w=.ok r w'∧R P G' (H.set b (.cells (appRow rw' cs (len * i.size) ver))) w'∧Ext G H w G' (H.set b (.cells (appRow rw' cs (len * i.size) ver))) w' ∧
        VR G' (H.set b (.cells (appRow rw' cs (len * i.size) ver))) w' (.sref b 0 (len + n) (appRow rw' cs (len * i.size) ver).length i.size) r:=by
    intro c hc hbase hsiz hroom
    subst hbase
    obtain ⟨C,e3,hC,hCs,hcl,hcell⟩:=row_at hR hb hc
    have hfitC:len * i.size + n * i.size≤C.size:=by rw [hCs,← hsiz,← hadd]; exact Nat.mul_le_mul_right _ hroom
    have hrun:=run_append_in (w:=w) (ty:=ty) ht hu hi hC (hf w rfl) (hL.oneCells ho2) hroom (by rw [hL.1,hl2]; exact hfitC)
    have hRE:R P G (H.set b (.cells (appRow rw' cs (len * i.size) ver))) (w.setRow c (C.toList.take (len * i.size) ++ news ++ C.toList.drop (len * i.size + news.length)).toArray) ∧
        Ext G H w G (H.set b (.cells (appRow rw' cs (len * i.size) ver))) (w.setRow c (C.toList.take (len * i.size) ++ news ++ C.toList.drop (len * i.size + news.length)).toArray):=by
      unfold appRow
      split
      · exact set_row hR hb hc hC hL ho2 (by omega)
      · exact ext_row hR hb hc hC hL ho2 (by omega) (by omega) (by omega)
    exact ⟨_,_,_,hrun,hRE.1,hRE.2,fin G _ c capx hc hsiz hroom hlong⟩
  by_cases hroom:len + n≤capx
  · rcases hSR with ⟨_,_,_,h3,_,rfl⟩ | ⟨c,hc,rfl,hsiz,hcap,_,_⟩
    · omega
    · exact room c hc rfl (by omega) hroom
  · have hgrow:ver < len * i.size + n * i.size:=by
      rcases hSR with ⟨_,h1,_,h3,_,_⟩ | ⟨c,hc,rfl,hsiz,hcap,_,_⟩
      · omega
      · obtain ⟨C,e3,hC,hCs,hcl,hcell⟩:=row_at hR hb hc
        have:capx * i.size < (len + n) * i.size:=Nat.mul_lt_mul_of_pos_right (by omega) h0
        omega
    have happ:appRow rw' cs (len * i.size) ver=rw'.take (len * i.size) ++ cs:=by unfold appRow; rw [if_neg (by omega)]
    have hrun:=run_append_new (w:=w) (ty:=ty) ht hu hi hz (hfo w.drew rfl) (hf w.drew rfl) (by omega) hb0 hfit
    have hge:=grownCap_ge w (len + n) capx e
    have ho1:(rw'.take (len * i.size)).all AV.one=true:=by
      refine List.all_eq_true.2 fun x hx=>?_
      obtain ⟨j,hj⟩:=List.mem_iff_getElem?.1 (List.mem_of_mem_take hx)
      rcases hR.obj b _ hb with ⟨h,_⟩ | ⟨_,_,_,_,_,_,_,h⟩
      · rcases hSR with ⟨_,h1,_,_,_,_⟩ | ⟨c,hc,_⟩
        · have:=lt_of_get hj; omega
        · rw [h] at hc; cases hc
      · exact (h j x hj).1
    obtain ⟨k1,k2⟩:=move_row hR hb (cs':=rw'.take (len * i.size) ++ cs) (by rw [List.length_append,hl1]; omega) (hLo.append hL) (by rw [List.all_append,ho1,ho2]; rfl) e (w':=w.drew.alloc _)
      (rest:=(Builtin.zeroCells z.cells (grownCap w (len + n) capx e - (len + n))).toList) rfl (env_drew_alloc _ _)
    rw [← happ] at k1 k2
    refine ⟨_,_,_,hrun,k1,k2,fin _ _ w.heap.size _ (by simp) ?_ hge hlong⟩
    rw [Gh.upd_siz_same,(hLo.append hL).1,List.length_append,hl1,hl2,grown_sizes hzs,← hadd,← Nat.add_mul]
    congr 1
    omega
theorem sim_copy (hR:R P G H w) {t u e ty:TypeId} {size:Nat} (ht:P.underlying t=some (.slice e)) (hsz:tsize P e=some size) {b off len ver:Nat} {x y:Value} (hx:VR G H w (.sref b off len ver size) x) {rw':List AV} (hrow:row H b ver=some rw')
    {q:AV} (hy:VR G H w q y) {n:Nat} {cs:List AV} (hq:rowOf H size q=some (n,cs)) (hl:cs.length=n * size) (ho:(cs.take (min n len * size)).all AV.one=true) (hle:off + len * size≤ver) :
    ∃ r w' G',(Builtin.copy_ #[t,u] ty #[x,y]).run P w=.ok r w'∧R P G' (H.set b (.cells (setAt rw' off (cs.take (min n len * size))))) w'∧Ext G H w G' (H.set b (.cells (setAt rw' off (cs.take (min n len * size))))) w' ∧
      VR G' (H.set b (.cells (setAt rw' off (cs.take (min n len * size))))) w' (.int .i64 (min n len:Nat)) r:=by
  obtain ⟨hb,hver⟩:=row_some hrow
  obtain ⟨a,cap,news,rfl,hL,_,hf⟩:=first_cells hR hy hq hl
  have hLm:LR G H w (cs.take (min n len * size)) (news.take (min n len * size)):=hL.take _
  have hml:(cs.take (min n len * size)).length=min n len * size:=by rw [List.length_take,hl,Nat.min_eq_left (Nat.mul_le_mul_right _ (Nat.min_le_left _ _))]
  have hmle:min n len * size≤len * size:=Nat.mul_le_mul_right _ (Nat.min_le_right _ _)
  cases hx with
  | pure _ _ h=>cases h
  | sref _ _ _ _ _ base capx _ _ h =>
    rcases h rw' hb hver with ⟨h1,h2,h3,h4,rfl,rfl⟩ | ⟨c,hc,rfl,hsiz,hcap,_,h0⟩
    · subst h4
      have hz:cs.take (min n 0 * size)=[]:=by simp
      refine ⟨goInt (min n 0:Nat),w,G,?_,?_⟩
      · have:=hf (min n 0) (Nat.min_le_left _ _) w rfl
        simp only [Builtin.copy_]
        simp [run_underlying ht,Builtin.lenOf,run_sizeOf' hsz] at this ⊢
        simp [this]
      · rw [hz]
        have e1:H.set b (.cells (setAt rw' off []))=H:=by
          simp only [setAt]
          refine List.ext_getElem? fun j=>?_
          by_cases hj:j=b
          · subst hj; rw [get_set_eq (lt_of_get hb),hb]
          · rw [get_set_ne hj]
        rw [e1]
        exact ⟨hR,Ext.refl _ _ _,.pure _ _ (.int _ _)⟩
    · obtain ⟨C,e3,hC,hCs,hcl,hcell⟩:=row_at hR hb hc
      obtain ⟨k1,k2⟩:=set_row hR hb hc hC hLm ho (off:=off) (by omega)
      refine ⟨goInt (min n len:Nat),_,G,?_,k1,k2,.pure _ _ (.int _ _)⟩
      have hst:=run_storeCells_at P c off e3 (news.take (min n len * size)) 0 C w hC (by rw [hLm.1,hml]; omega) (hLm.oneCells ho)
      simp only [Nat.add_zero] at hst
      have hfm:=hf (min n len) (Nat.min_le_left _ _) w rfl
      have hmin:Nat.min n len=min n len:=rfl
      simp only [Builtin.copy_]
      simp [run_underlying ht,Builtin.lenOf,run_sizeOf' hsz,hmin,hfm,hst]
end
end Go.Ai
end
section
namespace Go.Ai
open Go
def AV.val:AV→Value
  | .int k n=>.int k n
  | .bool b=>.bool b
  | .str s=>.string s
  | _=>Go.undef
def mk (agg:Bool) (l:List AV):Value:=if agg then .agg (l.map AV.val).toArray else (l.headD .undef).val
theorem fits_len:∀ {s:List KS} {l:List AV},fits s l=true→l.length=s.length
  | [],[],_=>rfl
  | .int k :: s,.int j _ :: l,h=>by simp only [fits,Bool.and_eq_true] at h; simp [fits_len h.2]
  | .bool :: s,.bool _ :: l,h=>by simp only [fits] at h; simp [fits_len h]
  | .str :: s,.str _ :: l,h=>by simp only [fits] at h; simp [fits_len h]
  | [],_ :: _,h=>by simp [fits] at h
  | k :: _,[],h=>by cases k <;> simp [fits] at h
  | .int _ :: _,.bool _ :: _,h | .int _ :: _,.str _ :: _,h | .bool :: _,.int _ _ :: _,h | .bool :: _,.str _ :: _,h | .str :: _,.int _ _ :: _,h | .str :: _,.bool _ :: _,h=>by simp [fits] at h
  | k :: _,.agg _ :: _,h | k :: _,.tup _ :: _,h | k :: _,.slice _ _ _ :: _,h | k :: _,.sref _ _ _ _ _ :: _,h | k :: _,.ptr _ _ _ :: _,h | k :: _,.vptr _ _ :: _,h
  | k :: _,.nilptr :: _,h | k :: _,.map _ :: _,h | k :: _,.nilmap :: _,h | k :: _,.fn _ _ :: _,h | k :: _,.yield _ :: _,h | k :: _,.nilfn :: _,h | k :: _,.iface _ _ :: _,h
  | k :: _,.nilIface :: _,h | k :: _,.iter _ :: _,h | k :: _,.undef :: _,h=>by cases k <;> simp [fits] at h
theorem fits_cons {k:KS} {s:List KS} {x:AV} {l:List AV} (h:fits (k :: s) (x :: l)=true):fits [k] [x]=true∧fits s l=true:=by
  cases k <;> cases x <;> simp_all [fits]
theorem fits_cons_of {k:KS} {s:List KS} {x:AV} {l:List AV} (h:fits [k] [x]=true) (h2:fits s l=true):fits (k :: s) (x :: l)=true:=by
  cases k <;> cases x <;> simp_all [fits]
theorem fits_append:∀ {s r:List KS} {l:List AV},fits (s ++ r) l=true→fits s (l.take s.length)=true∧fits r (l.drop s.length)=true
  | [],r,l,h=>⟨rfl,h⟩
  | k :: s,r,[],h=>by cases k <;> simp [fits] at h
  | k :: s,r,x :: l,h=>by
    have h1:=fits_cons (k:=k) (s:=s ++ r) h
    have h2:=fits_append h1.2
    exact ⟨fits_cons_of h1.1 h2.1,h2.2⟩
section
variable {P:Program} {G:Gh} {H:List AObj} {w:World}
theorem fits_one {k:KS} {x:AV} {u:Value} (h:fits [k] [x]=true) (hv:VR G H w x u):u=x.val:=by
  cases k <;> cases x <;> simp [fits] at h
  · exact hv.int_inv
  · exact hv.bool_inv
  · exact hv.str_inv
theorem fits_val:∀ {s:List KS} {l:List AV} {us:List Value},fits s l=true→LR G H w l us→us=l.map AV.val
  | [],[],us,_,hl=>by have:=hl.1; exact List.eq_nil_of_length_eq_zero (by simpa using this)
  | k :: s,[],us,h,_=>by cases k <;> simp [fits] at h
  | [],x :: l,us,h,_=>by simp [fits] at h
  | k :: s,x :: l,[],h,hl=>by have:=hl.1; simp at this
  | k :: s,x :: l,u :: us,h,hl=>by
    have h1:=fits_cons h
    have hx:VR G H w x u:=hl.2 0 x u rfl rfl
    have ht:LR G H w l us:=⟨by have:=hl.1; simpa using this,fun i y v hy hv=>hl.2 (i + 1) y v (by simpa using hy) (by simpa using hv)⟩
    rw [List.map_cons,fits_one h1.1 hx,fits_val h1.2 ht]
theorem hasSh_val {t:Sh} {x:AV} {u:Value} (h:hasSh t x=true) (hv:VR G H w x u):u=mk t.agg x.cells∧fits t.ks x.cells=true:=by
  cases x with
  | agg cs =>
    simp only [hasSh,Bool.and_eq_true] at h
    obtain ⟨us,rfl,hl⟩:=hv.agg_inv
    refine ⟨?_,h.2⟩
    rw [fits_val h.2 hl]
    simp [mk,h.1,AV.cells]
  | _ =>
    simp only [hasSh,Bool.and_eq_true,Bool.not_eq_true'] at h
    obtain ⟨h1,h2⟩:=h
    obtain ⟨agg,ks⟩:=t
    dsimp at h1 h2
    subst h1
    refine ⟨?_,h2⟩
    match ks,h2 with
    | [k],h2=>simpa [mk,AV.cells] using fits_one h2 hv
    | k :: k2 :: _,h2=>have:=fits_len h2; simp at this
    | [],h2=>simp [fits] at h2
theorem part_shape {d:Nat} {e:TypeId} {s:List KS} {a:Bool} (hs:shapeT P d e=some s) (ha:isAggT P e=some a) (hn:tsize P e=some s.length) {xs:List AV} {off:Nat} (hle:off + s.length≤xs.length) (w:World) :
    (part e (xs.map AV.val).toArray off).run P w=.ok (mk a ((xs.drop off).take s.length)) w:=by
  cases a with
  | true =>
    simp [part,run_isAgg' ha,run_sizeOf' hn,mk]
  | false =>
    have hl:s.length=1:=by
      cases d with
      | zero=>simp [shapeT] at hs
      | succ d =>
        unfold isAggT at ha
        simp only [Option.bind_eq_some_iff] at ha
        obtain ⟨k,hk,ha⟩:=ha
        unfold shapeT at hs
        rw [hk] at hs
        cases k <;> simp_all
        all_goals (subst hs; rfl)
    rw [hl] at hle ⊢
    obtain ⟨x,hx⟩:=get_of_lt (l:=xs) (i:=off) (by omega)
    have e1:(xs.drop off).take 1=[x]:=by
      rw [List.drop_eq_getElem_cons (by omega:off < xs.length)]
      have:=List.getElem?_eq_some_iff.1 hx
      obtain ⟨h1,h2⟩:=this
      simp [h2]
    rw [e1]
    simp [part,run_isAgg' ha,hx,mk]
theorem keqL_append:∀ {a b c d:List AV},a.length=b.length→keqL (a ++ c) (b ++ d)=(keqL a b && keqL c d)
  | [],[],_,_,_=>by simp [keqL]
  | x :: a,y :: b,c,d,h=>by
    have h':a.length=b.length:=by simpa using h
    cases x <;> cases y <;> simp [keqL,keqL_append h',Bool.and_assoc]
  | [],_ :: _,_,_,h=>by simp at h
  | _ :: _,[],_,_,h=>by simp at h
theorem keqL_split (xs ys:List AV) (n:Nat) (h:xs.length=ys.length):keqL xs ys=(keqL (xs.take n) (ys.take n) && keqL (xs.drop n) (ys.drop n)):=by
  rw [← keqL_append (by simp [h]),List.take_append_drop,List.take_append_drop]
theorem isAgg_of_shape {d:Nat} {e:TypeId} {s:List KS} (hs:shapeT P d e=some s):∃ a,isAggT P e=some a:=by
  cases d with
  | zero=>simp [shapeT] at hs
  | succ d =>
    unfold shapeT at hs
    cases hk:P.underlying e with
    | none=>rw [hk] at hs; cases hs
    | some k=>unfold isAggT; rw [hk]; cases k <;> exact ⟨_,rfl⟩
theorem fits_bool {l:List AV} (h:fits [.bool] l=true):∃ b,l=[.bool b]:=by
  match l,h with
  | [x],h=>cases x <;> simp [fits] at h; exact ⟨_,rfl⟩
  | x :: y :: _,h=>have:=fits_len h; simp at this
  | [],h=>simp [fits] at h
theorem fits_str {l:List AV} (h:fits [.str] l=true):∃ b,l=[.str b]:=by
  match l,h with
  | [x],h=>cases x <;> simp [fits] at h; exact ⟨_,rfl⟩
  | x :: y :: _,h=>have:=fits_len h; simp at this
  | [],h=>simp [fits] at h
theorem fits_int {k:IntKind} {l:List AV} (h:fits [.int k] l=true):∃ n,l=[.int k n]:=by
  match l,h with
  | [x],h=>cases x <;> simp [fits] at h; exact ⟨_,by rw [h]⟩
  | x :: y :: _,h=>have:=fits_len h; simp at this
  | [],h=>simp [fits] at h
theorem eq_shape (D:Nat) (w:World):∀ (d:Nat) {t:TypeId} {s:List KS} {a:Bool} {xs ys:List AV},shapeT P d t=some s→isAggT P t=some a→fits s xs=true→fits s ys=true →
    (Op.equalIn (D + d) t (mk a xs) (mk a ys)).run P w=.ok (keqL xs ys) w
  | 0,t,s,a,xs,ys,h,_,_,_=>by simp [shapeT] at h
  | d + 1, t, s, a,xs,ys,h,ha,fx,fy=>by
    unfold isAggT at ha
    simp only [Option.bind_eq_some_iff] at ha
    obtain ⟨k,hk,ha⟩:=ha
    unfold shapeT at h
    rw [hk] at h

    have step : ∀ {e:TypeId} {s1:List KS} {off:Nat} {X Y:List AV},shapeT P d e=some s1→tsize P e=some s1.length→fits s1 ((X.drop off).take s1.length)=true→fits s1 ((Y.drop off).take s1.length)=true →
        ∃ b,(part e (X.map AV.val).toArray off).run P w=.ok (mk b ((X.drop off).take s1.length)) w∧(part e (Y.map AV.val).toArray off).run P w=.ok (mk b ((Y.drop off).take s1.length)) w ∧
          (Op.equalIn (D + d) e (mk b ((X.drop off).take s1.length)) (mk b ((Y.drop off).take s1.length))).run P w=.ok (keqL ((X.drop off).take s1.length) ((Y.drop off).take s1.length)) w:=by
      intro e s1 off X Y h1 h2 f1 f2
      obtain ⟨b,hb⟩:=isAgg_of_shape h1
      have l1:=fits_len f1
      have l2:=fits_len f2
      simp at l1 l2
      by_cases h0:s1.length=0
      ·
        have e0:∀ Z:List AV,(Z.drop off).take s1.length=[]:=fun Z=>by rw [h0]; rfl
        have hs0:s1=[]:=List.eq_nil_of_length_eq_zero h0
        subst hs0
        have hbt:b=true:=by
          cases b with
          | true=>rfl
          | false =>
            exfalso
            cases d with
            | zero=>simp [shapeT] at h1
            | succ d =>
              unfold isAggT at hb
              simp only [Option.bind_eq_some_iff] at hb
              obtain ⟨k,hk,hb⟩:=hb
              unfold shapeT at h1
              rw [hk] at h1
              cases k <;> simp_all
        subst hbt
        refine ⟨true,?_,?_,?_⟩
        · simp [part,run_isAgg' hb,run_sizeOf' h2,mk]
        · simp [part,run_isAgg' hb,run_sizeOf' h2,mk]
        · have:=eq_shape D w d (xs:=(X.drop off).take 0) (ys:=(Y.drop off).take 0) h1 hb f1 f2
          exact this
      · exact ⟨b,part_shape h1 hb h2 (by omega) w,part_shape h1 hb h2 (by omega) w,eq_shape D w d h1 hb f1 f2⟩
    cases k with
    | bool =>
      simp at h ha; subst h; subst ha
      obtain ⟨x,rfl⟩:=fits_bool fx
      obtain ⟨y,rfl⟩:=fits_bool fy
      simp [mk,AV.val,keqL,← Nat.add_assoc,run_equalIn_bool w _ t x y hk]
    | int q =>
      simp at h ha; subst h; subst ha
      obtain ⟨x,rfl⟩:=fits_int fx
      obtain ⟨y,rfl⟩:=fits_int fy
      simp [mk,AV.val,keqL,← Nat.add_assoc,run_equalIn_int w _ t _ _ x y hk]
    | string =>
      simp at h ha; subst h; subst ha
      obtain ⟨x,rfl⟩:=fits_str fx
      obtain ⟨y,rfl⟩:=fits_str fy
      simp [mk,AV.val,keqL,← Nat.add_assoc,run_equalIn_string w _ t x y hk,beq_toListBytes]
    | struct fs =>
      simp at ha; subst ha
      simp only at h
      split at h
      · cases h
      · rename_i hst
        have hfs:P.fieldsOf t=fs:=by simp [Program.fieldsOf,hk]
        have key : ∀ (l:List Field) (off:Nat) (s:List KS) (X Y:List AV),shapeFs P (shapeT P d) off l=some s→fits s (X.drop off)=true→fits s (Y.drop off)=true →
            (Op.eqFields (D + d) (X.map AV.val).toArray (Y.map AV.val).toArray l).run P w=.ok (keqL (X.drop off) (Y.drop off)) w:=by
          intro l
          induction l with
          | nil =>
            intro off s X Y h fx fy
            simp [shapeFs] at h
            subst h
            have e1:X.drop off=[]:=List.eq_nil_of_length_eq_zero (fits_len fx)
            have e2:Y.drop off=[]:=List.eq_nil_of_length_eq_zero (fits_len fy)
            rw [e1,e2]
            simp [Op.eqFields,keqL]
          | cons f l ih =>
            intro off s X Y h fx fy
            simp only [shapeFs] at h
            split at h
            · rename_i hc
              simp only [Bool.and_eq_true,bne_iff_ne,ne_eq,decide_eq_true_eq] at hc
              obtain ⟨hn,rfl⟩:=hc
              simp only [Option.bind_eq_some_iff] at h
              obtain ⟨s1,h1,n,h2,h⟩:=h
              split at h
              · rename_i hnl
                subst hnl
                simp only [Option.bind_eq_some_iff] at h
                obtain ⟨r,hr,h⟩:=h
                cases h
                have gx:=fits_append fx
                have gy:=fits_append fy
                obtain ⟨b,p1,p2,p3⟩:=step (X:=X) (Y:=Y) h1 h2 gx.1 gy.1
                have hrest:=ih (f.offset + s1.length) r X Y hr (by rw [← List.drop_drop]; exact gx.2) (by rw [← List.drop_drop]; exact gy.2)
                have hsplit:=keqL_split (X.drop f.offset) (Y.drop f.offset) s1.length ((fits_len fx).trans (fits_len fy).symm)
                rw [List.drop_drop,List.drop_drop] at hsplit
                rw [hsplit]
                simp only [Op.eqFields,hn,ne_eq,not_false_eq_true,if_true,Sem.run_bind,p1,p2,p3,Result.andThen_ok]
                cases hke:keqL ((X.drop f.offset).take s1.length) ((Y.drop f.offset).take s1.length)
                · simp
                · simp [hrest]
              · cases h
            · cases h
        have:=key fs.toList 0 s xs ys h fx fy
        rw [← Nat.add_assoc,mk,mk,if_pos rfl,if_pos rfl,run_equalIn_struct w (D + d) t _ _ (by rw [hfs]; exact hk) (by simpa using hst),hfs]
        exact this
    | array n e =>
      simp at ha; subst ha
      simp only [Option.bind_eq_some_iff] at h
      obtain ⟨s1,h1,m,h2,h⟩:=h
      split at h
      · rename_i hm
        subst hm
        cases h
        have hi:∃ i,P.info? e=some i∧i.size=s1.length:=by
          unfold tsize at h2
          simp only [Option.bind_eq_some_iff] at h2
          obtain ⟨i,hi,h2⟩:=h2
          exact ⟨i,hi,Option.some.inj h2⟩
        obtain ⟨i,hi,his⟩:=hi
        have hce:P.cellsOf e=s1.length:=by simp [Program.cellsOf,hi,his]
        have key:∀ (m j:Nat) (X Y:List AV),fits (List.replicate m s1).flatten (X.drop (j * s1.length))=true→fits (List.replicate m s1).flatten (Y.drop (j * s1.length))=true →
            (Op.eqItems (D + d) e s1.length (X.map AV.val).toArray (Y.map AV.val).toArray (List.range' j m)).run P w=.ok (keqL (X.drop (j * s1.length)) (Y.drop (j * s1.length))) w:=by
          intro m
          induction m with
          | zero =>
            intro j X Y fx fy
            have e1:X.drop (j * s1.length)=[]:=List.eq_nil_of_length_eq_zero (fits_len fx)
            have e2:Y.drop (j * s1.length)=[]:=List.eq_nil_of_length_eq_zero (fits_len fy)
            rw [e1,e2]
            simp [Op.eqItems,keqL]
          | succ m ih =>
            intro j X Y fx fy
            rw [List.replicate_succ,List.flatten_cons] at fx fy
            have gx:=fits_append fx
            have gy:=fits_append fy
            obtain ⟨b,p1,p2,p3⟩:=step (X:=X) (Y:=Y) h1 h2 gx.1 gy.1
            have hrest:=ih (j + 1) X Y (by rw [Nat.succ_mul,← List.drop_drop]; exact gx.2) (by rw [Nat.succ_mul,← List.drop_drop]; exact gy.2)
            have hsplit:=keqL_split (X.drop (j * s1.length)) (Y.drop (j * s1.length)) s1.length ((fits_len fx).trans (fits_len fy).symm)
            rw [List.drop_drop,List.drop_drop,← Nat.succ_mul] at hsplit
            rw [hsplit]
            simp only [List.range'_succ,Op.eqItems,Sem.run_bind,p1,p2,p3,Result.andThen_ok]
            cases hke:keqL ((X.drop (j * s1.length)).take s1.length) ((Y.drop (j * s1.length)).take s1.length)
            · simp
            · simp [hrest]
        have:=key n 0 xs ys (by simpa using fx) (by simpa using fy)
        rw [← Nat.add_assoc,mk,mk,if_pos rfl,if_pos rfl,run_equalIn_array w (D + d) _ _ hk hi,hce,List.range_eq_range']
        simpa using this
      · cases h
    | _=>simp at h
end
end Go.Ai
end
section
namespace Go.Ai
open Go
theorem KS.beq_eq {j k:KS} (h:j.beq k=true):j=k:=by
  cases j <;> cases k <;> simp [KS.beq] at h <;> first | rfl | (rw [h])
theorem beqKS_eq:∀ {a b:List KS},beqKS a b=true→a=b
  | [],[],_=>rfl
  | x :: a,y :: b,h=>by simp only [beqKS,Bool.and_eq_true] at h; rw [KS.beq_eq h.1,beqKS_eq h.2]
  | [],_ :: _,h | _ :: _,[],h=>by simp [beqKS] at h
theorem Sh.beq_eq {s t:Sh} (h:s.beq t=true):s=t:=by
  obtain ⟨a,k⟩:=s
  obtain ⟨b,l⟩:=t
  simp only [Sh.beq,Bool.and_eq_true,beq_iff_eq] at h
  rw [h.1,beqKS_eq h.2]
section
variable {P:Program} {G:Gh} {H:List AObj} {w:World}
theorem check_shape (em:Bool) (D:Nat) (w:World):∀ (d:Nat) {t:TypeId} {s:List KS} {a:Bool} {xs:List AV},shapeT P d t=some s→isAggT P t=some a→fits s xs=true →
    (Instr.checkKey em (D + d) t (mk a xs)).run P w=.ok () w
  | 0,t,s,a,xs,h,_,_=>by simp [shapeT] at h
  | d + 1, t, s, a,xs,h,ha,fx=>by
    unfold isAggT at ha
    simp only [Option.bind_eq_some_iff] at ha
    obtain ⟨k,hk,ha⟩:=ha
    unfold shapeT at h
    rw [hk] at h
    have step : ∀ {e:TypeId} {s1:List KS} {off:Nat} {X:List AV},shapeT P d e=some s1→tsize P e=some s1.length→fits s1 ((X.drop off).take s1.length)=true →
        ∃ b,(part e (X.map AV.val).toArray off).run P w=.ok (mk b ((X.drop off).take s1.length)) w∧(Instr.checkKey em (D + d) e (mk b ((X.drop off).take s1.length))).run P w=.ok () w:=by
      intro e s1 off X h1 h2 f1
      obtain ⟨b,hb⟩:=isAgg_of_shape h1
      have l1:=fits_len f1
      simp at l1
      by_cases h0:s1.length=0
      · have hs0:s1=[]:=List.eq_nil_of_length_eq_zero h0
        subst hs0
        have hbt:b=true:=by
          cases b with
          | true=>rfl
          | false =>
            exfalso
            cases d with
            | zero=>simp [shapeT] at h1
            | succ d =>
              unfold isAggT at hb
              simp only [Option.bind_eq_some_iff] at hb
              obtain ⟨k,hk,hb⟩:=hb
              unfold shapeT at h1
              rw [hk] at h1
              cases k <;> simp_all
        subst hbt
        refine ⟨true,?_,check_shape em D w d (xs:=(X.drop off).take 0) h1 hb f1⟩
        simp [part,run_isAgg' hb,run_sizeOf' h2,mk]
      · exact ⟨b,part_shape h1 hb h2 (by omega) w,check_shape em D w d h1 hb f1⟩
    cases k with
    | bool =>
      simp at h ha; subst h; subst ha
      obtain ⟨x,rfl⟩:=fits_bool fx
      rw [← Nat.add_assoc,Instr.checkKey]; simp [mk,AV.val,run_underlying hk]
    | int q =>
      simp at h ha; subst h; subst ha
      obtain ⟨x,rfl⟩:=fits_int fx
      rw [← Nat.add_assoc,Instr.checkKey]; simp [mk,AV.val,run_underlying hk]
    | string =>
      simp at h ha; subst h; subst ha
      obtain ⟨x,rfl⟩:=fits_str fx
      rw [← Nat.add_assoc,Instr.checkKey]; simp [mk,AV.val,run_underlying hk]
    | struct fs =>
      simp at ha; subst ha
      simp only at h
      split at h
      · cases h
      · have key : ∀ (l:List Field) (off:Nat) (s:List KS) (X:List AV),shapeFs P (shapeT P d) off l=some s→fits s (X.drop off)=true →
            (forIn l PUnit.unit (fun f _=>do
              if f.name ≠ "_" then do Instr.checkKey em (D + d) f.type (← part f.type (X.map AV.val).toArray f.offset); pure (ForInStep.yield PUnit.unit)
              else pure (ForInStep.yield PUnit.unit)):Sem PUnit).run P w=.ok PUnit.unit w:=by
          intro l
          induction l with
          | nil=>intro off s X h fx; simp
          | cons f l ih =>
            intro off s X h fx
            simp only [shapeFs] at h
            split at h
            · rename_i hc
              simp only [Bool.and_eq_true,bne_iff_ne,ne_eq,decide_eq_true_eq] at hc
              obtain ⟨hn,rfl⟩:=hc
              simp only [Option.bind_eq_some_iff] at h
              obtain ⟨s1,h1,n,h2,h⟩:=h
              split at h
              · rename_i hnl
                subst hnl
                simp only [Option.bind_eq_some_iff] at h
                obtain ⟨r,hr,h⟩:=h
                cases h
                have gx:=fits_append fx
                obtain ⟨b,p1,p2⟩:=step (X:=X) h1 h2 gx.1
                have hrest:=ih (f.offset + s1.length) r X hr (by rw [← List.drop_drop]; exact gx.2)
                simp only [List.forIn_cons,Sem.run_bind,hn,ne_eq,not_false_eq_true,if_true,Result.andThen_ok,p1,p2,Sem.run_pure]
                exact hrest
              · cases h
            · cases h
        have:=key fs.toList 0 s xs h fx
        rw [← Nat.add_assoc,Instr.checkKey]
        simp only [mk,if_pos,Sem.run_bind,run_underlying hk,Result.andThen_ok]
        rw [← Array.forIn_toList]
        exact congrArg (fun r=>Result.andThen r _) this
    | array n e =>
      simp at ha; subst ha
      simp only [Option.bind_eq_some_iff] at h
      obtain ⟨s1,h1,m,h2,h⟩:=h
      split at h
      · rename_i hm
        subst hm
        cases h
        have key:∀ (m j:Nat) (X:List AV),fits (List.replicate m s1).flatten (X.drop (j * s1.length))=true →
            (forIn (List.range' j m) PUnit.unit (fun i _=>do
              Instr.checkKey em (D + d) e (← part e (X.map AV.val).toArray (i * (← sizeOf e))); pure (ForInStep.yield PUnit.unit)):Sem PUnit).run P w=.ok PUnit.unit w:=by
          intro m
          induction m with
          | zero=>intro j X fx; simp
          | succ m ih =>
            intro j X fx
            rw [List.replicate_succ,List.flatten_cons] at fx
            have gx:=fits_append fx
            obtain ⟨b,p1,p2⟩:=step (X:=X) h1 h2 gx.1
            have hrest:=ih (j + 1) X (by rw [Nat.succ_mul,← List.drop_drop]; exact gx.2)
            simp only [List.range'_succ,List.forIn_cons,Sem.run_bind,run_sizeOf' h2,Result.andThen_ok,p1,p2,Sem.run_pure]
            exact hrest
        have:=key n 0 xs (by simpa using fx)
        rw [← Nat.add_assoc,Instr.checkKey]
        simp only [mk,if_pos,Sem.run_bind,run_underlying hk,Result.andThen_ok]
        simp only [Std.Legacy.Range.forIn_eq_forIn_range',Std.Legacy.Range.size,Nat.sub_zero,Nat.add_one_sub_one,Nat.div_one]
        exact congrArg (fun r=>Result.andThen r _) this
      · cases h
    | _=>simp at h
def findV (k:List AV):List (AV × AV)→List MapEntry→Nat→Option (Nat × Value)
  | (x,_) :: es,e :: E,i=>if keqL k x.cells then some (i,e.val) else findV k es E (i + 1)
  | _,_,_=>none
def ML (G:Gh) (H:List AObj) (w:World) (t:Sh) (es:List (AV × AV)) (E:List MapEntry):Prop :=
  E.length=es.length∧∀ (i:Nat) k v,es[i]?=some (k,v)→hasSh t k=true∧∃ e,E[i]?=some e∧VR G H w k e.key∧VR G H w v e.val
theorem ML.cons {t:Sh} {k v:AV} {es:List (AV × AV)} {e:MapEntry} {E:List MapEntry} (h:ML G H w t ((k,v) :: es) (e :: E)):hasSh t k=true∧VR G H w k e.key∧VR G H w v e.val∧ML G H w t es E:=by
  obtain ⟨hl,h⟩:=h
  obtain ⟨h1,e',h2,h3,h4⟩:=h 0 k v rfl
  cases h2
  refine ⟨h1,h3,h4,by simpa using hl,fun i k v hk=>?_⟩
  simpa using h (i + 1) k v (by simpa using hk)
theorem sameNow_shape (kind:TypeDesc) {t:Sh} {x y:List AV} (hx:fits t.ks x=true) (hy:fits t.ks y=true) (h1:t.agg=false→x.length=1) :
    Instr.sameNow kind (mk t.agg x) (mk t.agg y)=none∨Instr.sameNow kind (mk t.agg x) (mk t.agg y)=some (keqL x y):=by
  obtain ⟨ag,ks⟩:=t
  dsimp only at hx hy h1 ⊢
  cases ag with
  | true=>left; cases kind <;> simp [mk,Instr.sameNow]
  | false =>
    have l1:=h1 rfl
    have lx:=fits_len hx
    match ks,hx,hy with
    | [.bool],hx,hy =>
      obtain ⟨x,rfl⟩:=fits_bool hx
      obtain ⟨y,rfl⟩:=fits_bool hy
      cases kind <;> simp [mk,AV.val,Instr.sameNow,keqL]
    | [.str],hx,hy =>
      obtain ⟨x,rfl⟩:=fits_str hx
      obtain ⟨y,rfl⟩:=fits_str hy
      cases kind <;> simp [mk,AV.val,Instr.sameNow,keqL]
    | [.int k],hx,hy =>
      obtain ⟨x,rfl⟩:=fits_int hx
      obtain ⟨y,rfl⟩:=fits_int hy
      cases kind <;> simp [mk,AV.val,Instr.sameNow,keqL]
    | [],hx,hy=>simp [l1] at lx
    | _ :: _ :: _,hx,hy=>rw [l1] at lx; simp at lx
theorem findNow_shape (kind:TypeDesc) {t:Sh} {x:List AV} (hx:fits t.ks x=true) (h1:t.agg=false→x.length=1):∀ {es:List (AV × AV)} {E:List MapEntry} (i:Nat),ML G H w t es E →
    Instr.findNow kind (mk t.agg x) E i=none∨Instr.findNow kind (mk t.agg x) E i=some (findV x es E i)
  | [],[],i,_=>by right; rfl
  | [],_ :: _,_,h=>by have:=h.1; simp at this
  | _ :: _,[],_,h=>by have:=h.1; simp at this
  | (k,v) :: es,e :: E,i,h=>by
    obtain ⟨q1,q2,q3,q4⟩:=h.cons
    obtain ⟨p1,p2⟩:=hasSh_val q1 q2
    rcases sameNow_shape kind hx p2 h1 with hs | hs
    · left; simp only [Instr.findNow,p1,hs]
    · rcases findNow_shape kind hx h1 (i + 1) q4 with ih | ih <;> (cases hke:keqL x k.cells <;> simp [Instr.findNow,p1,hs,findV,hke,ih])
theorem findAsking_shape {kt:TypeId} {t:Sh} (hs:shT P kt=some t) {x:List AV} (hx:fits t.ks x=true):∀ {es:List (AV × AV)} {E:List MapEntry} (i:Nat),ML G H w t es E →
    (Instr.findAsking kt (mk t.agg x) E i).run P w=.ok (findV x es E i) w
  | [],[],i,_=>by simp [Instr.findAsking,findV]
  | [],_ :: _,_,h=>by have:=h.1; simp at this
  | _ :: _,[],_,h=>by have:=h.1; simp at this
  | (k,v) :: es,e :: E,i,h=>by
    obtain ⟨q1,q2,q3,q4⟩:=h.cons
    obtain ⟨p1,p2⟩:=hasSh_val q1 q2
    have ih:=findAsking_shape hs hx (i + 1) q4
    unfold shT at hs
    simp only [Option.bind_eq_some_iff] at hs
    obtain ⟨a,ha,ks,hks,hs⟩:=hs
    cases hs
    have heq:=eq_shape 9992 w 8 hks ha hx p2
    have heq':(Op.equal kt (mk a x) e.key).run P w=.ok (keqL x k.cells) w:=by rw [p1]; exact heq
    simp only [Instr.findAsking,Sem.run_bind,heq',Result.andThen_ok,findV]
    cases hke:keqL x k.cells
    · simpa using ih
    · simp
theorem find_shape {kt:TypeId} {t:Sh} (hs:shT P kt=some t) {k:AV} {u:Value} (hk:hasSh t k=true) (hv:VR G H w k u) {es:List (AV × AV)} {E:List MapEntry} (h:ML G H w t es E) :
    (Instr.findKey kt u E).run P w=.ok (findV k.cells es E 0) w∧∀ em,(Instr.checkKey em 10000 kt u).run P w=.ok () w:=by
  obtain ⟨rfl,hf⟩:=hasSh_val hk hv
  have h1:t.agg=false→k.cells.length=1:=by
    intro ha
    cases k <;> simp [hasSh,ha] at hk <;> rfl
  have hs':=hs
  unfold shT at hs'
  simp only [Option.bind_eq_some_iff] at hs'
  obtain ⟨a,ha,ks,hks,hs'⟩:=hs'
  have hag:t.agg=a:=by cases hs'; rfl
  have hkk:t.ks=ks:=by cases hs'; rfl
  have hu:∃ d,P.underlying kt=some d:=by
    unfold isAggT at ha
    simp only [Option.bind_eq_some_iff] at ha
    exact ⟨ha.choose,ha.choose_spec.1⟩
  obtain ⟨d,hd⟩:=hu
  refine ⟨?_,fun em=>?_⟩
  · simp only [Instr.findKey,Sem.run_bind,run_underlying hd,Result.andThen_ok]
    rcases findNow_shape d hf h1 0 h with hn | hn
    · rw [hn]; exact findAsking_shape hs hf 0 h
    · rw [hn]; simp
  · rw [hag]; exact check_shape em 9992 w 8 hks ha (hkk ▸ hf)
theorem findV_E {k:AV} {t:Sh}:∀ {es:List (AV × AV)} {E:List MapEntry} (i:Nat),ML G H w t es E →
    (findE k es i=none∧findV k.cells es E i=none) ∨
    ∃ j x v e,findE k es i=some (i + j,v)∧findV k.cells es E i=some (i + j,e.val)∧es[j]?=some (x,v)∧E[j]?=some e∧keqL k.cells x.cells=true∧hasSh t x=true∧VR G H w x e.key∧VR G H w v e.val
  | [],[],i,_=>.inl ⟨rfl,rfl⟩
  | [],_ :: _,_,h=>by have:=h.1; simp at this
  | _ :: _,[],_,h=>by have:=h.1; simp at this
  | (x, v) :: es,e :: E,i,h=>by
    obtain ⟨q1,q2,q3,q4⟩:=h.cons
    cases hke:keqL k.cells x.cells
    · rcases findV_E (k:=k) (i + 1) q4 with ⟨h1,h2⟩ | ⟨j,x',v',e',h1,h2,h3,h4,h5⟩
      · left; simp [findE,findV,hke,h1,h2]
      · right
        refine ⟨j + 1,x',v',e',?_,?_,by simpa using h3,by simpa using h4,h5⟩
        · simp [findE,hke,h1]; omega
        · simp [findV,hke,h2]; omega
    · right
      exact ⟨0,x,v,e,by simp [findE,hke],by simp [findV,hke],rfl,rfl,hke,q1,q2,q3⟩
end
end Go.Ai
end
section
namespace Go.Ai
open Go
theorem keqL_fits:∀ {ks:List KS} {x y:List AV},fits ks x=true→fits ks y=true→keqL x y=true→x=y
  | [],[],[],_,_,_=>rfl
  | [],_ :: _,_,h,_,_=>by simp [fits] at h
  | [],[],_ :: _,_,h,_=>by simp [fits] at h
  | k :: _,[],_,h,_,_=>by cases k <;> simp [fits] at h
  | k :: _,_ :: _,[],_,h,_=>by cases k <;> simp [fits] at h
  | k :: ks,x :: xs,y :: ys,hx,hy,h=>by
    have a:=fits_cons hx
    have b:=fits_cons hy
    have : x=y∧keqL xs ys=true:=by
      cases k with
      | int j =>
        obtain ⟨m,e⟩:=fits_int a.1
        obtain ⟨n,e'⟩:=fits_int b.1
        cases e; cases e'
        simp only [keqL,Bool.and_eq_true,beq_iff_eq] at h
        exact ⟨by rw [h.1],h.2⟩
      | bool =>
        obtain ⟨m,e⟩:=fits_bool a.1
        obtain ⟨n,e'⟩:=fits_bool b.1
        cases e; cases e'
        simp only [keqL,Bool.and_eq_true,beq_iff_eq] at h
        exact ⟨by rw [h.1],h.2⟩
      | str =>
        obtain ⟨m,e⟩:=fits_str a.1
        obtain ⟨n,e'⟩:=fits_str b.1
        cases e; cases e'
        simp only [keqL,Bool.and_eq_true] at h
        exact ⟨by rw [(MapKept.bytes_beq _ _).1 h.1],h.2⟩
    rw [this.1,keqL_fits a.2 b.2 this.2]
theorem same_key {t:Sh} {k x:AV} (hk:hasSh t k=true) (hx:hasSh t x=true) (h:keqL k.cells x.cells=true):k=x:=by
  have ek:fits t.ks k.cells=true∧(t.agg=true↔∃ cs,k=.agg cs):=by
    cases k <;> simp only [hasSh,Bool.and_eq_true,Bool.not_eq_true'] at hk <;> exact ⟨hk.2,by simp [hk.1]⟩
  have ex:fits t.ks x.cells=true∧(t.agg=true↔∃ cs,x=.agg cs):=by
    cases x <;> simp only [hasSh,Bool.and_eq_true,Bool.not_eq_true'] at hx <;> exact ⟨hx.2,by simp [hx.1]⟩
  have e:=keqL_fits ek.1 ex.1 h
  by_cases ha:t.agg=true
  · obtain ⟨c,rfl⟩:=ek.2.1 ha
    obtain ⟨d,rfl⟩:=ex.2.1 ha
    simp only [AV.cells] at e
    rw [e]
  · have h1:∀ cs,k ≠ .agg cs:=fun cs q=>ha (ek.2.2 ⟨cs,q⟩)
    have h2:∀ cs,x ≠ .agg cs:=fun cs q=>ha (ex.2.2 ⟨cs,q⟩)
    rw [cells_of_not_agg h1,cells_of_not_agg h2] at e
    exact List.head_eq_of_cons_eq e
theorem sameBits_val {ks:List KS} (n:Nat):∀ {x:List AV},fits ks x=true→∀ v,v ∈ x.map AV.val→Instr.sameBits n v v=true:=by
  induction ks with
  | nil=>intro x h v hv; cases x with
    | nil=>simp at hv
    | cons _ _=>simp [fits] at h
  | cons k ks ih =>
    intro x h v hv
    cases x with
    | nil=>cases k <;> simp [fits] at h
    | cons y x =>
      have a:=fits_cons h
      simp only [List.map_cons,List.mem_cons] at hv
      rcases hv with rfl | hv
      · cases k with
        | int j=>obtain ⟨m,e⟩:=fits_int a.1; cases e; cases n <;> simp [AV.val,Instr.sameBits]
        | bool=>obtain ⟨m,e⟩:=fits_bool a.1; cases e; cases n <;> simp [AV.val,Instr.sameBits]
        | str=>obtain ⟨m,e⟩:=fits_str a.1; cases e; cases n <;> simp [AV.val,Instr.sameBits,(MapKept.bytes_beq m m).2 rfl]
      · exact ih a.2 v hv
section
variable {P:Program} {G:Gh} {H:List AObj} {w:World}
theorem run_stays {t:Sh} {k:AV} {u:Value} (hk:hasSh t k=true) (hv:VR G H w k u) (w':World):(Instr.keyThatStays u u).run P w'=.ok u w':=by
  obtain ⟨rfl,hf⟩:=hasSh_val hk hv
  have : Instr.sameBits 10000 (mk t.agg k.cells) (mk t.agg k.cells)=true:=by
    cases ha:t.agg with
    | true =>
      simp only [mk,if_true]
      rw [show (10000:Nat)=9999 + 1 from rfl,Instr.sameBits]
      simp only [List.size_toArray,beq_self_eq_true,Bool.true_and,List.all_eq_true]
      intro p hp
      have hz:∀ (l:List Value) (q:Value × Value),q ∈ l.zip l→q.1=q.2∧q.1 ∈ l:=by
        intro l
        induction l with
        | nil=>intro q hq; simp at hq
        | cons y l ih =>
          intro q hq
          simp only [List.zip_cons_cons,List.mem_cons] at hq
          rcases hq with rfl | hq
          · exact ⟨rfl,.head _⟩
          · exact ⟨(ih q hq).1,.tail _ (ih q hq).2⟩
      obtain ⟨h1,h2⟩:=hz _ p hp
      rw [← h1]
      exact sameBits_val 9999 hf _ h2
    | false =>
      simp only [mk]
      have hl:k.cells.length=1:=by cases k <;> simp [hasSh,ha] at hk <;> rfl
      match hc:k.cells,hf with
      | [y],hf=>exact sameBits_val 10000 hf _ (by simp)
      | y :: z :: _,_=>rw [hc] at hl; simp at hl
      | [],_=>rw [hc] at hl; simp at hl
  simp [Instr.keyThatStays,this]
theorem VR.map_inv {b:Nat} {u:Value} (h:VR G H w (.map b) u):∃ c,u=.map (some c)∧b < H.length∧∀ t v es,H[b]?=some (.map t v es)→G.blk b=some c:=by
  cases h with
  | pure _ _ h=>cases h
  | map _ c hb h=>exact ⟨c,rfl,hb,h⟩
theorem mapSh_some {sh:Sh} {m:AV} {es:List (AV × AV)} (h:mapSh H sh m=some es):(m=.nilmap∧es=[])∨∃ b ver,m=.map b∧H[b]?=some (.map sh ver es):=by
  cases m <;> simp only [mapSh] at h
  case nilmap=>cases h; exact .inl ⟨rfl,rfl⟩
  case map b =>
    split at h
    · rename_i t ver es' hb
      split at h
      · rename_i he
        cases h
        rw [Sh.beq_eq he] at hb
        exact .inr ⟨b,ver,rfl,hb⟩
      · cases h
    · cases h
  all_goals cases h
theorem map_at (hR:R P G H w) {b:Nat} {t:Sh} {ver:Nat} {es:List (AV × AV)} (hb:H[b]?=some (.map t ver es)) {c:Nat} (hc:G.blk b=some c) :
    ∃ E clock,w.heap[c]?=some (.map E clock)∧ML G H w t es E.toList∧(∀ (i:Nat) e,E[i]?=some e→e.born < clock)∧(∀ (i j:Nat) e e',E[i]?=some e→E[j]?=some e'→e.born=e'.born→i=j):=by
  obtain ⟨c',E,clock,h1,h2,h3,h4,h5,h6⟩:=hR.obj b _ hb
  rw [hc] at h1
  cases h1
  exact ⟨E,clock,h2,⟨by simpa using h3,fun i k v hk=>by simpa using h4 i k v hk⟩,h5,h6⟩
theorem zeroAV_some {t:TypeId} {z:AV} (h:zeroAV P t=some z):∃ v,(zeroValue t).run P w=.ok v w∧VR G H w z v:=by
  unfold zeroAV at h
  simp only [Option.bind_eq_some_iff] at h
  obtain ⟨i,hi,v,hv,h⟩:=h
  exact ⟨v,run_zeroValue' hi hv w,.pure _ _ (ofVal_PR h)⟩
theorem run_getMap {c:Nat} {E:Array MapEntry} {clock:Nat} (h:w.heap[c]?=some (.map E clock)):(getObj c).run P w=.ok (.map E clock) w:=MapKept.run_getObj_map h
theorem ps_look (hR:R P G H w) {t kt e:TypeId} (ht:P.underlying t=some (.map kt e)) {sh:Sh} (hs:shT P kt=some sh) {z:AV} (hz:zeroAV P e=some z) (ok:Bool) {m k:AV} {um uk:Value} (hm:VR G H w m um) (hk:VR G H w k uk)
    (hsh:hasSh sh k=true) {es:List (AV × AV)} (hes:mapSh H sh m=some es) :
    PS P G H w (Instr.lookup t um uk ok) (if ok then .tup [(match findE k es 0 with | some q=>q.2 | none=>z),.bool (findE k es 0).isSome] else (match findE k es 0 with | some q=>q.2 | none=>z)):=by
  obtain ⟨zv,hzr,hzv⟩:=zeroAV_some (G:=G) (H:=H) (w:=w) hz
  have fin:∀ (E:Array MapEntry),ML G H w sh es E.toList→(∀ r,(Instr.findKey kt uk E.toList).run P w=.ok r w→(∀ em,(Instr.checkKey em 10000 kt uk).run P w=.ok () w) →
        (Instr.lookup t um uk ok).run P w=match r with | some p=>.ok (if ok then .tuple #[p.2,.bool true] else p.2) w | none=>.ok (if ok then .tuple #[zv,.bool false] else zv) w) →
      PS P G H w (Instr.lookup t um uk ok) (if ok then .tup [(match findE k es 0 with | some q=>q.2 | none=>z),.bool (findE k es 0).isSome] else (match findE k es 0 with | some q=>q.2 | none=>z)):=by
    intro E hML hrun
    obtain ⟨h1,h2⟩:=find_shape hs hsh hk hML
    have hrun:=hrun _ h1 h2
    rcases findV_E (k:=k) 0 hML with ⟨f1,f2⟩ | ⟨j,x,v,en,f1,f2,f3,f4,f5,f6,f7,f8⟩
    · refine ⟨if ok then .tuple #[zv,.bool false] else zv,by rw [hrun,f2],?_⟩
      rw [f1]
      cases ok
      · exact hzv
      · exact .tup _ [zv,.bool false] rfl (LR.cons hzv (LR.cons (.pure _ _ (.bool _)) .nil)).2
    · refine ⟨if ok then .tuple #[en.val,.bool true] else en.val,by rw [hrun,f2],?_⟩
      rw [f1]
      cases ok
      · exact f8
      · exact .tup _ [en.val,.bool true] rfl (LR.cons f8 (LR.cons (.pure _ _ (.bool _)) .nil)).2
  rcases mapSh_some hes with ⟨rfl,rfl⟩ | ⟨b,ver,rfl,hb⟩
  · have hu:um=.map none:=by cases hm with | pure _ _ h=>cases h; rfl
    subst hu
    refine fin #[] ⟨rfl,fun i k v h=>by simp at h⟩ (fun r hr hc=>?_)
    have hr':(Instr.findKey kt uk []).run P w=.ok r w:=hr
    cases r <;> simp [Instr.lookup,run_underlying ht,hc,hr',hzr]
  · obtain ⟨c,rfl,_,hc⟩:=hm.map_inv
    obtain ⟨E,clock,h1,h2,_,_⟩:=map_at hR hb (hc _ _ _ hb)
    refine fin E h2 (fun r hr hc=>?_)
    cases r <;> simp [Instr.lookup,run_underlying ht,run_getMap h1,hc,hr,hzr]
theorem setObj_other (w:World) (c:Nat) (o:Obj) {k:Nat} (h:k ≠ c):({ w with heap:=w.heap.setIfInBounds c o }:World).heap[k]?=w.heap[k]?:=by
  simp [Ne.symm h]
theorem setObj_at (w:World) (c:Nat) (o:Obj) (h:c < w.heap.size):({ w with heap:=w.heap.setIfInBounds c o }:World).heap[c]?=some o:=by
  simp [h]
theorem arr_lt {α:Type} {a:Array α} {i:Nat} {x:α} (h:a[i]?=some x):i < a.size:=(Array.getElem?_eq_some_iff.1 h).1
theorem sim_mupd (hR:R P G H w) {t kt e:TypeId} (ht:P.underlying t=some (.map kt e)) {sh:Sh} (hs:shT P kt=some sh) {b ver:Nat} {es:List (AV × AV)} (hb:H[b]?=some (.map sh ver es)) {k v:AV} {um uk uv:Value}
    (hm:VR G H w (.map b) um) (hk:VR G H w k uk) (hsh:hasSh sh k=true) (hv:VR G H w v uv) :
    ∃ w',(Instr.mapUpdate t um uk uv).run P w=.ok () w'∧R P G (H.set b (.map sh (ver + 1) (putE k v es))) w'∧Ext G H w G (H.set b (.map sh (ver + 1) (putE k v es))) w':=by
  obtain ⟨c,rfl,_,hc⟩:=hm.map_inv
  have hc:=hc _ _ _ hb
  obtain ⟨E,clock,hE,hML,hborn,hinj⟩:=map_at hR hb hc
  have hcl:=arr_lt hE
  obtain ⟨h1,h2⟩:=find_shape hs hsh hk hML
  have hEl:E.size=es.length:=by have:=hML.1; simpa using this
  have turn:∀ (E':Array MapEntry) (clock':Nat),E'.size=(putE k v es).length →
      (∀ (w':World),Ext G H w G (H.set b (.map sh (ver + 1) (putE k v es))) w'→∀ (i:Nat) x y,(putE k v es)[i]?=some (x,y)→hasSh sh x=true∧∃ en,E'[i]?=some en∧VR G (H.set b (.map sh (ver + 1) (putE k v es))) w' x en.key∧VR G (H.set b (.map sh (ver + 1) (putE k v es))) w' y en.val) →
      (∀ (i:Nat) en,E'[i]?=some en→en.born < clock')→(∀ (i j:Nat) en en',E'[i]?=some en→E'[j]?=some en'→en.born=en'.born→i=j) →
      R P G (H.set b (.map sh (ver + 1) (putE k v es))) { w with heap:=w.heap.setIfInBounds c (.map E' clock') }∧Ext G H w G (H.set b (.map sh (ver + 1) (putE k v es))) { w with heap:=w.heap.setIfInBounds c (.map E' clock') }:=by
    intro E' clock' g1 g2 g3 g4
    have ht:Turns (.map sh ver es) (.map sh (ver + 1) (putE k v es)):=⟨rfl,Nat.lt_succ_self _⟩
    have hx:=Ext.turn hR hb hc ht (w':={ w with heap:=w.heap.setIfInBounds c (.map E' clock') }) ⟨rfl,rfl,rfl⟩ (by simp) (fun q hq=>setObj_other w c _ hq)
    exact ⟨R.turn hR hb hc ht ⟨rfl,rfl,rfl⟩ (by simp) (fun q hq=>setObj_other w c _ hq) ⟨c,E',clock',hc,setObj_at w c _ hcl,g1,g2 _ hx,g3,g4⟩,hx⟩
  rcases findV_E (k:=k) 0 hML with ⟨f1,f2⟩ | ⟨j,x,v',en,f1,f2,f3,f4,f5,f6,f7,f8⟩
  · have hput:putE k v es=es ++ [(k,v)]:=by simp [putE,f1]
    rw [hput] at turn ⊢
    obtain ⟨k1,k2⟩:=turn (E.push { key:=uk,val:=uv,born:=clock }) (clock + 1) (by simp [hEl])
      (fun w' hx i x y hxy=>by
        rcases Nat.lt_trichotomy i es.length with hi | hi | hi
        · rw [List.getElem?_append_left hi] at hxy
          obtain ⟨q1,en,q2,q3,q4⟩:=hML.2 i x y hxy
          rw [Array.getElem?_toList] at q2
          exact ⟨q1,en,by rw [Array.getElem?_push,if_neg (by omega)]; exact q2,q3.mono hx,q4.mono hx⟩
        · subst hi
          simp at hxy
          obtain ⟨rfl,rfl⟩:=hxy
          exact ⟨hsh,{ key:=uk,val:=uv,born:=clock },by rw [← hEl]; simp,hk.mono hx,hv.mono hx⟩
        · rw [List.getElem?_eq_none (by simp; omega)] at hxy; cases hxy)
      (fun i en hi=>by
        rw [Array.getElem?_push] at hi
        split at hi
        · cases hi; exact Nat.lt_succ_self _
        · exact Nat.lt_succ_of_lt (hborn i en hi))
      (fun i j en en' hi hj he=>by
        rw [Array.getElem?_push] at hi hj
        split at hi <;> split at hj
        · omega
        · cases hi; have:=hborn j en' hj; simp at he; omega
        · cases hj; have:=hborn i en hi; simp at he; omega
        · exact hinj i j en en' hi hj he)
    refine ⟨_,?_,k1,k2⟩
    simp [Instr.mapUpdate,run_underlying ht,run_getMap hE,h2,h1,f2,MapKept.run_setObj_map _ hE]
  · have hkx:k=x:=same_key hsh f6 f5
    subst hkx
    rw [Nat.zero_add] at f1 f2
    have hput:putE k v es=es.set j (k,v):=by simp [putE,f1]
    have hkey:en.key=uk:=by
      obtain ⟨e1,_⟩:=hasSh_val f6 f7
      obtain ⟨e2,_⟩:=hasSh_val hsh hk
      rw [e1,e2]
    rw [Array.getElem?_toList] at f4
    have hjl:=lt_of_get f3
    rw [hput] at turn ⊢
    have hmod:∀ (i:Nat) (q:MapEntry),(E.modify j fun e=>{ e with key:=uk,val:=uv })[i]?=some q→∃ q0:MapEntry,E[i]?=some q0∧q.born=q0.born:=by
      intro i q hq
      rw [Array.getElem?_modify] at hq
      split at hq
      · rename_i hij
        simp only [Option.map_eq_some_iff] at hq
        obtain ⟨q0,hq0,rfl⟩:=hq
        exact ⟨q0,hq0,rfl⟩
      · exact ⟨q,hq,rfl⟩
    obtain ⟨k1,k2⟩:=turn (E.modify j fun e=>{ e with key:=uk,val:=uv }) clock (by simp [hEl])
      (fun w' hx i x y hxy=>by
        rw [List.getElem?_set] at hxy
        split at hxy
        · rename_i hij
          subst hij
          first | (cases hxy) | (rw [if_pos hjl] at hxy; cases hxy)
          exact ⟨hsh,{ en with key:=uk,val:=uv },by rw [Array.getElem?_modify,if_pos rfl,f4]; rfl,hk.mono hx,hv.mono hx⟩
        · rename_i hij
          obtain ⟨q1,en',q2,q3,q4⟩:=hML.2 i x y hxy
          rw [Array.getElem?_toList] at q2
          exact ⟨q1,en',by rw [Array.getElem?_modify,if_neg hij]; exact q2,q3.mono hx,q4.mono hx⟩)
      (fun i q hi=>by obtain ⟨q0,h0,h3⟩:=hmod i q hi; rw [h3]; exact hborn i q0 h0)
      (fun i l q q' hi hl he=>by
        obtain ⟨q0,h0,h3⟩:=hmod i q hi
        obtain ⟨q1,h4,h5⟩:=hmod l q' hl
        exact hinj i l q0 q1 h0 h4 (by rw [← h3,← h5,he]))
    refine ⟨_,?_,k1,k2⟩
    have hst:=run_stays (P:=P) hsh hk w
    simp [Instr.mapUpdate,run_underlying ht,run_getMap hE,h2,h1,f2,f4,hkey,hst,MapKept.run_setObj_map _ hE]
theorem sim_mkmap (hR:R P G H w) (t:TypeId) (sh:Sh) :
    ∃ u w' G',(Instr.makeMap t none).run P w=.ok u w'∧R P G' (H ++ [.map sh 0 []]) w'∧Ext G H w G' (H ++ [.map sh 0 []]) w'∧VR G' (H ++ [.map sh 0 []]) w' (.map H.length) u:=by
  have he:=env_alloc w (.map #[] 0)
  have hs:w.heap.size < (w.alloc (.map #[] 0)).heap.size:=by simp
  have hlt:∀ k,k < w.heap.size→(w.alloc (.map #[] 0)).heap[k]?=w.heap[k]?:=fun k hk=>heap_alloc_lt w _ hk
  refine ⟨.map (some w.heap.size),w.alloc (.map #[] 0),G.upd H.length (some w.heap.size) 0,?_,
    R.push hR _ _ _ he (Nat.le_of_lt hs) hlt (fun k hk=>by cases hk; exact ⟨rfl,hs⟩) ⟨w.heap.size,#[],0,by simp,heap_alloc_at w _,rfl,fun i k v h=>by simp at h,fun i e h=>by simp at h,fun i j e e' h=>by simp at h⟩,
    Ext.push hR _ _ _ he (Nat.le_of_lt hs) hlt (fun k hk=>by cases hk; rfl),.map _ _ (by simp) (fun _ _ _ _=>by simp)⟩
  simp [Instr.makeMap,newObj,Sem.run]
theorem sim_range (hR:R P G H w) {t kt e:TypeId} (ht:P.underlying t=some (.map kt e)) {b ver:Nat} {sh:Sh} {es:List (AV × AV)} (hb:H[b]?=some (.map sh ver es)) {um:Value} (hm:VR G H w (.map b) um) :
    ∃ u w' G',(Instr.range t um).run P w=.ok u w'∧R P G' (H ++ [.iter b ver es none]) w'∧Ext G H w G' (H ++ [.iter b ver es none]) w'∧VR G' (H ++ [.iter b ver es none]) w' (.iter H.length) u:=by
  obtain ⟨c,rfl,hbl,hc⟩:=hm.map_inv
  have hc:=hc _ _ _ hb
  obtain ⟨E,clock,hE,hML,hborn,hinj⟩:=map_at hR hb hc
  have he:=env_alloc w (.mapIter (some c) clock #[] clock)
  have hs:w.heap.size < (w.alloc (.mapIter (some c) clock #[] clock)).heap.size:=by simp
  have hlt:∀ k,k < w.heap.size→(w.alloc (.mapIter (some c) clock #[] clock)).heap[k]?=w.heap[k]?:=fun k hk=>heap_alloc_lt w _ hk
  have hx:=Ext.push hR (.iter b ver es none) (some w.heap.size) 0 he (Nat.le_of_lt hs) hlt (fun k hk=>by cases hk; rfl)
  have hne:b ≠ H.length:=by omega
  refine ⟨.pointer (some ⟨w.heap.size,0,none⟩),w.alloc (.mapIter (some c) clock #[] clock),G.upd H.length (some w.heap.size) 0,?_,
    R.push hR _ _ _ he (Nat.le_of_lt hs) hlt (fun k hk=>by cases hk; exact ⟨rfl,hs⟩) ⟨?_,fun p h=>(by cases h),w.heap.size,c,clock,#[],clock,by simp,heap_alloc_at w _,by simp; omega,fun t v es' h=>?_,fun t es' h=>?_⟩,
    hx,.iter _ _ (by simp) (fun _ _ _ _ _=>by simp)⟩
  · simp only [Instr.range,Sem.run_bind,run_underlying ht,Result.andThen_ok,run_getMap hE]
    simp [newObj,Sem.run]
  · refine List.all_eq_true.2 fun p hp=>?_
    obtain ⟨i,hi⟩:=List.mem_iff_getElem?.1 hp
    obtain ⟨_,en,_,h2,h3⟩:=hML.2 i p.1 p.2 hi
    have u1:=h2.under
    have u2:=h3.under
    simp only [entUnder,Bool.and_eq_true]
    exact ⟨under_mono (by simp) u1,under_mono (by simp) u2⟩
  · rw [List.getElem?_append_left hbl,hb] at h
    cases h
    exact ⟨by rw [Gh.upd_blk_ne _ _ _ _ hne]; exact hc,Nat.le_refl _⟩
  · rw [List.getElem?_append_left hbl,hb] at h
    cases h
    have hf:(E.toList.filter fun e=>!(#[]:Array Nat).contains e.born)=E.toList:=List.filter_eq_self.2 (fun _ _=>by simp)
    refine ⟨E,by rw [hlt c (arr_lt hE)]; exact hE,rfl,by rw [hf]; exact hML.1,fun i k v hk=>?_,fun k v h=>by cases h⟩
    · obtain ⟨_,en,h1,h2,h3⟩:=hML.2 i k v hk
      exact ⟨en,by rw [hf]; exact h1,h2.mono hx,h3.mono hx⟩
theorem VR.iter_inv {b:Nat} {u:Value} (h:VR G H w (.iter b) u):∃ c,u=.pointer (some ⟨c,0,none⟩)∧b < H.length∧∀ m v r l,H[b]?=some (.iter m v r l)→G.blk b=some c:=by
  cases h with
  | pure _ _ h=>cases h
  | iter _ c hb h=>exact ⟨c,rfl,hb,h⟩
theorem ps_entry (hR:R P G H w) {b m ver:Nat} {rest:List (AV × AV)} {k v:AV} (hb:H[b]?=some (.iter m ver rest (some (k,v)))) {sh:Sh} {es:List (AV × AV)} (hm:H[m]?=some (.map sh ver es)) {u:Value} (hu:VR G H w (.iter b) u) :
    PS P G H w (Instr.entry u) (.tup [k,v]):=by
  obtain ⟨c,rfl,_,hc⟩:=hu.iter_inv
  have hc:=hc _ _ _ _ hb
  obtain ⟨_,_,c',cm,since,seen,stepped,h1,h2,h3,h4,h5⟩:=hR.obj b _ hb
  rw [hc] at h1; cases h1
  obtain ⟨q1,_⟩:=h4 _ _ _ hm
  obtain ⟨E,r1,r2,r3,r4,r5⟩:=h5 _ _ hm
  obtain ⟨s,e,s1,s2,s3,s4⟩:=r5 k v rfl
  refine ⟨.tuple #[e.key,e.val],?_,.tup _ [e.key,e.val] rfl (LR.cons s3 (LR.cons s4 .nil)).2⟩
  have hget:(getObj c).run P w=.ok (.mapIter (some cm) since seen stepped) w:=by simp [getObj,Sem.run,h2]
  simp [Instr.entry,hget,s1,run_getMap r1,r2,s2]
end
end Go.Ai
end
section
namespace Go.Ai
open Go
theorem filter_erase {f:MapEntry→Nat}:∀ (L:List MapEntry) (i:Nat) (x:MapEntry),L[i]?=some x→(∀ (i j:Nat) e e',L[i]?=some e→L[j]?=some e'→f e=f e'→i=j) →
    L.filter (fun e=>!(f e == f x))=L.eraseIdx i
  | [],i,x,h,_=>by simp at h
  | y :: L,0,x,h,hi=>by
    simp at h
    subst h
    simp only [List.eraseIdx_zero,List.tail_cons,List.filter_cons,beq_self_eq_true,Bool.not_true,Bool.false_eq_true,if_false]
    refine List.filter_eq_self.2 (fun z hz=>?_)
    obtain ⟨j,hj⟩:=List.mem_iff_getElem?.1 hz
    have:f z ≠ f y:=fun e=>by have:=hi (j + 1) 0 z y (by simpa using hj) (by simp) e; omega
    simpa using this
  | y :: L,i + 1,x,h,hi=>by
    have hx:L[i]?=some x:=by simpa using h
    have hne:f y ≠ f x:=fun e=>by have:=hi 0 (i + 1) y x (by simp) h e; omega
    have ih:=filter_erase L i x hx (fun a b e e' h1 h2 h3=>by have:=hi (a + 1) (b + 1) e e' (by simpa using h1) (by simpa using h2) h3; omega)
    rw [List.filter_cons,if_pos (by simpa using hne),ih]
    rfl
section
variable {P:Program} {G:Gh} {H:List AObj} {w:World}
theorem run_mapNext (n:Nat) (hn:0 < n) (w:World):∃ (j:Nat) (w1:World),j < n∧Env w w1∧w1.heap=w.heap∧(choose (Question.mapNext n)).run P w=.ok j w1:=by
  by_cases h:n≤1
  · exact ⟨0,w,hn,⟨rfl,rfl,rfl⟩,rfl,by simp [choose,Sem.run,Question.forced,h]⟩
  · exact ⟨_,w.drew,Nat.mod_lt _ hn,⟨rfl,rfl,rfl⟩,rfl,by simp only [choose,Sem.run,Question.forced,decide_eq_true_eq,h,if_false,Question.cut]; rfl⟩
theorem sim_next (hR:R P G H w) {b m ver:Nat} {rest:List (AV × AV)} {last:Option (AV × AV)} (hb:H[b]?=some (.iter m ver rest last)) {sh:Sh} {es:List (AV × AV)} (hm:H[m]?=some (.map sh ver es)) {u:Value} (hu:VR G H w (.iter b) u) (t:TypeId) :
    (rest=[]→∃ w',(Instr.next u false t).run P w=.ok (.tuple #[.bool false]) w'∧Env w w'∧w'.heap=w.heap) ∧
    (rest ≠ []→∃ i k v r w',i < rest.length∧rest[i]?=some (k,v)∧(Instr.next u false t).run P w=.ok r w'∧R P G (H.set b (.iter m ver (rest.eraseIdx i) (some (k,v)))) w' ∧
      Ext G H w G (H.set b (.iter m ver (rest.eraseIdx i) (some (k,v)))) w'∧VR G (H.set b (.iter m ver (rest.eraseIdx i) (some (k,v)))) w' (.tup [.bool true,k,v]) r):=by
  obtain ⟨c,rfl,hbl,hc⟩:=hu.iter_inv
  have hc:=hc _ _ _ _ hb
  obtain ⟨hun,_,c',cm,since,seen,stepped,h1,h2,h3,h4,h5⟩:=hR.obj b _ hb
  rw [hc] at h1; cases h1
  obtain ⟨q1,_⟩:=h4 _ _ _ hm
  obtain ⟨E,r1,r2,r3,r4,r5⟩:=h5 _ _ hm
  obtain ⟨E',clock,hE,hML,hborn,hinj⟩:=map_at hR hm q1
  rw [r1] at hE; cases hE
  subst r2
  have hget:(getObj c).run P w=.ok (.mapIter (some cm) stepped seen stepped) w:=by simp [getObj,Sem.run,h2]

  have hallE:∀ e,e ∈ E→e.born < stepped:=fun e he=>by
    obtain ⟨i,hi⟩:=Array.mem_iff_getElem?.1 he
    exact hborn i e hi
  have hold:(E.filter fun (e:MapEntry)=>!seen.contains e.born).filter (fun e=>decide (e.born < stepped))=E.filter fun (e:MapEntry)=>!seen.contains e.born:=by
    rw [Array.filter_eq_self]
    intro e he
    simpa using hallE e (Array.mem_filter.1 he).1
  have hnew:(E.filter fun (e:MapEntry)=>!seen.contains e.born).filter (fun e=>decide (e.born ≥ stepped))=#[]:=by
    rw [Array.filter_eq_empty_iff]
    intro e he
    have:=hallE e (Array.mem_filter.1 he).1
    simp; omega
  have hgone:(!seen.isEmpty && !E.isEmpty && E.all (fun e=>decide (e.born ≥ stepped)))=false:=by
    cases hs:E.toList with
    | nil =>
      have:E=#[]:=Array.toList_eq_nil_iff.1 hs
      simp [this]
    | cons e l =>
      have he:e ∈ E:=by rw [← Array.mem_toList_iff,hs]; exact .head _
      have hf:E.all (fun e=>decide (e.born ≥ stepped))=false:=by
        rw [Array.all_eq_false']
        exact ⟨e,he,by have:=hallE e he; simp; omega⟩
      rw [hf,Bool.and_false]
  have hLl:(E.filter fun (e:MapEntry)=>!seen.contains e.born).toList=E.toList.filter fun (e:MapEntry)=>!seen.contains e.born:=by simp
  have hsz:(E.filter fun (e:MapEntry)=>!seen.contains e.born).size=rest.length:=by rw [← Array.length_toList,hLl,r3]
  have hrun:(Instr.next (.pointer (some ⟨c,0,none⟩)) false t).run P w =
      ((choose (Question.mapNext ((if (E.filter fun (e:MapEntry)=>!seen.contains e.born).isEmpty then #[none] else #[]) ++ (E.filter fun (e:MapEntry)=>!seen.contains e.born).map some).size)).run P w).andThen fun j w =>
        (match ((if (E.filter fun (e:MapEntry)=>!seen.contains e.born).isEmpty then #[none] else #[]) ++ (E.filter fun (e:MapEntry)=>!seen.contains e.born).map some)[j]? with
        | some (some e)=>(do setObj c (.mapIter (some cm) stepped (seen.push e.born) stepped); pure (.tuple #[.bool true,e.key,e.val]):Sem Value)
        | some none=>pure (.tuple #[.bool false])
        | none => stuck "Next: no such candidate").run P w := by
    simp only [Instr.next,Sem.run_bind,hget,Result.andThen_ok,run_getMap r1,hgone,Bool.false_eq_true,if_false,hold,hnew,Array.append_empty]
    rfl
  constructor
  · intro h0
    subst h0
    have hemp:(E.filter fun (e:MapEntry)=>!seen.contains e.born)=#[]:=Array.size_eq_zero_iff.1 hsz
    rw [hemp] at hrun
    obtain ⟨j,w1,hj,he,hh,hch⟩:=run_mapNext (P:=P) 1 (by omega) w
    have hj0:j=0:=by omega
    subst hj0
    refine ⟨w1,?_,he,hh⟩
    have e1:((if (#[]:Array MapEntry).isEmpty then #[none] else #[]) ++ (#[]:Array MapEntry).map some)=(#[none]:Array (Option MapEntry)):=by simp
    rw [hrun,e1]
    show ((choose (Question.mapNext 1)).run P w).andThen _=_
    rw [hch]
    rfl
  · intro h0
    have hne:(E.filter fun (e:MapEntry)=>!seen.contains e.born).isEmpty=false:=by
      rw [Array.isEmpty_eq_false_iff,ne_eq,← Array.size_eq_zero_iff,hsz]
      intro e; exact h0 (List.eq_nil_of_length_eq_zero e)
    rw [hne] at hrun
    simp only [Bool.false_eq_true,if_false,Array.empty_append,Array.size_map,hsz] at hrun
    obtain ⟨j,w1,hj,he,hh,hch⟩:=run_mapNext (P:=P) rest.length (by cases rest; exact absurd rfl h0; simp) w
    obtain ⟨⟨k,v⟩,hkv⟩:=get_of_lt hj
    obtain ⟨e,e1,e2,e3⟩:=r4 j k v hkv
    have e1':(E.filter fun (e:MapEntry)=>!seen.contains e.born)[j]?=some e:=by rw [← Array.getElem?_toList,hLl]; exact e1
    have hset:(setObj c (.mapIter (some cm) stepped (seen.push e.born) stepped)).run P w1=.ok () { w1 with heap:=w1.heap.setIfInBounds c (.mapIter (some cm) stepped (seen.push e.born) stepped) }:=by
      have:w1.heap[c]?=some (.mapIter (some cm) stepped seen stepped):=by rw [hh]; exact h2
      simp [setObj,Sem.run,this]
    have hrun2:(Instr.next (.pointer (some ⟨c,0,none⟩)) false t).run P w=.ok (.tuple #[.bool true,e.key,e.val]) { w1 with heap:=w1.heap.setIfInBounds c (.mapIter (some cm) stepped (seen.push e.born) stepped) }:=by
      rw [hrun,hch]
      simp only [Result.andThen_ok,Array.getElem?_map,e1',Option.map_some,Sem.run_bind,hset,Sem.run_pure]
    have hcl:c < w.heap.size:=arr_lt h2
    have hother:∀ x,x ≠ c→({ w1 with heap:=w1.heap.setIfInBounds c (.mapIter (some cm) stepped (seen.push e.born) stepped) }:World).heap[x]?=w.heap[x]?:=fun x hx=>by rw [setObj_other w1 c _ hx,hh]
    have hsize:({ w1 with heap:=w1.heap.setIfInBounds c (.mapIter (some cm) stepped (seen.push e.born) stepped) }:World).heap.size=w.heap.size:=by simp [hh]
    have hat:({ w1 with heap:=w1.heap.setIfInBounds c (.mapIter (some cm) stepped (seen.push e.born) stepped) }:World).heap[c]?=some (.mapIter (some cm) stepped (seen.push e.born) stepped):=setObj_at w1 c _ (by rw [hh]; exact hcl)
    have henv:Env w { w1 with heap:=w1.heap.setIfInBounds c (.mapIter (some cm) stepped (seen.push e.born) stepped) }:=he
    have hcm:cm ≠ c:=by
      intro q
      rw [q,h2] at r1; cases r1
    have hmb:m ≠ b:=by
      intro q
      rw [q,hb] at hm; cases hm
    have ht:Turns (.iter m ver rest last) (.iter m ver (rest.eraseIdx j) (some (k,v))):=⟨rfl,rfl⟩
    have hx:=Ext.turn hR hb hc ht henv hsize hother
    have hinjL:∀ (i l:Nat) a a',(E.toList.filter fun (e:MapEntry)=>!seen.contains e.born)[i]?=some a→(E.toList.filter fun (e:MapEntry)=>!seen.contains e.born)[l]?=some a'→a.born=a'.born→i=l:=by

      have nd:(E.toList.map (·.born)).Nodup:=by
        rw [List.Nodup,List.pairwise_iff_getElem]
        intro i l hi hl hil q
        have hl':l < E.size:=by simpa using hl
        have hi':i < E.size:=by omega
        simp only [List.getElem_map,Array.getElem_toList] at q
        have:=hinj i l _ _ (Array.getElem?_eq_getElem hi') (Array.getElem?_eq_getElem hl') q
        omega
      have nd2:((E.toList.filter fun (e:MapEntry)=>!seen.contains e.born).map (·.born)).Nodup:=(List.filter_sublist.map _).nodup nd
      intro i l a a' hi hl hq
      have h1:((E.toList.filter fun (e:MapEntry)=>!seen.contains e.born).map (·.born))[i]?=some a.born:=by simp only [List.getElem?_map,hi,Option.map_some]
      have h2:((E.toList.filter fun (e:MapEntry)=>!seen.contains e.born).map (·.born))[l]?=some a.born:=by simp only [List.getElem?_map,hl,Option.map_some,hq]
      exact (List.getElem?_inj (lt_of_get h1) nd2).1 (h1.trans h2.symm)
    have hleft:(E.toList.filter fun x=>!(seen.push e.born).contains x.born)=(E.toList.filter fun x=>!seen.contains x.born).eraseIdx j:=by
      rw [← filter_erase (f:=(·.born)) _ j e e1 hinjL,List.filter_filter]
      congr 1
      funext x
      have:(seen.push e.born).contains x.born=(seen.contains x.born || (x.born == e.born)):=by
        rw [Bool.eq_iff_iff]
        simp [Array.mem_push]
      rw [this,Bool.not_or,Bool.and_comm]
    refine ⟨j,k,v,_,_,hj,hkv,hrun2,R.turn hR hb hc ht henv hsize hother ⟨?_,?_,c,cm,stepped,seen.push e.born,stepped,hc,hat,by simpa using h3,fun t v' es' h=>?_,fun t es' h=>?_⟩,hx,?_⟩
    · rw [List.length_set]
      exact List.all_eq_true.2 fun p hp=>List.all_eq_true.1 hun p (List.mem_of_mem_eraseIdx hp)
    · intro p hp
      cases hp
      rw [List.length_set]
      exact List.all_eq_true.1 hun (k,v) (List.mem_of_getElem? hkv)
    · rw [get_set_ne hmb,hm] at h
      cases h
      exact ⟨q1,Nat.le_refl _⟩
    · rw [get_set_ne hmb,hm] at h
      cases h
      refine ⟨E,by rw [hother cm hcm]; exact r1,rfl,?_,fun i k' v' hk=>?_,fun k' v' h=>?_⟩
      · rw [hleft,List.length_eraseIdx,List.length_eraseIdx,r3]
      · rw [hleft]
        rw [List.getElem?_eraseIdx] at hk ⊢
        split at hk
        · rename_i hi
          rw [if_pos hi]
          obtain ⟨a,a1,a2,a3⟩:=r4 i k' v' hk
          exact ⟨a,a1,a2.mono hx,a3.mono hx⟩
        · rename_i hi
          rw [if_neg hi]
          obtain ⟨a,a1,a2,a3⟩:=r4 (i + 1) k' v' hk
          exact ⟨a,a1,a2.mono hx,a3.mono hx⟩
      · cases h
        refine ⟨e.born,e,by simp,?_,e2.mono hx,e3.mono hx⟩
        have hmem:e ∈ E:=by
          have:=List.mem_of_getElem? e1
          exact Array.mem_toList_iff.1 (List.mem_filter.1 this).1
        cases hf:E.find? (fun x=>x.born == e.born) with
        | none =>
          rw [Array.find?_eq_none] at hf
          exact absurd (hf e hmem) (by simp)
        | some x =>
          have hp:=Array.find?_some hf
          have hxm:=Array.mem_of_find?_eq_some hf
          obtain ⟨i,hi⟩:=Array.mem_iff_getElem?.1 hxm
          obtain ⟨l,hl⟩:=Array.mem_iff_getElem?.1 hmem
          have:=hinj i l x e hi hl (by simpa using hp)
          rw [this,hl] at hi
          cases hi
          rfl
    · exact .tup _ [.bool true,e.key,e.val] rfl (LR.cons (.pure _ _ (.bool _)) (LR.cons (e2.mono hx) (LR.cons (e3.mono hx) .nil))).2
end
end Go.Ai
end
section
namespace Go.Ai
open Go
section
variable {P:Program} {G:Gh} {H:List AObj} {w:World}
theorem sim_mksl (hR:R P G H w) {t e:TypeId} (ht:P.underlying t=some (.slice e)) {i:TypeInfo} (hi:P.info? e=some i) {zs:List AV} (hz:zeroCells P e=some zs) (hzl:zs.length=i.size) (h0:0 < i.size) (hb0:0 < i.bytes)
    {kn kc:IntKind} {a:Int} (ha:0≤a) (hfit:a * i.bytes≤140737488355328) :
    ∃ u w' G',(Instr.makeSlice t (.int kn a) (.int kc a)).run P w=.ok u w'∧R P G' (H ++ [.cells (List.replicate a.toNat zs).flatten]) w'∧Ext G H w G' (H ++ [.cells (List.replicate a.toNat zs).flatten]) w' ∧
      VR G' (H ++ [.cells (List.replicate a.toNat zs).flatten]) w' (.sref H.length 0 a.toNat (a.toNat * i.size) i.size) u:=by
  obtain ⟨i',z,hi',hzz,ho⟩:=zeroCells_some hz
  rw [hi] at hi'; cases hi'
  have hle:a≤140737488355328:=by
    have:a * 1≤a * i.bytes:=Int.mul_le_mul_of_nonneg_left (by omega) ha
    omega
  have wl:IntKind.i64.wrap a=a:=by rw [IntKind.wrap_i64]; omega
  have n1:¬ a < 0:=by omega
  have n2:¬ (281474976710656 < (i.bytes:Int) * a):=by rw [Int.mul_comm]; omega
  have hL:=zeros_LR (n:=a.toNat) (ofVals1_LR (G:=G) (H:=H) (w:=w) ho) (by omega)
  have hlen:(List.replicate a.toNat zs).flatten.length=a.toNat * i.size:=by rw [length_replicate_flatten,hzl]
  rw [hzl] at hL
  have hrun:(Instr.makeSlice t (.int kn a) (.int kc a)).run P w=.ok (.slice (some ⟨w.heap.size,0,none⟩) a.toNat a.toNat) (w.alloc (.cells ((Array.range (a.toNat * i.size)).map (z.cells[· % z.cells.size]!)) e)):=by
    by_cases hn:a.toNat * i.size=0
    · have ha0:a.toNat=0:=by rcases Nat.mul_eq_zero.1 hn with h | h; exact h; omega
      have hr:∀ f:Nat→Value,(Array.range (a.toNat * i.size)).map f=#[]:=by intro f; rw [hn]; simp
      rw [hr]
      simp [Instr.makeSlice,run_underlying ht,asInt,asIntOf,typeInfo,hi,sizeOf,wl,n1,n2,ha0,newRow,askRoom,roomBytes]
      congr 2
      apply Array.ext'
      simp
    · simp [Instr.makeSlice,run_underlying ht,asInt,asIntOf,typeInfo,hi,sizeOf,zeroValue,hzz,wl,n1,n2,hn,newRow,askRoom,roomBytes]
  have h1:(List.replicate a.toNat zs).flatten.all AV.one=true:=by
    refine List.all_eq_true.2 fun x hx=>?_
    obtain ⟨l,hl,hxl⟩:=List.mem_flatten.1 hx
    rw [(List.mem_replicate.1 hl).2] at hxl
    exact List.all_eq_true.1 (ofVals1_one ho) x hxl
  obtain ⟨k1,k2⟩:=new_row hR hL h1 e (w':=w.alloc (.cells ((Array.range (a.toNat * i.size)).map (z.cells[· % z.cells.size]!)) e)) (by rw [Array.toArray_toList]; rfl) (env_alloc _ _)
  refine ⟨_,_,_,hrun,k1,k2,.sref _ _ _ _ _ _ _ (by simp) (fun cs' h=>?_) (fun cs' h _=>.inr ⟨w.heap.size,by simp,rfl,?_,Nat.le_refl _,?_,h0⟩)⟩
  · rw [get_append_eq] at h; cases h; rw [hlen]; exact Nat.le_refl _
  · rw [Gh.upd_siz_same,hL.1,hlen,Nat.zero_add]
  · rw [Nat.zero_add]; exact Nat.le_refl _
theorem ps_mlen (hR:R P G H w) {t kt e ty:TypeId} (ht:P.underlying t=some (.map kt e)) {x:AV} {u:Value} (hx:VR G H w x u) {es:List (AV × AV)} (he:mapOf H x=some es) :
    PS P G H w (Builtin.len_ #[t] ty #[u]) (.int .i64 es.length):=by
  refine ⟨.int .i64 es.length,?_,.pure _ _ (.int _ _)⟩
  cases x <;> simp only [mapOf] at he
  case nilmap =>
    cases he
    cases hx with | pure _ _ h=>cases h; simp [Builtin.len_,run_und ht,goInt]
  case map b =>
    split at he
    · rename_i t' ver es' hb
      cases he
      obtain ⟨c,rfl,_,hc⟩:=hx.map_inv
      obtain ⟨E,clock,h1,h2,_,_⟩:=map_at hR hb (hc _ _ _ hb)
      have hl:=h2.1
      simp at hl
      simp [Builtin.len_,run_und ht,goInt,run_getMap h1,hl]
    · cases he
  all_goals cases he
theorem eqGuard_none (op:BinOp) (t:TypeId) (x y:Operand) (u v:Value) (h1:¬ (u=.nilIface∧v=.nilIface)) (h2:∀ a b,¬ (u=.agg a∧v=.agg b)):(eqGuard op t x y u v).run P w=.ok () w:=by
  cases u <;> cases v <;> first | (exact absurd ⟨rfl,rfl⟩ h1) | (exact absurd ⟨rfl,rfl⟩ (h2 _ _)) | (cases op <;> rfl)
theorem ps_eqs {t:TypeId} {k:EqK} (hk:eqK P t=some k) {x y:AV} {u v:Value} (hx:VR G H w x u) (hy:VR G H w y v) {b:Bool} (hb:evEq k x y=some b) (neg:Bool) (ox oy:Operand) (op:BinOp) (hop:op=if neg then .neq else .eql) :
    PS P G H w (do eqGuard op t ox oy u v; binOp op t u v) (.bool (if neg then !b else b)):=by

  have key:(eqGuard op t ox oy u v).run P w=.ok () w→(Op.equal t u v).run P w=.ok b w→(∀ o,o=op→(binOp o t u v=match o with | .eql=>(do pure (.bool (← Op.equal t u v))) | _=>(do pure (.bool (!(← Op.equal t u v)))))) →
      PS P G H w (do eqGuard op t ox oy u v; binOp op t u v) (.bool (if neg then !b else b)):=by
    intro hg he ho
    refine ⟨.bool (if neg then !b else b),?_,.pure _ _ (.bool _)⟩
    rw [Sem.run_bind,hg,Result.andThen_ok,ho op rfl]
    cases neg <;> (rw [hop]; simp [he])
  have bin:∀ o,o=op→(∀ k n,u ≠ .int k n)→(∀ k n,u ≠ .float k n)→(∀ k n m,u ≠ .complex k n m)→(∀ s,u ≠ .string s)→(binOp o t u v=match o with | .eql=>(do pure (.bool (← Op.equal t u v))) | _=>(do pure (.bool (!(← Op.equal t u v))))):=by
    intro o ho h1 h2 h3 h4
    subst ho
    rw [hop]
    cases neg <;> cases u <;> first | rfl | (exact absurd rfl (h1 _ _)) | (exact absurd rfl (h2 _ _)) | (exact absurd rfl (h3 _ _ _)) | (exact absurd rfl (h4 _))
  unfold eqK at hk
  split at hk
  case h_1 ht =>
    cases hk
    cases x <;> cases y <;> simp only [evEq,Option.some.injEq,reduceCtorEq] at hb
    obtain rfl:=hx.bool_inv
    obtain rfl:=hy.bool_inv
    subst hb
    exact key (eqGuard_none _ _ _ _ _ _ (by simp) (by simp)) (run_equal_bool w t _ _ ht) (fun o ho=>bin o ho (by simp) (by simp) (by simp) (by simp))
  case h_2 e ht =>
    cases hk
    have hn:∀ {z:AV} {q:Value},VR G H w z q→z=.nilptr→q=.pointer none:=fun h e=>by subst e; cases h with | pure _ _ h=>cases h; rfl
    have hp:∀ {z:AV} {q:Value},VR G H w z q→(∃ b o v,z=.ptr b o v)∨(∃ c o,z=.vptr c o)→∃ a,q=.pointer (some a):=fun h e=>by
      rcases e with ⟨_,_,_,rfl⟩ | ⟨_,_,rfl⟩
      · exact h.ptr_shape
      · obtain ⟨_,_,_,rfl,_⟩:=h.vptr_inv; exact ⟨_,rfl⟩
    have all:(∃ a b',u=.pointer a∧v=.pointer b'∧(a=none∨b'=none)∧b=(a.isNone && b'.isNone)):=by
      cases x <;> cases y <;> simp only [evEq,Option.some.injEq,reduceCtorEq] at hb <;> subst hb
      · obtain ⟨a,rfl⟩:=hp hx (.inl ⟨_,_,_,rfl⟩); exact ⟨_,_,rfl,hn hy rfl,.inr rfl,rfl⟩
      · obtain ⟨a,rfl⟩:=hp hx (.inr ⟨_,_,rfl⟩); exact ⟨_,_,rfl,hn hy rfl,.inr rfl,rfl⟩
      · obtain ⟨a,rfl⟩:=hp hy (.inl ⟨_,_,_,rfl⟩); exact ⟨_,_,hn hx rfl,rfl,.inl rfl,rfl⟩
      · obtain ⟨a,rfl⟩:=hp hy (.inr ⟨_,_,rfl⟩); exact ⟨_,_,hn hx rfl,rfl,.inl rfl,rfl⟩
      · exact ⟨_,_,hn hx rfl,hn hy rfl,.inl rfl,rfl⟩
    obtain ⟨a,b',rfl,rfl,hor,rfl⟩:=all
    refine key (eqGuard_none _ _ _ _ _ _ (by simp) (by simp)) ?_ (fun o ho=>bin o ho (by simp) (by simp) (by simp) (by simp))
    simp only [Op.equal,Op.maxDepth]
    rw [show (10000:Nat)=9999 + 1 from rfl,Op.equalIn]
    cases a <;> cases b' <;> first | (exfalso; simp at hor; done) | simp [run_underlying ht]
  case h_3 kt e ht =>
    cases hk
    have all:(∃ a b',u=.map a∧v=.map b'∧(a=none∨b'=none)∧b=(a.isNone && b'.isNone)):=by
      have hn:∀ {z:AV} {q:Value},VR G H w z q→z=.nilmap→q=.map none:=fun h e=>by subst e; cases h with | pure _ _ h=>cases h; rfl
      cases x <;> cases y <;> simp only [evEq,Option.some.injEq,reduceCtorEq] at hb <;> subst hb
      · obtain ⟨a,rfl,_⟩:=hx.map_inv; exact ⟨_,_,rfl,hn hy rfl,.inr rfl,rfl⟩
      · obtain ⟨a,rfl,_⟩:=hy.map_inv; exact ⟨_,_,hn hx rfl,rfl,.inl rfl,rfl⟩
      · exact ⟨_,_,hn hx rfl,hn hy rfl,.inl rfl,rfl⟩
    obtain ⟨a,b',rfl,rfl,hor,rfl⟩:=all
    refine key (eqGuard_none _ _ _ _ _ _ (by simp) (by simp)) ?_ (fun o ho=>bin o ho (by simp) (by simp) (by simp) (by simp))
    simp only [Op.equal,Op.maxDepth]
    rw [show (10000:Nat)=9999 + 1 from rfl,Op.equalIn]
    cases a <;> cases b' <;> first | (exfalso; simp at hor; done) | simp [run_underlying ht]
  case h_4 ht =>
    cases hk
    have hn:∀ {z:AV} {q:Value},VR G H w z q→z=.nilfn→q=.nilFunc:=fun h e=>by subst e; cases h with | pure _ _ h=>cases h; rfl
    have hf:∀ {z:AV} {q:Value} {f cs},VR G H w z q→z=.fn f cs→∃ a b c,q=.func a b c:=fun h e=>by subst e; obtain ⟨us,rfl,_⟩:=h.fn_inv; exact ⟨_,_,_,rfl⟩
    have all:(u=.nilFunc∧v=.nilFunc∧b=true)∨(u=.nilFunc∧(∃ p q r,v=.func p q r)∧b=false)∨((∃ p q r,u=.func p q r)∧v=.nilFunc∧b=false):=by
      cases x <;> cases y <;> simp only [evEq,Option.some.injEq,reduceCtorEq] at hb <;> subst hb
      · exact .inr (.inr ⟨hf hx rfl,hn hy rfl,rfl⟩)
      · exact .inr (.inl ⟨hn hx rfl,hf hy rfl,rfl⟩)
      · exact .inl ⟨hn hx rfl,hn hy rfl,rfl⟩
    rcases all with ⟨rfl,rfl,rfl⟩ | ⟨rfl,⟨_,_,_,rfl⟩,rfl⟩ | ⟨⟨_,_,_,rfl⟩,rfl,rfl⟩ <;>
      (refine key (eqGuard_none _ _ _ _ _ _ (by simp) (by simp)) ?_ (fun o ho=>bin o ho (by simp) (by simp) (by simp) (by simp))
       simp only [Op.equal,Op.maxDepth]
       rw [show (10000:Nat)=9999 + 1 from rfl,Op.equalIn]
       simp [run_underlying ht])
  case h_5 ht =>
    cases hk
    have hn:∀ {z:AV} {q:Value},VR G H w z q→z=.nilIface→q=.nilIface:=fun h e=>by subst e; cases h with | pure _ _ h=>cases h; rfl
    have hf:∀ {z:AV} {q:Value} {f cs},VR G H w z q→z=.iface f cs→∃ a b,q=.iface a b:=fun h e=>by subst e; obtain ⟨us,rfl,_⟩:=h.iface_inv; exact ⟨_,_,rfl⟩
    have all:(u=.nilIface∧(∃ p q,v=.iface p q)∧b=false)∨((∃ p q,u=.iface p q)∧v=.nilIface∧b=false):=by
      cases x <;> cases y <;> simp only [evEq,Option.some.injEq,reduceCtorEq] at hb <;> subst hb
      · exact .inr ⟨hf hx rfl,hn hy rfl,rfl⟩
      · exact .inl ⟨hn hx rfl,hf hy rfl,rfl⟩
    rcases all with ⟨rfl,⟨_,_,rfl⟩,rfl⟩ | ⟨⟨_,_,rfl⟩,rfl,rfl⟩ <;>
      (refine key (eqGuard_none _ _ _ _ _ _ (by simp) (by simp)) ?_ (fun o ho=>bin o ho (by simp) (by simp) (by simp) (by simp))
       simp only [Op.equal,Op.maxDepth]
       rw [show (10000:Nat)=9999 + 1 from rfl,Op.equalIn]
       simp [run_underlying ht])
  all_goals first
    | (cases hk; done)
    | (split at hk
       · cases hk
       · rename_i hg
         simp only [Option.bind_eq_some_iff] at hk
         obtain ⟨s,hs,hk⟩:=hk
         cases hk
         simp only [evEq] at hb
         split at hb
         · rename_i hsh
           cases hb
           simp only [Bool.and_eq_true] at hsh
           obtain ⟨ex,fx⟩:=hasSh_val hsh.1 hx
           obtain ⟨ey,fy⟩:=hasSh_val hsh.2 hy
           have hs':=hs
           unfold shT at hs'
           simp only [Option.bind_eq_some_iff] at hs'
           obtain ⟨a,ha,ks,hks,hs'⟩:=hs'
           cases hs'
           have hat:a=true:=by unfold isAggT at ha; simp_all
           subst hat
           have heq:=eq_shape 9992 w 8 hks ha fx fy
           dsimp only at ex ey
           rw [← ex,← ey] at heq
           have exu:∃ us,u=.agg us:=⟨_,by rw [ex]; rfl⟩
           have eyu:∃ us,v=.agg us:=⟨_,by rw [ey]; rfl⟩
           obtain ⟨us,rfl⟩:=exu
           obtain ⟨vs,rfl⟩:=eyu
           exact key (run_eqGuard_agg w op t ox oy us vs (by simpa using hg)) heq (fun o ho=>bin o ho (by simp) (by simp) (by simp) (by simp))
         · cases hb)
end
end Go.Ai
end
section
namespace Go.Ai
open Go
section
variable {P:Program} {G:Gh} {H:List AObj} {w:World}
theorem Sim1.ps (hR:R P G H w) {r:Result Next} {v:AV} {s:Sem Value} (hs:PS P G H w s v) (hr:r=(do pure (.value (← s)):Sem Next).run P w):Sim1 P G H w r v H:=by
  obtain ⟨u,hu,hv⟩:=hs
  exact ⟨u,w,G,.inl (by rw [hr,Sem.run_bind,hu]; simp),hR,Ext.refl G H w,hv⟩
theorem Sim1.val {r:Result Next} {v:AV} {H':List AObj} {s:Sem Value} (hs:∃ u w' G',s.run P w=.ok u w'∧R P G' H' w'∧Ext G H w G' H' w'∧VR G' H' w' v u) (hr:r=(do pure (.value (← s)):Sem Next).run P w):Sim1 P G H w r v H':=by
  obtain ⟨u,w',G',hu,h1,h2,hv⟩:=hs
  exact ⟨u,w',G',.inl (by rw [hr,Sem.run_bind,hu]; simp),h1,h2,hv⟩
theorem Sim1.unit {r:Result Next} {H':List AObj} {s:Sem Unit} (hs:∃ w',s.run P w=.ok () w'∧R P G H' w'∧Ext G H w G H' w') (hr:r=(do s; pure .skip:Sem Next).run P w):Sim1 P G H w r .undef H':=by
  obtain ⟨w',hu,h1,h2⟩:=hs
  exact ⟨undef,w',G,.inr ⟨by rw [hr,Sem.run_bind,hu]; simp,rfl⟩,h1,h2,.undef'⟩
theorem bind_some {α β:Type} {o:Option α} {f:α→Option β} {b:β} (h:o.bind f=some b):∃ a,o=some a∧f a=some b:=Option.bind_eq_some_iff.1 h
theorem opt_opd {lo:Option Operand} {l:Option AOpd} (h:(match lo with | none=>some none | some x=>(opd x).bind fun x=>some (some x))=some l) {ρ:Regs} {a:Act} (hr:RR G H w ρ a.tmps):OV G H w (l.map (·.ev ρ)) (lo.map a.eval):=by
  cases lo with
  | none=>cases h; trivial
  | some x =>
    obtain ⟨y,hy,h⟩:=bind_some h
    cases h
    exact opd_VR hr hy
theorem two {x y:AOpd} {ρ:Regs} {us:List Value} (h:LR G H w ([x,y].map (·.ev ρ)) us):∃ u v,us=[u,v]∧VR G H w (x.ev ρ) u∧VR G H w (y.ev ρ) v:=by
  obtain ⟨hl,h⟩:=h
  match us,hl with
  | [u,v],_=>exact ⟨u,v,rfl,h 0 _ _ rfl rfl,h 1 _ _ rfl rfl⟩
theorem one_more {x:AOpd} {ys:List AOpd} {ρ:Regs} {us:List Value} (h:LR G H w ((x :: ys).map (·.ev ρ)) us):∃ u vs,us=u :: vs∧VR G H w (x.ev ρ) u∧LR G H w (ys.map (·.ev ρ)) vs:=by
  obtain ⟨hl,h⟩:=h
  match us,hl with
  | u :: vs,hl=>exact ⟨u,vs,rfl,h 0 _ _ rfl rfl,by simpa using hl,fun i p q hp hq=>h (i + 1) p q (by simpa using hp) (by simpa using hq)⟩
theorem evI_sim {auto : Bool} {own rows:List Nat} {o:Oper} {i:AIns} (hc:compileIns P auto own rows o=some i) {a:Act} {ρ:Regs} (hR:R P G H w) (hr:RR G H w ρ a.tmps) {base:Option Nat} {lk:Bool} {v:AV} {s':St}
    (he:evI base ρ ⟨H,lk⟩ i=some (v,s')):Sim1 P G H w ((execOp a.eval o).run P w) v s'.heap:=by
  unfold compileIns at hc
  cases ho:o.op <;> simp only [ho] at hc
  case move x =>
    obtain ⟨y,hy,hc⟩:=bind_some hc
    cases hc; cases he
    exact Sim1.here hR (by simp [execOp,ho]) (opd_VR hr hy)
  case assign x =>
    have plain:∀ {y:AOpd},opd x=some y→AIns.mov y=i→Sim1 P G H w ((execOp a.eval o).run P w) v s'.heap:=by
      intro y hy e
      subst e; cases he
      exact Sim1.here hR (by simp [execOp,ho]) (opd_VR hr hy)
    split at hc
    · split at hc
      · split at hc
        · obtain ⟨n,hn,hc⟩:=bind_some hc
          split at hc
          · cases hc; cases he
            obtain ⟨k1,k2,k3⟩:=sim_own hR n
            exact ⟨_,w,_,.inl (by simp [execOp,ho,Act.eval]),k1,k2,k3⟩
          · cases hc
        · cases hc
      · cases hc; cases he
        exact Sim1.here hR (u:=.slice none 0 0) (by simp [execOp,ho,Act.eval]) (.pure _ _ (.slice0 _ _ _ _ (fun _=>rfl)))
    · obtain ⟨y,hy,hc⟩:=bind_some hc
      exact plain hy (Option.some.inj hc)
  case pick c x y =>
    obtain ⟨c',h1,hc⟩:=bind_some hc
    obtain ⟨x',h2,hc⟩:=bind_some hc
    obtain ⟨y',h3,hc⟩:=bind_some hc
    cases hc
    simp only [evI] at he
    split at he
    · rename_i t ht
      cases he
      have hb:=opd_VR hr h1
      rw [ht] at hb
      have:=hb.bool_inv
      cases t
      · exact Sim1.here hR (u:=a.eval y) (by simp [execOp,ho,this,asBool]) (opd_VR hr h3)
      · exact Sim1.here hR (u:=a.eval x) (by simp [execOp,ho,this,asBool]) (opd_VR hr h2)
    · cases he
  case alloc t =>
    obtain ⟨z,hz,hc⟩:=bind_some hc
    cases hc; cases he
    exact Sim1.val (sim_alloc hR hz) (by simp only [execOp,ho])
  case box t x =>
    obtain ⟨n,hn,hc⟩:=bind_some hc
    obtain ⟨y,hy,hc⟩:=bind_some hc
    cases hc
    simp only [evI] at he
    split at he
    · rename_i h
      cases he
      exact Sim1.val (sim_box hR t (opd_VR hr hy) h.1 h.2) (by simp only [execOp,ho])
    · cases he
  case build t parts =>
    obtain ⟨z,hz,hc⟩:=bind_some hc
    have hparts:(parts.map fun (p:Nat × Operand)=>(p.1,a.eval p.2))=(parts.toList.map fun p=>(p.1,a.eval p.2)).toArray:=by apply Array.ext'; simp
    split at hc
    · rename_i fields ht
      obtain ⟨pl,hpl,hc⟩:=bind_some hc
      obtain ⟨ps,hps,hc⟩:=bind_some hc
      cases hc
      simp only [evI] at he
      obtain ⟨cs,hcs,he⟩:=bind_some he
      cases he
      refine Sim1.ps hR (ps_build_struct ht hz hpl (parts_of hr hps) hcs) ?_
      rw [← hparts]
      simp only [execOp,ho]
    · rename_i n e ht
      obtain ⟨n',hn,hc⟩:=bind_some hc
      obtain ⟨ps,hps,hc⟩:=bind_some hc
      cases hc
      simp only [evI] at he
      obtain ⟨cs,hcs,he⟩:=bind_some he
      cases he
      refine Sim1.ps hR (ps_build_array ht hn hz (partsA_of hr hps) hcs) ?_
      rw [← hparts]
      simp only [execOp,ho]
    · cases hc
  case buildSlice t len parts =>
    have hparts:(parts.map fun (p:Nat × Operand)=>(p.1,a.eval p.2))=(parts.toList.map fun p=>(p.1,a.eval p.2)).toArray:=by apply Array.ext'; simp
    split at hc
    · rename_i e ht
      obtain ⟨n,hn,hc⟩:=bind_some hc
      obtain ⟨z,hz,hc⟩:=bind_some hc
      split at hc
      · rename_i hcond
        obtain ⟨ps,hps,hc⟩:=bind_some hc
        obtain ⟨rwb,rfl⟩:∃ rwb,i=.lit n (List.replicate len z).flatten ps rwb auto:=⟨_,(Option.some.inj hc).symm⟩
        simp only [evI] at he
        obtain ⟨cs,hcs,he⟩:=bind_some he
        have hL:=sim_lit hR ht hn hcond.2.2 hcond.1 hz hcond.2.1 (partsS_of hr hps) hcs
        split at he
        · rename_i h1
          obtain ⟨k1,k2⟩:=hL h1
          split at he
          · cases he
            refine Sim1.val k1 ?_
            rw [← hparts]
            simp only [execOp,ho]
          · split at he
            · rename_i hcl
              cases he
              obtain ⟨u,w',q1,q2,q3,q4⟩:=k2 hcl
              refine Sim1.val ⟨u,w',G,q1,q2,q3,q4⟩ ?_
              rw [← hparts]
              simp only [execOp,ho]
            · cases he
        · cases he
      · cases hc
    · cases hc
  case load t x =>
    obtain ⟨ag,ha,hc⟩:=bind_some hc
    obtain ⟨y,hy,hc⟩:=bind_some hc
    cases hc
    simp only [evI] at he
    obtain ⟨r,hr',he⟩:=bind_some he
    cases he
    exact Sim1.ps hR (ps_load hR ha (opd_VR hr hy) hr') (by simp only [execOp,ho])
  case store t x y =>
    obtain ⟨n,hn,hc⟩:=bind_some hc
    obtain ⟨x',hx,hc⟩:=bind_some hc
    obtain ⟨y',hy,hc⟩:=bind_some hc
    cases hc
    simp only [evI] at he
    split at he
    · rename_i b off ver hp
      obtain ⟨cs,hrow,he⟩:=bind_some he
      split at he
      · rename_i hcond
        cases he
        have hpx:=opd_VR hr hx
        rw [hp] at hpx
        have hle:off + n≤cs.length:=hcond.2.1
        obtain ⟨w',q1,q2,q3⟩:=sim_store hR hn hpx (opd_VR hr hy) hrow hcond.1 hle hcond.2.2
        exact Sim1.unit ⟨w',q1,q2,q3⟩ (by simp only [execOp,ho])
      · cases he
    · cases he
  case nilCheck x =>
    obtain ⟨y,hy,hc⟩:=bind_some hc
    cases hc
    have hv:=opd_VR hr hy
    simp only [evI] at he
    split at he
    · rename_i b off ver hp
      cases he
      rw [hp] at hv
      obtain ⟨ad,hu⟩:=hv.ptr_shape
      exact Sim1.here hR (u:=a.eval x) (by simp [execOp,ho,hu]) hv
    · rename_i cs off hp
      cases he
      rw [hp] at hv
      obtain ⟨_,_,_,hu,_⟩:=hv.vptr_inv
      exact Sim1.here hR (u:=a.eval x) (by simp [execOp,ho,hu]) hv
    · rename_i f cs hp
      cases he
      rw [hp] at hv
      obtain ⟨_,hu,_⟩:=hv.fn_inv
      exact Sim1.here hR (u:=a.eval x) (by simp [execOp,ho,hu]) hv
    · rename_i l hp
      cases he
      rw [hp] at hv
      have hu:∃ c,a.eval x=.func (.yield c) #[] #[]:=by
        cases hq:a.eval x <;> rw [hq] at hv <;> cases hv <;> first | exact ⟨_,rfl⟩ | (rename_i h; cases h)
      obtain ⟨c,hu⟩:=hu
      exact Sim1.here hR (u:=a.eval x) (by simp [execOp,ho,hu]) hv
    · cases he
  case binOp op t x y sp =>
    obtain ⟨x',hx,hc⟩:=bind_some hc
    obtain ⟨y',hy,hc⟩:=bind_some hc
    have bin:AIns.bin op x' y'=i→Sim1 P G H w ((execOp a.eval o).run P w) v s'.heap:=by
      intro e
      subst e
      simp only [evI] at he
      obtain ⟨r,hr',he⟩:=bind_some he
      cases he
      have h1:=opd_VR hr hx
      have h2:=opd_VR hr hy
      obtain ⟨u,hu,hv⟩:=ps_bin (P:=P) (t:=t) h1 h2 hr'
      have hg:(eqGuard op t x y (a.eval x) (a.eval y)).run P w=.ok () w:=by
        unfold evBin at hr'
        split at hr'
        · rename_i k n j m e1 e2
          rw [e1] at h1
          rw [h1.int_inv]
          exact eqGuard_none _ _ _ _ _ _ (by simp) (by simp)
        · rename_i e1 e2
          rw [e1] at h1
          rw [h1.str_inv]
          exact eqGuard_none _ _ _ _ _ _ (by simp) (by simp)
        · cases hr'
      exact ⟨u,w,G,.inl (by simp [execOp,ho,hg,hu]),hR,Ext.refl _ _ _,hv⟩
    have cmp:∀ k,eqK P t=some k→∀ neg,(op=if neg then .neq else .eql)→AIns.eqs neg k x' y'=i→Sim1 P G H w ((execOp a.eval o).run P w) v s'.heap:=by
      intro k hk neg hop e
      subst e
      simp only [evI] at he
      obtain ⟨b,hb,he⟩:=bind_some he
      cases he
      exact Sim1.ps hR (ps_eqs hk (opd_VR hr hx) (opd_VR hr hy) hb neg x y op hop) (by simp only [execOp,ho])
    split at hc
    · exact bin (Option.some.inj hc)
    · exact bin (Option.some.inj hc)
    · obtain ⟨k,hk,hc⟩:=bind_some hc
      split at hc
      · exact cmp k hk false rfl (Option.some.inj hc)
      · exact cmp k hk true rfl (Option.some.inj hc)
      · cases hc
  case unOp op t x =>
    obtain ⟨y,hy,hc⟩:=bind_some hc
    cases hc
    simp only [evI] at he
    obtain ⟨r,hr',he⟩:=bind_some he
    cases he
    exact Sim1.ps hR (ps_un (opd_VR hr hy) hr') (by simp only [execOp,ho])
  case convert src dst x =>
    split at hc
    · rename_i j k hs hd
      obtain ⟨y,hy,hc⟩:=bind_some hc
      cases hc
      simp only [evI] at he
      split at he
      · rename_i kk n hn
        cases he
        have hx:=opd_VR hr hy
        rw [hn] at hx
        exact Sim1.ps hR (ps_conv hs hd hx) (by simp only [execOp,ho])
      · cases he
    · cases hc
  case fieldAddr st x f =>
    split at hc
    · rename_i fields hs
      obtain ⟨fl,hf,hc⟩:=bind_some hc
      obtain ⟨n,hn,hc⟩:=bind_some hc
      obtain ⟨y,hy,hc⟩:=bind_some hc
      split at hc
      · rename_i h0
        cases hc
        have hx:=opd_VR hr hy
        simp only [evI] at he
        split at he
        · rename_i b off ver hp
          cases he
          rw [hp] at hx
          exact Sim1.ps hR (ps_off_ptr hs hf hn h0 hx) (by simp only [execOp,ho])
        · rename_i cs off hp
          cases he
          rw [hp] at hx
          exact Sim1.ps hR (ps_off_vptr hs hf hn h0 hx) (by simp only [execOp,ho])
        · cases he
      · cases hc
    · cases hc
  case field st x f =>
    split at hc
    · rename_i fields hs
      obtain ⟨fl,hf,hc⟩:=bind_some hc
      obtain ⟨ag,ha,hc⟩:=bind_some hc
      obtain ⟨y,hy,hc⟩:=bind_some hc
      cases hc
      simp only [evI] at he
      split at he
      · rename_i cs hp
        obtain ⟨r,hr',he⟩:=bind_some he
        cases he
        have hx:=opd_VR hr hy
        rw [hp] at hx
        exact Sim1.ps hR (ps_fld hs hf ha hx hr') (by simp only [execOp,ho])
      · cases he
    · cases hc
  case indexAddr t x ix =>
    obtain ⟨y,hy,hc⟩:=bind_some hc
    obtain ⟨j,hj,hc⟩:=bind_some hc
    have hx:=opd_VR hr hy
    have hi:=opd_VR hr hj
    split at hc
    · rename_i e ht
      obtain ⟨n,hn,hc⟩:=bind_some hc
      cases hc
      simp only [evI] at he
      split at he
      · rename_i full sz es _ hp
        obtain ⟨jj,hjj,he⟩:=bind_some he
        obtain ⟨el,hel,he⟩:=bind_some he
        by_cases hsz:sz=n
        · subst hsz
          simp only [if_true] at he
          cases he
          rw [hp] at hx
          exact Sim1.ps hR (ps_iaddr_slice ht hn hx hi hjj hel) (by simp only [execOp,ho])
        · simp only [if_neg hsz] at he
          cases he
      · rename_i b off len ver sz _ hp
        split at he
        · rename_i hsz
          subst hsz
          obtain ⟨cs,hrow,he⟩:=bind_some he
          obtain ⟨jj,hjj,he⟩:=bind_some he
          cases he
          rw [hp] at hx
          exact Sim1.ps hR (ps_iaddr_sref ht hn hx hi hrow hjj) (by simp only [execOp,ho])
        · cases he
      · rename_i q _; cases q
      · rename_i q _; cases q
      · cases he
    · rename_i len e ht
      obtain ⟨n,hn,hc⟩:=bind_some hc
      cases hc
      simp only [evI] at he
      split at he
      · rename_i q _; cases q
      · rename_i q _; cases q
      · rename_i n' b off ver q hp
        cases q
        obtain ⟨jj,hjj,he⟩:=bind_some he
        cases he
        rw [hp] at hx
        exact Sim1.ps hR (ps_iaddr_arr ht hn hx hi hjj) (by simp only [execOp,ho])
      · rename_i n' cs off q hp
        cases q
        obtain ⟨jj,hjj,he⟩:=bind_some he
        cases he
        rw [hp] at hx
        exact Sim1.ps hR (ps_iaddr_varr ht hn hx hi hjj) (by simp only [execOp,ho])
      · cases he
    · cases hc
  case index t x ix =>
    obtain ⟨y,hy,hc⟩:=bind_some hc
    obtain ⟨j,hj,hc⟩:=bind_some hc
    have hx:=opd_VR hr hy
    have hi:=opd_VR hr hj
    split at hc
    · rename_i len e ht
      obtain ⟨n,hn,hc⟩:=bind_some hc
      obtain ⟨ag,ha,hc⟩:=bind_some hc
      cases hc
      simp only [evI] at he
      split at he
      · rename_i cs hp
        obtain ⟨jj,hjj,he⟩:=bind_some he
        obtain ⟨r,hr',he⟩:=bind_some he
        cases he
        rw [hp] at hx
        exact Sim1.ps hR (ps_aidx ht hn ha hx hi hjj hr') (by simp only [execOp,ho])
      · cases he
    · rename_i ht
      cases hc
      simp only [evI] at he
      split at he
      · rename_i t' hp
        obtain ⟨jj,hjj,he⟩:=bind_some he
        obtain ⟨r,hr',he⟩:=bind_some he
        cases he
        rw [hp] at hx
        exact Sim1.ps hR (ps_sidx ht hx hi hjj hr') (by simp only [execOp,ho])
      · cases he
    · cases hc
  case slice t x lo hi mx =>
    split at hc
    · cases hc
    · rename_i hmx
      have hm:mx=none:=by cases mx <;> simp_all
      subst hm
      obtain ⟨y,hy,hc⟩:=bind_some hc
      obtain ⟨l,hl,hc⟩:=bind_some hc
      obtain ⟨h,hh,hc⟩:=bind_some hc
      have hx:=opd_VR hr hy
      have hlo:OV G H w (l.map (·.ev ρ)) (lo.map a.eval):=opt_opd (by cases lo <;> exact hl) hr
      have hhi:OV G H w (h.map (·.ev ρ)) (hi.map a.eval):=opt_opd (by cases hi <;> exact hh) hr
      split at hc
      · rename_i e ht
        obtain ⟨n,hn,hc⟩:=bind_some hc
        cases hc
        simp only [evI] at he
        split at he
        · rename_i full sz es hp
          split at he
          · rename_i hsz
            obtain ⟨p,hb,he⟩:=bind_some he
            cases he
            rw [hp] at hx
            exact Sim1.ps hR (ps_slc_slice ht hn hsz hx hlo hhi hb) (by simp only [execOp,ho]; rfl)
          · cases he
        · rename_i b off len ver sz hp
          split at he
          · rename_i hsz
            subst hsz
            obtain ⟨cs,hrow,he⟩:=bind_some he
            obtain ⟨p,hb,he⟩:=bind_some he
            cases he
            rw [hp] at hx
            exact Sim1.ps hR (ps_slc_sref ht hn hx hrow hlo hhi hb) (by simp only [execOp,ho]; rfl)
          · cases he
        · cases he
      · rename_i ht
        cases hc
        simp only [evI] at he
        split at he
        · rename_i t' hp
          obtain ⟨p,hb,he⟩:=bind_some he
          cases he
          rw [hp] at hx
          exact Sim1.ps hR (ps_sslc ht hx hlo hhi hb) (by simp only [execOp,ho]; rfl)
        · cases he
      · cases hc
  case lookup t m k ok =>
    split at hc
    · rename_i kt e ht
      obtain ⟨sh,hs,hc⟩:=bind_some hc
      obtain ⟨z,hz,hc⟩:=bind_some hc
      obtain ⟨m',hm,hc⟩:=bind_some hc
      obtain ⟨k',hk,hc⟩:=bind_some hc
      cases hc
      simp only [evI] at he
      split at he
      · rename_i hsh
        obtain ⟨es,hes,he⟩:=bind_some he
        cases he
        exact Sim1.ps hR (ps_look hR ht hs hz ok (opd_VR hr hm) (opd_VR hr hk) hsh hes) (by simp only [execOp,ho])
      · cases he
    · cases hc
  case mapUpdate t m k x =>
    split at hc
    · rename_i kt e ht
      obtain ⟨sh,hs,hc⟩:=bind_some hc
      obtain ⟨m',hm,hc⟩:=bind_some hc
      obtain ⟨k',hk,hc⟩:=bind_some hc
      obtain ⟨x',hx,hc⟩:=bind_some hc
      cases hc
      simp only [evI] at he
      split at he
      · rename_i b hp
        split at he
        · rename_i t' ver es hb
          split at he
          · rename_i hcond
            cases he
            simp only [Bool.and_eq_true] at hcond
            rw [Sh.beq_eq hcond.1] at hb ⊢
            have hmv:=opd_VR hr hm
            rw [hp] at hmv
            exact Sim1.unit (sim_mupd hR ht hs hb hmv (opd_VR hr hk) hcond.2 (opd_VR hr hx)) (by simp only [execOp,ho])
          · cases he
        · cases he
      · cases he
    · cases hc
  case insert t m k x =>
    split at hc
    · rename_i kt e ht
      obtain ⟨sh,hs,hc⟩:=bind_some hc
      obtain ⟨m',hm,hc⟩:=bind_some hc
      obtain ⟨k',hk,hc⟩:=bind_some hc
      obtain ⟨x',hx,hc⟩:=bind_some hc
      cases hc
      simp only [evI] at he
      split at he
      · rename_i b hp
        split at he
        · rename_i t' ver es hb
          split at he
          · rename_i hcond
            cases he
            simp only [Bool.and_eq_true] at hcond
            rw [Sh.beq_eq hcond.1] at hb ⊢
            have hmv:=opd_VR hr hm
            rw [hp] at hmv
            exact Sim1.unit (sim_mupd hR ht hs hb hmv (opd_VR hr hk) hcond.2 (opd_VR hr hx)) (by simp only [execOp,ho])
          · cases he
        · cases he
      · cases he
    · cases hc
  case makeFunc fn first caps =>
    cases fn with
    | func f =>
      simp only at hc
      split at hc
      · rename_i hf
        obtain ⟨cs,hcs,hc⟩:=bind_some hc
        cases hc
        cases he
        have hl:=opds_LR hr hcs
        have hfe:first=#[]:=by simpa using hf
        subst hfe
        refine Sim1.here hR (u:=.func (.func f) #[] (caps.toList.map a.eval).toArray) ?_ (.fn f _ _ hl.1 hl.2)
        have:(caps.toList.map a.eval).toArray=caps.map a.eval:=by apply Array.ext'; simp
        rw [this]
        simp [execOp,ho,Instr.makeFunc]
      · cases hc
    | _=>simp at hc
  case makeMap t r =>
    split at hc
    · rename_i kt e ht
      obtain ⟨sh,hs,hc⟩:=bind_some hc
      split at hc
      · cases hc; cases he
        exact Sim1.val (sim_mkmap hR t sh) (by simp only [execOp,ho]; rfl)
      · rename_i k n _
        cases hc; cases he
        obtain ⟨u,w',G',h1,h2⟩:=sim_mkmap (P:=P) hR t sh
        refine Sim1.val (s:=Instr.makeMap t (some (.int k n))) ⟨u,w',G',?_,h2⟩ (by simp only [execOp,ho]; rfl)
        simp [Instr.makeMap,newObj,Sem.run] at h1
        simp [Instr.makeMap,run_underlying ht,asInt,asIntOf,newObj,Sem.run,h1]
      · cases hc
    · cases hc
  case makeSlice t n c =>
    split at hc
    · rename_i e ht
      obtain ⟨ti,hi,hc⟩:=bind_some hc
      obtain ⟨z,hz,hc⟩:=bind_some hc
      obtain ⟨n',hn,hc⟩:=bind_some hc
      obtain ⟨c',hcc,hc⟩:=bind_some hc
      split at hc
      · rename_i hcond
        cases hc
        simp only [evI] at he
        split at he
        · rename_i kn x kc y e1 e2
          split at he
          · rename_i h
            obtain ⟨rfl,h0,hfit⟩:=h
            cases he
            have v1:=opd_VR hr hn
            have v2:=opd_VR hr hcc
            rw [e1] at v1
            rw [e2] at v2
            have i1:=v1.int_inv
            have i2:=v2.int_inv
            exact Sim1.val (sim_mksl (kn:=kn) (kc:=kc) hR ht hi hz hcond.1 hcond.2.1 hcond.2.2 h0 hfit) (by simp only [execOp,ho,i1,i2])
          · cases he
        · cases he
      · cases hc
    · cases hc
  case range t x =>
    split at hc
    · rename_i kt e ht
      obtain ⟨y,hy,hc⟩:=bind_some hc
      cases hc
      simp only [evI] at he
      split at he
      · rename_i b hp
        split at he
        · rename_i sh ver es hb
          cases he
          have hx:=opd_VR hr hy
          rw [hp] at hx
          exact Sim1.val (sim_range hR ht hb hx) (by simp only [execOp,ho])
        · cases he
      · cases he
    · cases hc
  case next it isS =>
    split at hc
    · cases hc
    · obtain ⟨y,hy,hc⟩:=bind_some hc
      cases hc
      simp [evI] at he
  case entry it =>
    obtain ⟨y,hy,hc⟩:=bind_some hc
    cases hc
    simp only [evI] at he
    split at he
    · rename_i b hp
      split at he
      · rename_i m ver rest k v' hb
        split at he
        · rename_i sh ver' es hm
          split at he
          · rename_i hv
            subst hv
            cases he
            have hx:=opd_VR hr hy
            rw [hp] at hx
            exact Sim1.ps hR (ps_entry hR hb hm hx) (by simp only [execOp,ho])
          · cases he
        · cases he
      · cases he
    · cases he
  case extract x ix =>
    obtain ⟨y,hy,hc⟩:=bind_some hc
    cases hc
    simp only [evI] at he
    split at he
    · rename_i vs hp
      obtain ⟨r,hr',he⟩:=bind_some he
      cases he
      have hx:=opd_VR hr hy
      rw [hp] at hx
      exact Sim1.ps hR (ps_ext hx hr') (by simp only [execOp,ho])
    · cases he
  case makeInterface t x =>
    split at hc
    · cases hc
    · rename_i d hni ht
      obtain ⟨y,hy,hc⟩:=bind_some hc
      cases hc; cases he
      have hx:=opd_VR hr hy
      refine Sim1.here hR (u:=.iface t (a.eval x)) ?_ (.iface t _ _ hx)
      cases d <;> first | (exact absurd rfl (hni _)) | simp [execOp,ho,Instr.makeInterface,run_und ht]
    · cases hc
  case panic x =>
    obtain ⟨y,hy,hc⟩:=bind_some hc
    cases hc
    simp [evI] at he
  case call c =>
    obtain ⟨as1,has,hc⟩:=bind_some hc
    have hl:=opds_LR hr has
    have hargs:c.args.map a.eval=(c.args.toList.map a.eval).toArray:=by apply Array.ext'; simp
    cases hcal:c.callee <;> simp only [hcal] at hc
    case value x =>
      cases x <;> simp only at hc
      case func f=>cases hc; simp [evI] at he
      all_goals
        obtain ⟨y,hy,hc⟩:=bind_some hc
        cases hc
        simp [evI] at he
    case invoke=>cases hc
    case builtin bi =>
      have hex:∀ (s:Sem Value),(∀ cs,builtin bi c.argTypes o.type cs (c.args.map a.eval)=do pure (.value (← s)))→(execOp a.eval o).run P w=(do pure (.value (← s)):Sem Next).run P w:=by
        intro s hs
        simp only [execOp,ho,resolve,hcal,Sem.run_bind,Sem.run_pure,Result.andThen_ok,invoke,hs]
      cases bi <;> simp only at hc
      case len =>
        split at hc
        · rename_i t x hat
          have hat':c.argTypes=#[t]:=by apply Array.ext'; simpa using hat
          have hargs1:∃ u,c.args.map a.eval=#[u]∧VR G H w (x.ev ρ) u:=by
            have h1:=hl.1
            cases hal:c.args.toList with
            | nil=>rw [hal] at h1; simp at h1
            | cons q l =>
              cases l with
              | nil=>rw [hargs,hal]; exact ⟨_,rfl,hl.2 0 _ _ rfl (by rw [hal]; rfl)⟩
              | cons=>rw [hal] at h1; simp at h1
          obtain ⟨u,hu,hvx⟩:=hargs1
          have fin:PS P G H w (Builtin.len_ #[t] o.type #[u]) v→s'.heap=H→Sim1 P G H w ((execOp a.eval o).run P w) v s'.heap:=by
            intro h e
            rw [e]
            exact Sim1.ps hR h (hex _ (fun _=>by rw [hat',hu]; rfl))
          split at hc
          · rename_i ht
            cases hc
            simp only [evI] at he
            split at he
            · rename_i q _; cases q
            · rename_i q _; cases q
            · rename_i t' _ hp
              cases he
              rw [hp] at hvx
              rw [hvx.str_inv] at fin
              exact fin (ps_len_string ht) rfl
            · cases he
          · rename_i e ht
            cases hc
            simp only [evI] at he
            split at he
            · rename_i full sz es _ hp
              cases he
              rw [hp] at hvx
              obtain ⟨ad,cap,hu2,_⟩:=hvx.slice_shape
              rw [hu2] at fin
              exact fin (ps_len_slice ht) rfl
            · rename_i b off len ver sz _ hp
              cases he
              rw [hp] at hvx
              have hu2:∃ ad cap,u=.slice ad len cap:=by cases hvx with | pure _ _ h=>cases h | sref _ _ _ _ _ ad cap=>exact ⟨ad,cap,rfl⟩
              obtain ⟨ad,cap,hu2⟩:=hu2
              rw [hu2] at fin
              exact fin (ps_len_slice ht) rfl
            · rename_i q _; cases q
            · cases he
          · rename_i kt e ht
            cases hc
            simp only [evI] at he
            obtain ⟨es,hes,he⟩:=bind_some he
            cases he
            exact fin (ps_mlen hR ht hvx hes) rfl
          · rename_i n e ht
            cases hc
            cases he
            exact fin (ps_alen ht) rfl
          · cases hc
        · cases hc
      case append =>
        split at hc
        · rename_i t t2 x y hat
          have hat':c.argTypes=#[t,t2]:=by apply Array.ext'; simpa using hat
          obtain ⟨u1,u2,hu,hv1,hv2⟩:=two hl
          split at hc
          · rename_i e e2 ht ht2
            obtain ⟨ti,hi,hc⟩:=bind_some hc
            split at hc
            · rename_i hcond
              cases hc
              obtain ⟨h0,hb0,hzz⟩:=hcond
              obtain ⟨z,hz,hzs⟩:∃ z,ti.zero=some z∧z.cells.size=ti.size:=by
                cases hz:ti.zero with
                | none=>rw [hz] at hzz; simp at hzz
                | some z=>rw [hz] at hzz; exact ⟨z,rfl,by simpa using hzz⟩
              have hrun:=hex (Builtin.append_ #[t,t2] o.type #[u1,u2]) (fun _=>by rw [hat',hargs,hu]; rfl)
              simp only [evI] at he
              obtain ⟨q,hq,he⟩:=bind_some he
              obtain ⟨n,cs⟩:=q
              have none_ : n=0→∀ {bs:Option Addr} {ln cp:Nat},u1=.slice bs ln cp→ln≤cp→∀ {vv:AV},VR G H w vv u1→Sim1 P G H w ((execOp a.eval o).run P w) vv H:=by
                intro hn0 bs ln cp hu1 hle vv hvr
                subst hn0
                have hfc : ∃ ad cap,u2=.slice ad 0 cap∧(Builtin.firstCells ti.size 0 (.slice ad 0 cap)).run P w=.ok #[] w:=by
                  have sh:∃ ad cap,u2=.slice ad 0 cap:=by
                    cases hyy:y.ev ρ <;> rw [hyy] at hq hv2 <;> simp only [rowOf] at hq <;> try (cases hq; done)
                    · split at hq
                      · simp only [Option.some.injEq,Prod.mk.injEq] at hq
                        obtain ⟨ad,cap,h,_⟩:=hv2.slice_shape
                        rw [hq.1] at h
                        exact ⟨ad,cap,h⟩
                      · cases hq
                    · split at hq
                      · obtain ⟨rr,_,hq⟩:=bind_some hq
                        simp only [Option.some.injEq,Prod.mk.injEq] at hq
                        obtain ⟨ad,cap,h⟩:=hv2.sref_shape
                        rw [hq.1] at h
                        exact ⟨ad,cap,h⟩
                      · cases hq
                  obtain ⟨ad,cap,h⟩:=sh
                  refine ⟨ad,cap,h,?_⟩
                  cases ad with
                  | none=>exact run_firstCells_none w _ _ _ _
                  | some b=>exact run_firstCells_some w _ _ b _ _ [] (by simp) (fun j v hj=>by simp at hj)
                obtain ⟨ad,cap,hu2,hf⟩:=hfc
                have hrn:=run_append_none (w:=w) (ty:=o.type) ht ht2 hi hle hf (base:=bs)
                rw [← hu1,← hu2] at hrn
                exact Sim1.ps hR ⟨u1,hrn,hvr⟩ hrun
              split at he
              · rename_i full sz es hp
                rw [hp] at hv1
                split at he
                · rename_i hn0
                  cases he
                  obtain ⟨ad,cap,hsh,hle⟩:=hv1.slice_shape
                  exact none_ hn0 hsh hle hv1
                · rename_i hn0
                  split at he
                  · rename_i hcond
                    obtain ⟨hfull,hsz,hfit,hl1,hl2,ho1,ho2⟩:=hcond
                    subst hfull
                    cases he
                    exact Sim1.val (sim_app_slice hR ht ht2 hi hz hzs h0 hb0 hv1 hv2 hq hn0 hsz hfit hl1 hl2 ho1 ho2) hrun
                  · cases he
              · rename_i b off len ver sz hp
                rw [hp] at hv1
                obtain ⟨row',hrow,he⟩:=bind_some he
                by_cases hn0:n=0
                · simp only [hn0,if_true] at he
                  cases he
                  obtain ⟨hbH,hver⟩:=row_some hrow
                  cases hv1 with
                  | pure _ _ h=>cases h
                  | sref _ _ _ _ _ ad cap hbl hvv hSR =>
                    have hle:len≤cap:=by
                      rcases hSR row' hbH hver with ⟨_,_,_,h,_,_⟩ | ⟨_,_,_,_,h,_⟩
                      · omega
                      · exact h
                    exact none_ hn0 rfl hle (.sref _ _ _ _ _ ad cap hbl hvv hSR)
                · simp only [if_neg hn0] at he
                  have he2:=he
                  clear he
                  split at he2
                  · rename_i hcond
                    obtain ⟨hoff,hsz,hfit,hl2,ho2,hle⟩:=hcond
                    subst hoff
                    subst hsz
                    cases he2
                    exact Sim1.val (sim_app_sref hR ht ht2 hi hz hzs h0 hb0 hv1 hrow hv2 hq hn0 hfit hl2 ho2 hle) hrun
                  · cases he2
              · cases he
            · cases hc
          · cases hc
        · cases hc
      case copy =>
        split at hc
        · rename_i t t2 x y hat
          have hat':c.argTypes=#[t,t2]:=by apply Array.ext'; simpa using hat
          obtain ⟨u1,u2,hu,hv1,hv2⟩:=two hl
          split at hc
          · rename_i e e2 ht ht2
            obtain ⟨n,hn,hc⟩:=bind_some hc
            split at hc
            · rename_i h0
              cases hc
              have hrun:=hex (Builtin.copy_ #[t,t2] o.type #[u1,u2]) (fun _=>by rw [hat',hargs,hu]; rfl)
              simp only [evI] at he
              obtain ⟨q,hq,he⟩:=bind_some he
              obtain ⟨m,cs⟩:=q
              split at he
              · rename_i b off len ver sz hp
                rw [hp] at hv1
                obtain ⟨row',hrow,he⟩:=bind_some he
                split at he
                · rename_i hcond
                  obtain ⟨hsz,hl2,hml,ho2,hle⟩:=hcond
                  subst hsz
                  cases he
                  exact Sim1.val (sim_copy hR ht hn hv1 hrow hv2 hq hl2 ho2 hle) hrun
                · cases he
              · cases he
            · cases hc
          · cases hc
        · cases hc
      case max =>
        split at hc
        · rename_i x ys
          cases hc
          obtain ⟨u,us,hu,h1,h2⟩:=one_more hl
          simp only [evI] at he
          obtain ⟨r,hr',he⟩:=bind_some he
          cases he
          exact Sim1.ps hR (ps_max (ts:=c.argTypes) (ty:=o.type) h1 h2 hr') (hex _ (fun _=>by rw [hargs,hu]; rfl))
        · cases hc
      case min =>
        split at hc
        · rename_i x ys
          cases hc
          obtain ⟨u,us,hu,h1,h2⟩:=one_more hl
          simp only [evI] at he
          obtain ⟨r,hr',he⟩:=bind_some he
          cases he
          exact Sim1.ps hR (ps_min (ts:=c.argTypes) (ty:=o.type) h1 h2 hr') (hex _ (fun _=>by rw [hargs,hu]; rfl))
        · cases hc
      all_goals (cases hc)
  all_goals (cases hc)
end
end Go.Ai
end
