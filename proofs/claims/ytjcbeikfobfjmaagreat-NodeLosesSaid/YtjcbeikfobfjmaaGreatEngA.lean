/- The abstract machine: values, heap, operations, code. The abstract machine: one operation, a region, code, a call. How the abstract machine's values and heap stand to the model's. Runs of the model's small pieces: cells loaded and stored, blocks. Operations of the loaded program, compiled. Operations that only compute or read: what the model's run of them gives. More operations that only compute or read: numbers, addresses, slices. Addresses, fields, indexes, lengths, loads. -/
import Derived.WalkKit
set_option linter.unnecessarySimpa false
set_option linter.unusedVariables false
set_option linter.unusedSimpArgs false
set_option linter.unusedSectionVars false
namespace Camp
open Go
section
inductive CV where
 | bool (b:Bool)
 | int (k:IntKind) (n:Int)
 | str (s:ByteArray)
 | nilp
 | ptr (id tok i j:Nat)
 | nils
 | sl (id tok off len:Nat) (cap:Option Nat)
 | nilm
 | map (id:Nat)
 | nilf
 | fn (f:Nat) (cap:List CV)
 | nili
 | iface (t:Nat) (ag:Bool) (cs:List CV)
 | it (id:Nat)
 deriving Inhabited
inductive AV where
 | c (x:CV)
 | agg (cs:List CV)
 | tup (vs:List AV)
 deriving Inhabited
inductive TV where
 | v (x:AV)
 | lp (k j:Nat)
 | lsl (k n:Nat)
 | un
 | u
 deriving Inhabited
structure ME where
 key:AV
 val:AV
 born:Nat
 deriving Inhabited
inductive AO where
 | dead
 | rows (wr:Bool) (sz cur lw:Nat) (rs:List (List CV))
 | map (wr:Bool) (es:List ME) (clock:Nat)
 | siter (s:ByteArray) (pos:Nat)
 | miter (m:Option Nat) (since:Nat) (seen:List Nat) (last:Nat)
 | grow (sz:Nat) (vs:List (Option (List (List CV))))
 deriving Inhabited
structure Hp where
 obs:List AO
 cnt:Nat:=0
 deriving Inhabited
inductive NX where
 | t (i:Nat)
 | c (x:AV)
 deriving Inhabited
def AV.cells:AV→List CV
 | .c x=>[x]
 | .agg cs=>cs
 | .tup _=>[]
def gt (tm:List TV) (i:Nat):TV:=(tm[i]?).getD .u
def NX.ev (tm:List TV):NX→TV
 | .t i=>gt tm i
 | .c x=>.v x
inductive EK where
 | int|bool|str
 deriving DecidableEq
inductive TK where
 | num|str|bool|ptr|sl|map|oth
 | st (l:List EK)
 deriving DecidableEq,Inhabited
inductive KT where
 | int (k:IntKind)
 | str
 | bool
 | arr (n:Nat) (k:IntKind)
 deriving Inhabited
inductive NC where
 | toInt (k:IntKind)
 | same
 | bytesToStr
 | strToBytes
 | strToRunes
 | intToStr
 | runesToStr
 deriving Inhabited
inductive NO where
 | mov (x:NX)
 | pick (c a b:NX)
 | box (loc:Bool) (sz:Nat) (x:NX)
 | build (zero:List CV) (parts:List (Nat × Nat × NX))
 | bslice (loc:Bool) (sz n:Nat) (zero:List CV) (parts:List (Nat × Nat × NX))
 | load (sz:Option Nat) (a:NX)
 | store (sz:Nat) (a x:NX)
 | nilck (x:NX)
 | bin (op:BinOp) (ty:TK) (x y:NX)
 | un (op:UnOp) (x:NX)
 | conv (c:NC) (x:NX)
 | mkfn (f:Nat) (cap:List NX)
 | mkmap
 | mkslice (sz bytes:Nat) (zero:List CV) (len cap:NX)
 | slice (sz:Nat) (x:NX) (lo hi mx:Option NX)
 | faddr (off:Nat) (x:NX)
 | field (off:Nat) (sz:Option Nat) (x:NX)
 | iaddr (sz:Nat) (x i:NX)
 | iaddrA (len sz:Nat) (x i:NX)
 | index (len sz:Nat) (ag:Bool) (x i:NX)
 | indexS (x i:NX)
 | look (kt:KT) (zero:AV) (ok:Bool) (m k:NX)
 | mupd (kt:KT) (m k x:NX)
 | ment (kt:KT) (zero:AV) (m k:NX)
 | mest (m s x:NX)
 | mdel (kt:KT) (m k:NX)
 | range (ty:TK) (x:NX)
 | next (str:Bool) (x:NX)
 | ext (x:NX) (i:Nat)
 | entry (x:NX)
 | call (f:Nat) (args:List NX)
 | dyn (f:NX) (args:List NX)
 | app (sz bytes:Nat) (s x:NX)
 | copy (sz:Nat) (d s:NX)
 | clear (sz:Nat) (zero:List CV) (x:NX)
 | len (ty:TK) (x:NX)
 | cap (x:NX)
 | min (xs:List NX)
 | max (xs:List NX)
 | mkif (t:Nat) (x:NX)
 | assert (t:Nat) (zero:AV) (x:NX)
 | inv (tb:List (Nat × Nat)) (x:NX) (args:List NX)
 | isnil (neg:Bool) (x:NX)
 deriving Inhabited
structure NR where
 dst:Option Nat
 op:NO
 guard:Option (Nat × Bool)
 deriving Inhabited
structure DI where
 i:Nat
 al:Option Nat
 r:NR
 chk:List (Nat × NR)
 deriving Inhabited
inductive Code where
 | skip
 | kill (live:List Nat) (nlc:Nat)
 | region (ops:List NR)
 | draw (nal:Nat) (ord:List DI)
 | seq (a b:Code)
 | cond (c:NX) (a b:Code)
 | block (id:Nat) (b:Code)
 | loop (b:Code)
 | exit (id:Nat)
 | ret
 | prim (F:List AV→Option AV) (n:Nat)
 | fin (b:Code) (ops:List NR)
 deriving Inhabited
structure NF where
 ntmps:Nat
 results:List Nat
 body:Code
 deriving Inhabited
abbrev mV (d s:Nat):NR:=⟨some d,.mov (.t s),none⟩
abbrev mG (d s g:Nat) (b:Bool):NR:=⟨some d,.mov (.t s),some (g,b)⟩
abbrev oP (d:Nat) (o:NO):NR:=⟨some d,o,none⟩
abbrev oG (d:Nat) (o:NO) (g:Nat) (b:Bool):NR:=⟨some d,o,some (g,b)⟩
abbrev oW (o:NO):NR:=⟨none,o,none⟩
abbrev lD (a:Nat):NO:=.load none (.t a)
abbrev iA (n a b:Nat):NO:=.iaddr n (.t a) (.t b)
abbrev cI (n:Int):NX:=.c (.c (.int .i64 n))
abbrev cB (b:Bool):NX:=.c (.c (.bool b))
abbrev kL (l:List Nat) (n:Nat) (c:Code):Code:=.seq (.kill l n) c
structure St where
 tm:List TV
 lc:List (List CV)
 hp:Hp
 deriving Inhabited
inductive Ex where
 | normal
 | exit (id:Nat)
 | ret
def row? (h:Hp) (id tok i:Nat):Option (List CV):=
 match h.obs[id]? with
 | some (.rows _ _ _ lw rs)=>if lw≤tok then rs[i]? else none
 | some (.grow _ vs)=>match vs[tok]? with
  | some (some rs)=>rs[i]?
  | _=>none
 | _=>none
def takeCells (sz:Option Nat) (r:List CV) (j:Nat):Option AV:=
 match sz with
 | none=>(r[j]?).map .c
 | some n=>if j+n≤r.length then some (.agg ((r.drop j).take n)) else none
def splice (r:List CV) (j:Nat) (cs:List CV):List CV:=r.take j++cs++r.drop (j+cs.length)
def Hp.push (h:Hp) (o:AO):Hp:={ h with obs:=h.obs++[o] }
def Hp.put (h:Hp) (id:Nat) (o:AO):Hp:={ h with obs:=h.obs.set id o }
def chunks (sz:Nat):Nat→List CV→List (List CV)
 | 0,_=>[]
 | n+1,l=>l.take sz::chunks sz n (l.drop sz)
def bytesRows (s:ByteArray):List (List CV):=s.data.toList.map fun b=>[.int .u8 b.toNat]
def sliceRows (h:Hp) (lc:List (List CV)) (sz:Nat):TV→Option (List (List CV))
 | .v (.c .nils)=>some []
 | .v (.c (.sl id tok off len _))=>
  match h.obs[id]? with
  | some (.rows _ sz' _ lw rs)=>if sz'=sz∧lw≤tok then some ((rs.drop off).take len) else none
  | some (.grow sz' vs)=>match vs[tok]? with
   | some (some rs)=>if sz'=sz∧off+len≤rs.length then some ((rs.drop off).take len) else none
   | _=>none
  | _=>none
 | .v (.c (.str s))=>if sz=1 then some (bytesRows s) else none
 | .lsl k n=>(lc[k]?).bind fun c=>if c.length=n * sz then some (chunks sz n c) else none
 | _=>none
def spliceRows (rs:List (List CV)) (at_:Nat) (xs:List (List CV)):List (List CV):=rs.take at_++xs++rs.drop (at_+xs.length)
def room:Nat:=140737488355328
def growVs (vs:List (Option (List (List CV)))) (e:Nat) (new:List (List CV)):List (Option (List (List CV))):=vs.map (Option.map (List.take e))++[some new]
def oneV (cur tok:Nat) (rs:List (List CV)):List (Option (List (List CV))):=(List.replicate (cur+1) none).set tok (some rs)
def appRows (h:Hp) (sz bytes:Nat) (s:CV) (xs:List (List CV)):Option (CV × Hp):=
 match s with
 | .nils=>
  match xs with
  | []=>some (.nils,h)
  | _::_=>if xs.length * bytes≤room then some (.sl h.obs.length 0 0 xs.length none,h.push (.rows true sz 0 0 xs)) else none
 | .sl id tok off len cap=>
  match xs with
  | []=>some (s,h)
  | _::_=>
   match h.obs[id]? with
   | some (.rows wr sz' cur lw rs)=>
    if sz'=sz∧lw≤tok∧(len+xs.length) * bytes≤room then
     match cap with
     | some q=>
      if len+xs.length≤q then
       if wr=true∧tok=cur then some (.sl id tok off (len+xs.length) (some q),h.put id (.rows true sz cur cur (spliceRows rs (off+len) xs))) else none
      else some (.sl h.obs.length 0 0 (len+xs.length) none,h.push (.rows true sz 0 0 ((rs.drop off).take len++xs)))
     | none=>
      if wr=true then
       if tok<cur∧off=0∧len<rs.length then
        some (.sl id (cur+1) 0 (len+xs.length) none,h.put id (.grow sz (growVs (oneV cur tok (rs.take len)) len (rs.take len++xs))))
       else if tok=cur∧off+len+xs.length≤rs.length then
        some (.sl id tok off (len+xs.length) none,h.put id (.rows true sz cur cur (spliceRows rs (off+len) xs)))
       else
       some (.sl id (cur+1) off (len+xs.length) none,h.put id (.rows true sz (cur+1) (if off+len=rs.length then lw else cur+1) (rs.take (off+len)++xs)))
      else none
    else none
   | some (.grow sz' vs)=>
    if sz'=sz∧cap=none∧off=0∧(len+xs.length) * bytes≤room then
     match vs[tok]? with
     | some (some rs)=>if len≤rs.length then some (.sl id vs.length 0 (len+xs.length) none,h.put id (.grow sz (growVs vs len (rs.take len++xs)))) else none
     | _=>none
    else none
   | _=>none
 | _=>none
def fillCells (cells:List CV):List (Nat × Nat × AV)→Option (List CV)
 | []=>some cells
 | (off,sz,x)::r=>if x.cells.length=sz∧off+sz≤cells.length then fillCells (splice cells off x.cells) r else none
def asV:TV→Option AV
 | .v (.c x)=>some (.c x)
 | .v (.agg cs)=>some (.agg cs)
 | _=>none
def asC:TV→Option CV
 | .v (.c x)=>some x
 | _=>none
def asI:TV→Option (IntKind × Int)
 | .v (.c (.int k n))=>some (k,n)
 | _=>none
def evL (tm:List TV):List NX→Option (List AV)
 | []=>some []
 | x::r=>(asV (x.ev tm)).bind fun a=>(evL tm r).bind fun l=>some (a::l)
def evC (tm:List TV):List NX→Option (List CV)
 | []=>some []
 | x::r=>(asC (x.ev tm)).bind fun a=>(evC tm r).bind fun l=>some (a::l)
def evP (tm:List TV):List (Nat × Nat × NX)→Option (List (Nat × Nat × AV))
 | []=>some []
 | (o,s,x)::r=>(asV (x.ev tm)).bind fun a=>(evP tm r).bind fun l=>some ((o,s,a)::l)
def intBin (op:BinOp) (k:IntKind) (x y:Int):Option CV:=
 match op with
 | .add=>some (.int k (k.wrap (x+y)))
 | .sub=>some (.int k (k.wrap (x-y)))
 | .mul=>some (.int k (k.wrap (x * y)))
 | .quo=>if y=0 then none else some (.int k (k.wrap (x.tdiv y)))
 | .rem=>if y=0 then none else some (.int k (x.tmod y))
 | .and=>some (.int k (k.wrap (BitVec.ofInt k.bits x &&& BitVec.ofInt k.bits y).toNat))
 | .or=>some (.int k (k.wrap (BitVec.ofInt k.bits x ||| BitVec.ofInt k.bits y).toNat))
 | .xor=>some (.int k (k.wrap (BitVec.ofInt k.bits x ^^^ BitVec.ofInt k.bits y).toNat))
 | .andNot=>some (.int k (k.wrap (BitVec.ofInt k.bits x &&& ~~~ BitVec.ofInt k.bits y).toNat))
 | .eql=>some (.bool (x == y))
 | .neq=>some (.bool (x != y))
 | .lss=>some (.bool (x<y))
 | .leq=>some (.bool (x≤y))
 | .gtr=>some (.bool (x > y))
 | .geq=>some (.bool (x ≥ y))
 | _=>none
def shiftBin (op:BinOp) (k:IntKind) (x y:Int):Option CV:=
 if y<0 then none else
 match op with
 | .shl=>some (.int k (k.wrap (x * 2 ^ (min y.toNat k.bits))))
 | .shr=>some (.int k (x.fdiv (2 ^ (min y.toNat k.bits))))
 | _=>none
def strBin (op:BinOp) (x y:ByteArray):Option CV:=
 match op with
 | .add=>if x.size+y.size≤room then some (.str (x++y)) else none
 | .eql=>some (.bool (x.toList == y.toList))
 | .neq=>some (.bool !(x.toList == y.toList))
 | .lss=>some (.bool (Op.bytesLess x.toList y.toList))
 | .leq=>some (.bool (Op.bytesLess x.toList y.toList || x.toList == y.toList))
 | .gtr=>some (.bool !(Op.bytesLess x.toList y.toList || x.toList == y.toList))
 | .geq=>some (.bool !Op.bytesLess x.toList y.toList)
 | _=>none
def isEq (op:BinOp) (b:Bool):Option CV:=
 match op with
 | .eql=>some (.bool b)
 | .neq=>some (.bool !b)
 | _=>none
def binC (op:BinOp) (ty:TK) (x y:CV):Option CV:=
 match x,y with
 | .int k a,.int k' b=>if op = .shl∨op = .shr then shiftBin op k a b else if k=k' then intBin op k a b else none
 | .str a,.str b=>strBin op a b
 | .bool a,.bool b=>if ty = .bool then isEq op (a == b) else none
 | .nilp,.nilp=>if ty = .ptr then isEq op true else none
 | .nilp,.ptr ..=>if ty = .ptr then isEq op false else none
 | .ptr ..,.nilp=>if ty = .ptr then isEq op false else none
 | .nils,.nils=>if ty = .sl then isEq op true else none
 | .nils,.sl ..=>if ty = .sl then isEq op false else none
 | .sl ..,.nils=>if ty = .sl then isEq op false else none
 | .nilm,.nilm=>if ty = .map then isEq op true else none
 | .nilm,.map _=>if ty = .map then isEq op false else none
 | .map _,.nilm=>if ty = .map then isEq op false else none
 | _,_=>none
def eqCell:EK→CV→CV→Option Bool
 | .int,.int k a,.int k' b=>if k=k' then some (a == b) else none
 | .bool,.bool a,.bool b=>some (a == b)
 | .str,.str a,.str b=>some (a == b)
 | _,_,_=>none
def eqCells:List EK→List CV→List CV→Option Bool
 | [],[],[]=>some true
 | e::es,x::xs,y::ys=>(eqCell e x y).bind fun r=>if r then eqCells es xs ys else some false
 | _,_,_=>none
def stEq:TK→List CV→List CV→Option Bool
 | .st l,a,b=>eqCells l a b
 | _,_,_=>none
def binV (op:BinOp) (ty:TK):AV→AV→Option CV
 | .c a,.c b=>binC op ty a b
 | .agg a,.agg b=>(stEq ty a b).bind (isEq op)
 | _,_=>none
def unC (op:UnOp) (x:CV):Option CV:=
 match op,x with
 | .neg,.int k n=>some (.int k (k.wrap (0-n)))
 | .xor,.int k n=>some (.int k (k.wrap (BitVec.ofInt k.bits (if k.signed then -1 else k.max) ^^^ BitVec.ofInt k.bits n).toNat))
 | .not,.bool b=>some (.bool !b)
 | _,_=>none
def minC:CV→CV→Option CV
 | .int k x,.int k' y=>if k=k' then some (.int k (if y<x then y else x)) else none
 | _,_=>none
def maxC:CV→CV→Option CV
 | .int k x,.int k' y=>if k=k' then some (.int k (if y > x then y else x)) else none
 | _,_=>none
def foldC (f:CV→CV→Option CV):CV→List CV→Option CV
 | a,[]=>some a
 | a,b::r=>(f a b).bind fun x=>foldC f x r
def keqC:CV→CV→Option Bool
 | .int k a,.int k' b=>if k=k' then some (a == b) else none
 | .str a,.str b=>some (a == b)
 | .bool a,.bool b=>some (a == b)
 | _,_=>none
def keqL:List CV→List CV→Option Bool
 | [],[]=>some true
 | a::x,b::y=>(keqC a b).bind fun r=>if r then keqL x y else some false
 | _,_=>none
def keq:AV→AV→Option Bool
 | .c a,.c b=>keqC a b
 | .agg a,.agg b=>keqL a b
 | _,_=>none
def findKey (k:AV):List ME→Nat→Option (Option (Nat × AV))
 | [],_=>some none
 | e::es,i=>
  match keq k e.key with
  | some true=>some (some (i,e.val))
  | some false=>findKey k es (i+1)
  | none=>none
def isInt (k:IntKind):CV→Bool
 | .int k' _=>k' == k
 | _=>false
def okKey:KT→AV→Bool
 | .int k,.c (.int k' _)=>k' == k
 | .str,.c (.str _)=>true
 | .bool,.c (.bool _)=>true
 | .arr n k,.agg cs=>cs.length == n && cs.all (isInt k)
 | _,_=>false
def runesOf (s:ByteArray):(bound i:Nat)→List (List CV)
 | 0,_=>[]
 | b+1,i=>if i<s.size then [.int .i32 (Int.ofNat (Utf8.decode s i).1)]::runesOf s b (i+(Utf8.decode s i).2) else []
def rowsBytes:List (List CV)→Option (List UInt8)
 | []=>some []
 | [.int .u8 n]::r=>(rowsBytes r).bind fun l=>some (UInt8.ofNat n.toNat::l)
 | _=>none
def rowsRunes:List (List CV)→Option ByteArray
 | []=>some ByteArray.empty
 | [.int .i32 n]::r=>(rowsRunes r).bind fun l=>some (Utf8.encode n++l)
 | _=>none
end
section
structure Res where
 v:TV
 lc:List (List CV)
 hp:Hp
def ptrTo (id:Nat):TV:=.v (.c (.ptr id 0 0 0))
def boxTo (loc:Bool) (lc:List (List CV)) (hp:Hp) (sz:Nat) (cs:List CV):Res:=
 if loc then ⟨.lp lc.length 0,lc++[cs],hp⟩ else ⟨ptrTo hp.obs.length,lc,hp.push (.rows true sz 0 0 [cs])⟩
def loadAt (s:St) (sz:Option Nat):TV→Option AV
 | .v (.c (.ptr id tok i j))=>(row? s.hp id tok i).bind fun r=>takeCells sz r j
 | .lp k j=>(s.lc[k]?).bind fun r=>takeCells sz r j
 | _=>none
def storeAt (s:St) (sz:Nat) (a:TV) (cs:List CV):Option Res:=
 if cs.length=sz then
  match a with
  | .v (.c (.ptr id tok i j))=>
   match s.hp.obs[id]? with
   | some (.rows wr s1 cur _ rs)=>
    if wr=true∧tok=cur then
     match rs[i]? with
     | some row=>if j+sz≤row.length then some ⟨.un,s.lc,s.hp.put id (.rows true s1 cur cur (rs.set i (splice row j cs)))⟩ else none
     | none=>none
    else none
   | _=>none
  | .lp k j=>
   match s.lc[k]? with
   | some row=>if j+sz≤row.length then some ⟨.un,s.lc.set k (splice row j cs),s.hp⟩ else none
   | none=>none
  | _=>none
 else none
def optI (tm:List TV):Option NX→Option (Option Int)
 | none=>some none
 | some x=>(asI (x.ev tm)).map fun p=>some p.2
def sliceB (len:Nat) (cap:Option Nat) (lo hi mx:Option Int):Option (Nat × Nat × Option Nat):=
 if (mx.isSome→hi.isSome)∧0≤mx.getD (cap.getD len:Nat)∧mx.getD (cap.getD len:Nat)≤(cap.getD len:Nat)∧0≤hi.getD len∧hi.getD len≤mx.getD (cap.getD len:Nat)∧0≤lo.getD 0∧lo.getD 0≤hi.getD len then
  some ((lo.getD 0).toNat,(hi.getD len).toNat,match mx with|some m=>some (m.toNat-(lo.getD 0).toNat)|none=>cap.map (· - (lo.getD 0).toNat))
 else none
def sliceM (len:Nat) (cap:Option Nat) (lo hi mx:Option Int) (n:Nat):Option (Nat × Nat × Option Nat):=
 if cap=none∧mx=none∧0≤lo.getD 0∧lo.getD 0≤hi.getD len∧hi.getD len≤(n:Nat) then some ((lo.getD 0).toNat,(hi.getD len).toNat,none) else none
def sliceV (s:St) (sz:Nat) (x:TV) (lo hi mx:Option Int):Option CV:=
 match x with
 | .v (.c .nils)=>if 0<sz∧(mx.isSome→hi.isSome)∧lo.getD 0=0∧hi.getD 0=0∧mx.getD 0=0 then some .nils else none
 | .v (.c (.sl id tok off len cap))=>
  match s.hp.obs[id]? with
  | some (.rows _ sz' cur lw rs)=>
   if 0<sz∧sz'=sz∧lw≤tok then ((sliceB len cap lo hi mx).or (sliceM len cap lo hi mx (if tok=cur then rs.length-off else 0))).map fun r=>.sl id tok (off+r.1) (r.2.1-r.1) r.2.2 else none
  | _=>none
 | .v (.c (.str b))=>
  if sz=0∧mx=none then (sliceB b.size none lo hi none).map fun r=>.str (b.extract r.1 r.2.1) else none
 | _=>none
def iaddrV (s:St) (sz:Nat) (x:TV) (i:Int):Option TV:=
 match x with
 | .v (.c (.sl id tok off len _))=>
  match s.hp.obs[id]? with
  | some (.rows _ sz' _ lw _)=>if sz'=sz∧lw≤tok∧0≤i∧i<len then some (.v (.c (.ptr id tok (off+i.toNat) 0))) else none
  | some (.grow sz' vs)=>match vs[tok]? with
   | some (some _)=>if sz'=sz∧0≤i∧i<len then some (.v (.c (.ptr id tok (off+i.toNat) 0))) else none
   | _=>none
  | _=>none
 | .lsl k n=>if 0≤i∧i<n then some (.lp k (i.toNat * sz)) else none
 | _=>none
def iaddrAV (len sz:Nat) (x:TV) (i:Int):Option TV:=
 if 0≤i∧i<len then
  match x with
  | .v (.c (.ptr id tok r j))=>some (.v (.c (.ptr id tok r (j+i.toNat * sz))))
  | .lp k j=>some (.lp k (j+i.toNat * sz))
  | _=>none
 else none
def mapOf (s:St):CV→Option (List ME)
 | .nilm=>some []
 | .map id=>match s.hp.obs[id]? with
  | some (.map _ es _)=>some es
  | _=>none
 | _=>none
def convV (s:St):NC→TV→Option Res
 | .toInt k,.v (.c (.int _ n))=>some ⟨.v (.c (.int k (k.wrap n))),s.lc,s.hp⟩
 | .same,.v (.c (.str b))=>some ⟨.v (.c (.str b)),s.lc,s.hp⟩
 | .bytesToStr,x=>match x with
  | .v (.c (.str _))=>none
  | _=>(sliceRows s.hp s.lc 1 x).bind fun rs=>(rowsBytes rs).map fun l=>⟨.v (.c (.str ⟨l.toArray⟩)),s.lc,s.hp⟩
 | .runesToStr,x=>match x with
  | .v (.c (.str _))=>none
  | _=>(sliceRows s.hp s.lc 1 x).bind fun rs=>(rowsRunes rs).map fun l=>⟨.v (.c (.str l)),s.lc,s.hp⟩
 | .strToBytes,.v (.c (.str b))=>some ⟨.v (.c (.sl s.hp.obs.length 0 0 b.size none)),s.lc,s.hp.push (.rows true 1 0 0 (bytesRows b))⟩
 | .strToRunes,.v (.c (.str b))=>some ⟨.v (.c (.sl s.hp.obs.length 0 0 (runesOf b b.size 0).length none)),s.lc,s.hp.push (.rows true 1 0 0 (runesOf b b.size 0))⟩
 | .intToStr,.v (.c (.int _ n))=>some ⟨.v (.c (.str (Utf8.encode n))),s.lc,s.hp⟩
 | _,_=>none
def candOf (es:List ME) (since:Nat) (seen:List Nat):List (Option ME):=
 let left:=es.filter fun e=>!seen.contains e.born
 let old:=left.filter fun e=>decide (e.born<since)
 let new:=left.filter fun e=>decide (e.born ≥ since)
 (if old.isEmpty then [none] else [])++(old++new).map some
def nextM (o:Nat→Nat) (s:St) (id m since:Nat) (seen:List Nat) (last:Nat):Option Res:=
 match s.hp.obs[m]? with
 | some (.map _ es clock)=>
  if seen≠[]∧es≠[]∧es.all (fun e=>decide (e.born ≥ last)) then none else
  match (candOf es since seen)[if (candOf es since seen).length≤1 then 0 else o s.hp.cnt % (candOf es since seen).length]? with
  | some (some e)=>some ⟨.v (.tup [.c (.bool true),e.key,e.val]),s.lc,s.hp.put id (.miter (some m) since (seen++[e.born]) clock)⟩
  | some none=>some ⟨.v (.tup [.c (.bool false)]),s.lc,s.hp⟩
  | none=>none
 | _=>none
def nextV (o:Nat→Nat) (s:St) (str:Bool) (x:TV):Option Res:=
 match x with
 | .v (.c (.it id))=>
  match s.hp.obs[id]?,str with
  | some (.siter b pos),true=>
   if pos<b.size then
    some ⟨.v (.tup [.c (.bool true),.c (.int .i64 pos),.c (.int .i32 (Int.ofNat (Utf8.decode b pos).1))]),s.lc,s.hp.put id (.siter b (pos+(Utf8.decode b pos).2))⟩
   else some ⟨.v (.tup [.c (.bool false)]),s.lc,s.hp⟩
  | some (.miter none _ _ _),false=>some ⟨.v (.tup [.c (.bool false)]),s.lc,s.hp⟩
  | some (.miter (some m) since seen last),false=>nextM o s id m since seen last
  | _,_=>none
 | _=>none
def entryV (s:St) (x:TV):Option TV:=
 match x with
 | .v (.c (.it id))=>
  match s.hp.obs[id]? with
  | some (.miter (some m) _ seen last)=>
   match seen.getLast? with
   | some stamp=>match s.hp.obs[m]? with
    | some (.map _ es clock)=>if clock=last then (es.find? fun e=>e.born == stamp).map fun e=>.v (.tup [e.key,e.val]) else none
    | _=>none
   | none=>none
  | _=>none
 | _=>none
def extV (x:TV) (i:Nat):Option TV:=
 match x with
 | .v (.tup vs)=>(vs[i]?).map .v
 | _=>none
def lenV (s:St) (ty:TK) (x:TV):Option Int:=
 match x with
 | .v (.c .nils)=>if ty = .sl then some 0 else none
 | .v (.c (.sl _ _ _ len _))=>if ty = .sl then some len else none
 | .v (.c (.str b))=>if ty = .str then some b.size else none
 | .lsl _ n=>if ty = .sl then some n else none
 | .v (.c .nilm)=>if ty = .map then some 0 else none
 | .v (.c (.map id))=>match s.hp.obs[id]? with
  | some (.map _ es _)=>if ty = .map then some es.length else none
  | _=>none
 | _=>none
def capV (x:TV):Option Int:=
 match x with
 | .v (.c .nils)=>some 0
 | .v (.c (.sl _ _ _ _ (some q)))=>some q
 | .lsl _ n=>some n
 | _=>none
def copyV (s:St) (sz:Nat) (d x:TV):Option Res:=
 match d with
 | .v (.c .nils)=>(sliceRows s.hp s.lc sz x).map fun _=>⟨.v (.c (.int .i64 0)),s.lc,s.hp⟩
 | .v (.c (.sl id tok off len _))=>
  (sliceRows s.hp s.lc sz x).bind fun rs=>
   match s.hp.obs[id]? with
   | some (.rows wr sz' cur _ rows)=>
    if wr=true∧sz'=sz∧tok=cur then
     some ⟨.v (.c (.int .i64 (min rs.length len:Nat))),s.lc,s.hp.put id (.rows true sz cur cur (spliceRows rows off (rs.take len)))⟩
    else none
   | _=>none
 | _=>none
def clearV (s:St) (sz:Nat) (zero:List CV) (x:TV):Option Res:=
 match x with
 | .v (.c .nils)=>some ⟨.v (.tup []),s.lc,s.hp⟩
 | .v (.c (.sl id tok off len _))=>
  if len=0 then some ⟨.v (.tup []),s.lc,s.hp⟩ else
  match s.hp.obs[id]? with
  | some (.rows wr sz' cur _ rows)=>
   if wr=true∧sz'=sz∧tok=cur then
    some ⟨.v (.tup []),s.lc,s.hp.put id (.rows true sz cur cur (spliceRows rows off (List.replicate len zero)))⟩
   else none
  | _=>none
 | _=>none
def fieldV (off:Nat) (sz:Option Nat) (x:TV):Option AV:=
 match x with
 | .v (.agg cs)=>takeCells sz cs off
 | _=>none
def ifaceV (t:Nat) (x:TV):Option CV:=
 match x with
 | .v (.c y)=>some (.iface t false [y])
 | .v (.agg cs)=>some (.iface t true cs)
 | _=>none
def unI (ag:Bool) (cs:List CV):Option AV:=
 match ag,cs with
 | true,cs=>some (.agg cs)
 | false,[y]=>some (.c y)
 | false,_=>none
def assertV (t:Nat) (zero:AV) (x:TV):Option AV:=
 match x with
 | .v (.c .nili)=>some (.tup [zero,.c (.bool false)])
 | .v (.c (.iface t' ag cs))=>if t'=t then (unI ag cs).map fun v=>.tup [v,.c (.bool true)] else some (.tup [zero,.c (.bool false)])
 | _=>none
def nilV (neg:Bool) (x:TV):Option CV:=
 match x with
 | .v (.c .nili)=>some (.bool !neg)
 | .v (.c (.iface ..))=>some (.bool neg)
 | _=>none
def tbAt:List (Nat × Nat)→Nat→Option Nat
 | [],_=>none
 | p::l,t=>if t=p.1 then some p.2 else tbAt l t
def methodV (tb:List (Nat × Nat)) (x:TV):Option (Nat × AV):=
 match x with
 | .v (.c (.iface t ag cs))=>(tbAt tb t).bind fun f=>(unI ag cs).map fun v=>(f,v)
 | _=>none
abbrev CallF:=Nat→List AV→Hp→Option (AV × Hp)
def viaCall (call:CallF) (s:St) (f:Nat) (args:List AV):Option Res:=(call f args s.hp).map fun r=>⟨.v r.1,s.lc,r.2⟩
def nop (call:CallF) (o:Nat→Nat) (s:St) (op:NO):Option Res:=
 let pu (v:TV):Res:=⟨v,s.lc,s.hp⟩
 let pc (v:CV):Res:=⟨.v (.c v),s.lc,s.hp⟩
 match op with
 | .mov x=>some (pu (x.ev s.tm))
 | .pick c a b=>match c.ev s.tm with
  | .v (.c (.bool true))=>some (pu (a.ev s.tm))
  | .v (.c (.bool false))=>some (pu (b.ev s.tm))
  | _=>none
 | .box loc sz x=>(asV (x.ev s.tm)).bind fun a=>if a.cells.length=sz then some (boxTo loc s.lc s.hp sz a.cells) else none
 | .build zero ps=>(evP s.tm ps).bind fun l=>(fillCells zero l).map fun cs=>pu (.v (.agg cs))
 | .bslice loc sz n zero ps=>(evP s.tm ps).bind fun l=>(fillCells (List.replicate n zero).flatten l).map fun cs=>
  if loc then ⟨.lsl s.lc.length n,s.lc++[cs],s.hp⟩ else ⟨.v (.c (.sl s.hp.obs.length 0 0 n (some n))),s.lc,s.hp.push (.rows true sz 0 0 (chunks sz n cs))⟩
 | .load sz a=>(loadAt s sz (a.ev s.tm)).map fun v=>pu (.v v)
 | .store sz a x=>(asV (x.ev s.tm)).bind fun v=>storeAt s sz (a.ev s.tm) v.cells
 | .nilck x=>match x.ev s.tm with
  | .v (.c (.ptr id tok i j))=>some (pc (.ptr id tok i j))
  | .v (.c (.fn f cs))=>some (pc (.fn f cs))
  | .lp k j=>some (pu (.lp k j))
  | _=>none
 | .bin op ty x y=>(asV (x.ev s.tm)).bind fun a=>(asV (y.ev s.tm)).bind fun b=>(binV op ty a b).map pc
 | .un op x=>(asC (x.ev s.tm)).bind fun a=>(unC op a).map pc
 | .conv c x=>convV s c (x.ev s.tm)
 | .mkfn f caps=>(evC s.tm caps).map fun l=>pc (.fn f l)
 | .mkmap=>some ⟨.v (.c (.map s.hp.obs.length)),s.lc,s.hp.push (.map true [] 0)⟩
 | .mkslice sz bytes zero len cap=>
  (asI (len.ev s.tm)).bind fun l=>(asI (cap.ev s.tm)).bind fun c=>
   if 0≤l.2∧l.2≤c.2∧c.2 * bytes≤70368744177664∧c.2≤70368744177664 then
    some ⟨.v (.c (.sl s.hp.obs.length 0 0 l.2.toNat (some c.2.toNat))),s.lc,s.hp.push (.rows true sz 0 0 (List.replicate c.2.toNat zero))⟩
   else none
 | .slice sz x lo hi mx=>(optI s.tm lo).bind fun l=>(optI s.tm hi).bind fun h=>(optI s.tm mx).bind fun m=>(sliceV s sz (x.ev s.tm) l h m).map pc
 | .faddr off x=>match x.ev s.tm with
  | .v (.c (.ptr id tok i j))=>some (pc (.ptr id tok i (j+off)))
  | .lp k j=>some (pu (.lp k (j+off)))
  | _=>none
 | .field off sz x=>(fieldV off sz (x.ev s.tm)).map fun v=>pu (.v v)
 | .mkif t x=>(ifaceV t (x.ev s.tm)).map pc
 | .isnil b x=>(nilV b (x.ev s.tm)).map pc
 | .assert t z x=>(assertV t z (x.ev s.tm)).map fun v=>pu (.v v)
 | .iaddr sz x i=>(asI (i.ev s.tm)).bind fun n=>(iaddrV s sz (x.ev s.tm) n.2).map pu
 | .iaddrA len sz x i=>(asI (i.ev s.tm)).bind fun n=>(iaddrAV len sz (x.ev s.tm) n.2).map pu
 | .index len sz ag x i=>(asI (i.ev s.tm)).bind fun n=>
  if 0≤n.2∧n.2<len then (fieldV (n.2.toNat * sz) (if ag then some sz else none) (x.ev s.tm)).map fun v=>pu (.v v) else none
 | .indexS x i=>(asI (i.ev s.tm)).bind fun n=>match x.ev s.tm with
  | .v (.c (.str b))=>if 0≤n.2 then (b.data.toList[n.2.toNat]?).map fun c=>pc (.int .u8 c.toNat) else none
  | _=>none
 | .look kt zero ok m k=>(asC (m.ev s.tm)).bind fun mv=>(asV (k.ev s.tm)).bind fun kv=>(mapOf s mv).bind fun es=>
  if okKey kt kv then (findKey kv es 0).map fun r=>
   let (v,b):=match r with|some (_,v)=>(v,true)|none=>(zero,false)
   pu (.v (if ok then .tup [v,.c (.bool b)] else v))
  else none
 | .mupd kt m k x=>(asC (m.ev s.tm)).bind fun mv=>(asV (k.ev s.tm)).bind fun kv=>(asV (x.ev s.tm)).bind fun xv=>
  match mv with
  | .map id=>match s.hp.obs[id]? with
   | some (.map true es clock)=>
    if okKey kt kv then (findKey kv es 0).map fun
     | some (i,_)=>⟨.un,s.lc,s.hp.put id (.map true (es.modify i fun e=>{ e with key:=kv,val:=xv }) clock)⟩
     | none=>⟨.un,s.lc,s.hp.put id (.map true (es++[⟨kv,xv,clock⟩]) (clock+1))⟩
    else none
   | _=>none
  | _=>none
 | .ment kt zero m k=>(asC (m.ev s.tm)).bind fun mv=>(asV (k.ev s.tm)).bind fun kv=>
  match mv with
  | .map id=>match s.hp.obs[id]? with
   | some (.map true es clock)=>
    if okKey kt kv then (findKey kv es 0).map fun
     | some (i,v)=>⟨.v (.tup [v,.c (.int .i64 (((es[i]?).map (·.born)).getD 0:Nat))]),s.lc,s.hp.put id (.map true (es.modify i fun e=>{ e with key:=kv }) clock)⟩
     | none=>⟨.v (.tup [zero,.c (.int .i64 (clock:Nat))]),s.lc,s.hp.put id (.map true (es++[⟨kv,zero,clock⟩]) (clock+1))⟩
    else none
   | _=>none
  | _=>none
 | .mest m st x=>(asC (m.ev s.tm)).bind fun mv=>(asI (st.ev s.tm)).bind fun n=>(asV (x.ev s.tm)).bind fun xv=>
  match mv with
  | .map id=>match s.hp.obs[id]? with
   | some (.map true es clock)=>
    match es.findIdx? (fun e=>(e.born:Int) == n.2) with
    | some i=>some ⟨.un,s.lc,s.hp.put id (.map true (es.modify i fun e=>{ e with val:=xv }) clock)⟩
    | none=>none
   | _=>none
  | _=>none
 | .mdel kt m k=>(asC (m.ev s.tm)).bind fun mv=>(asV (k.ev s.tm)).bind fun kv=>
  match mv with
  | .nilm=>if okKey kt kv then some (pu (.v (.tup []))) else none
  | .map id=>match s.hp.obs[id]? with
   | some (.map true es clock)=>
    if okKey kt kv then (findKey kv es 0).map fun
     | some (i,_)=>⟨.v (.tup []),s.lc,s.hp.put id (.map true (es.eraseIdx i) clock)⟩
     | none=>⟨.v (.tup []),s.lc,s.hp.put id (.map true es clock)⟩
    else none
   | _=>none
  | _=>none
 | .range ty x=>match x.ev s.tm with
  | .v (.c (.str b))=>if ty≠.str then none else some ⟨.v (.c (.it s.hp.obs.length)),s.lc,s.hp.push (.siter b 0)⟩
  | .v (.c .nilm)=>if ty≠.map then none else some ⟨.v (.c (.it s.hp.obs.length)),s.lc,s.hp.push (.miter none 0 [] 0)⟩
  | .v (.c (.map id))=>match s.hp.obs[id]? with
   | some (.map _ _ clock)=>if ty≠.map then none else some ⟨.v (.c (.it s.hp.obs.length)),s.lc,s.hp.push (.miter (some id) clock [] clock)⟩
   | _=>none
  | _=>none
 | .next str x=>nextV o s str (x.ev s.tm)
 | .ext x i=>(extV (x.ev s.tm) i).map pu
 | .entry x=>(entryV s (x.ev s.tm)).map pu
 | .call f args=>(evL s.tm args).bind fun l=>viaCall call s f l
 | .dyn f args=>(evL s.tm args).bind fun l=>match f.ev s.tm with
  | .v (.c (.fn g caps))=>viaCall call s g (l++caps.map .c)
  | _=>none
 | .inv tb x args=>(evL s.tm args).bind fun l=>match methodV tb (x.ev s.tm) with
  | some (g,v)=>viaCall call s g (v::l)
  | none=>none
 | .app sz bytes a x=>(asC (a.ev s.tm)).bind fun av=>(sliceRows s.hp s.lc sz (x.ev s.tm)).bind fun xs=>
  (appRows s.hp sz bytes av xs).map fun r=>⟨.v (.c r.1),s.lc,r.2⟩
 | .copy sz d x=>copyV s sz (d.ev s.tm) (x.ev s.tm)
 | .clear sz zero x=>clearV s sz zero (x.ev s.tm)
 | .len ty x=>(lenV s ty (x.ev s.tm)).map fun n=>pc (.int .i64 n)
 | .cap x=>(capV (x.ev s.tm)).map fun n=>pc (.int .i64 n)
 | .min xs=>(evC s.tm xs).bind fun
  | []=>none
  | a::r=>(foldC minC a r).map pc
 | .max xs=>(evC s.tm xs).bind fun
  | []=>none
  | a::r=>(foldC maxC a r).map pc
def putT (tm:List TV) (dst:Option Nat) (v:TV):List TV:=
 match dst with
 | some d=>tm.set d v
 | none=>tm
def wanted (tm:List TV):Option (Nat × Bool)→Option Bool
 | none=>some true
 | some (t,b)=>match gt tm t with
  | .v (.c (.bool b'))=>some (b' == b)
  | .un=>some false
  | _=>none
end
end Camp
namespace Camp
open Go Go.RowKit
section
structure Rec where
 blk:Nat
 base:Nat
 lo:Nat
 n:Nat
 sz:Nat
 tot:Nat
structure Gh where
 rows:Nat→Nat→Option Rec
 obj:Nat→Option Nat
structure Env where
 rn:FuncId→Nat
 tn:TypeId→Nat
def Rec.pos (r:Rec) (i j:Nat):Nat:=r.base+(i-r.lo) * r.sz+j
mutual
def RC (E:Env) (G:Gh):CV→Value→Prop
 | .bool b,v=>v = .bool b
 | .int k n,v=>v = .int k n
 | .str s,v=>v = .string s
 | .nilp,v=>v = .pointer none
 | .ptr id tok i j,v=>∃ r,G.rows id tok=some r∧r.lo≤i∧i<r.n∧v = .pointer (some ⟨r.blk,r.pos i j,none⟩)
 | .nils,v=>v = .slice none 0 0
 | .sl id tok off len cap,v=>∃ (r:Rec) (o:Addr) (c:Nat),G.rows id tok=some r∧r.lo≤off∧off+len≤r.n∧v = .slice (some o) len c∧(o=⟨r.blk,r.pos off 0,none⟩∨c=0)∧len≤c∧
  (match cap with|none=>off-r.lo+c=r.tot|some q=>c=q∧off+q≤r.n)
 | .nilm,v=>v = .map none
 | .map id,v=>∃ b,G.obj id=some b∧v = .map (some b)
 | .nilf,v=>v = .nilFunc
 | .fn f cap,v=>∃ g vs,E.rn g=f∧v = .func (.func g) #[] vs∧RL E G cap vs.toList
 | .nili,v=>v = .nilIface
 | .iface t ag cs,v=>∃ t' vs,t'=t∧v = .iface t' (if ag then .agg vs else vs.getD 0 undef)∧(ag=false→vs.size=1)∧RL E G cs vs.toList
 | .it id,v=>∃ b,G.obj id=some b∧v = .pointer (some ⟨b,0,none⟩)
def RL (E:Env) (G:Gh):List CV→List Value→Prop
 | [],vs=>vs=[]
 | x::xs,vs=>∃ v ws,vs=v::ws∧RC E G x v∧RL E G xs ws
end
mutual
def RA (E:Env) (G:Gh):AV→Value→Prop
 | .c x,v=>RC E G x v
 | .agg cs,v=>∃ vs,v = .agg vs∧RL E G cs vs.toList
 | .tup l,v=>∃ vs,v = .tuple vs∧RAL E G l vs.toList
def RAL (E:Env) (G:Gh):List AV→List Value→Prop
 | [],vs=>vs=[]
 | x::xs,vs=>∃ v ws,vs=v::ws∧RA E G x v∧RAL E G xs ws
end
abbrev Mu:=Nat→Option Nat
def RT (E:Env) (G:Gh) (m:Mu):TV→Value→Prop
 | .v x,v=>RA E G x v
 | .lp k j,v=>∃ b,m k=some b∧v = .pointer (some ⟨b,j,none⟩)
 | .lsl k n,v=>∃ b,m k=some b∧v = .slice (some ⟨b,0,none⟩) n n
 | .un,v=>v=undef
 | .u,_=>True
structure Ext (G G':Gh) (hi:Nat):Prop where
 rows:∀ id tok r,G.rows id tok=some r→G'.rows id tok=some r
 obj:∀ id b,G.obj id=some b→G'.obj id=some b
 above:∀ id,hi≤id→G'.rows id=G.rows id∧G'.obj id=G.obj id
theorem Ext.refl (G:Gh) (hi:Nat):Ext G G hi:=⟨fun _ _ _ h=>h,fun _ _ h=>h,fun _ _=>⟨rfl,rfl⟩⟩
theorem Ext.trans {G G' G'':Gh} {a b:Nat} (h:Ext G G' a) (k:Ext G' G'' b) (hab:a≤b):Ext G G'' b:=
 ⟨fun id tok r e=>k.rows id tok r (h.rows id tok r e),fun id b e=>k.obj id b (h.obj id b e),fun id hid=>by
  obtain ⟨h1,h2⟩:=h.above id (Nat.le_trans hab hid)
  obtain ⟨k1,k2⟩:=k.above id hid
  exact ⟨k1.trans h1,k2.trans h2⟩⟩
section
variable {E:Env} {G G':Gh} {hi:Nat}
theorem RC.ext_all (h:Ext G G' hi) (x:CV):∀ v,RC E G x v→RC E G' x v:=by
 refine CV.rec (motive_1:=fun x=>∀ v,RC E G x v→RC E G' x v) (motive_2:=fun l=>∀ v,RL E G l v→RL E G' l v)
  ?_ ?_ ?_ ?_ ?_ ?_ ?_ ?_ ?_ ?_ ?_ ?_ ?_ ?_ ?_ ?_ x
 ·exact fun _ _ r=>by simpa only [RC] using r
 ·exact fun _ _ _ r=>by simpa only [RC] using r
 ·exact fun _ _ r=>by simpa only [RC] using r
 ·exact fun _ r=>by simpa only [RC] using r
 ·intro id tok i j v r
  simp only [RC] at r ⊢
  obtain ⟨r,e,k⟩:=r
  exact ⟨r,h.rows _ _ _ e,k⟩
 ·exact fun _ r=>by simpa only [RC] using r
 ·intro id tok off len cap v r
  simp only [RC] at r ⊢
  obtain ⟨r,o,c,e,k⟩:=r
  exact ⟨r,o,c,h.rows _ _ _ e,k⟩
 ·exact fun _ r=>by simpa only [RC] using r
 ·intro id v r
  simp only [RC] at r ⊢
  obtain ⟨b,e,k⟩:=r
  exact ⟨b,h.obj _ _ e,k⟩
 ·exact fun _ r=>by simpa only [RC] using r
 ·intro f cap ih v r
  simp only [RC] at r ⊢
  obtain ⟨g,vs,e,k,l⟩:=r
  exact ⟨g,vs,e,k,ih _ l⟩
 ·exact fun _ r=>by simpa only [RC] using r
 ·intro t ag cs ih v r
  simp only [RC] at r ⊢
  obtain ⟨t',vs,e,k,q,l⟩:=r
  exact ⟨t',vs,e,k,q,ih _ l⟩
 ·intro id v r
  simp only [RC] at r ⊢
  obtain ⟨b,e,k⟩:=r
  exact ⟨b,h.obj _ _ e,k⟩
 ·exact fun _ r=>by simpa only [RL] using r
 ·intro x xs ih ihs v r
  simp only [RL] at r ⊢
  obtain ⟨v,ws,e,k,l⟩:=r
  exact ⟨v,ws,e,ih _ k,ihs _ l⟩
theorem RC.ext (h:Ext G G' hi) {x:CV} {v:Value} (r:RC E G x v):RC E G' x v:=RC.ext_all h x v r
theorem RL.ext (h:Ext G G' hi):∀ {x:List CV} {v:List Value},RL E G x v→RL E G' x v:=by
 intro x
 induction x with
 | nil=>intro v r;simpa only [RL] using r
 | cons x xs ih=>
  intro v r
  simp only [RL] at r ⊢
  obtain ⟨v,ws,e,k,l⟩:=r
  exact ⟨v,ws,e,RC.ext h k,ih l⟩
theorem RA.ext_all (h:Ext G G' hi) (x:AV):∀ v,RA E G x v→RA E G' x v:=by
 refine AV.rec (motive_1:=fun x=>∀ v,RA E G x v→RA E G' x v) (motive_2:=fun l=>∀ v,RAL E G l v→RAL E G' l v) ?_ ?_ ?_ ?_ ?_ x
 ·intro x v r
  simp only [RA] at r ⊢
  exact RC.ext h r
 ·intro cs v r
  simp only [RA] at r ⊢
  obtain ⟨vs,e,l⟩:=r
  exact ⟨vs,e,RL.ext h l⟩
 ·intro l ih v r
  simp only [RA] at r ⊢
  obtain ⟨vs,e,k⟩:=r
  exact ⟨vs,e,ih _ k⟩
 ·exact fun _ r=>by simpa only [RAL] using r
 ·intro x xs ih ihs v r
  simp only [RAL] at r ⊢
  obtain ⟨v,ws,e,k,l⟩:=r
  exact ⟨v,ws,e,ih _ k,ihs _ l⟩
theorem RA.ext (h:Ext G G' hi) {x:AV} {v:Value} (r:RA E G x v):RA E G' x v:=RA.ext_all h x v r
theorem RAL.ext (h:Ext G G' hi):∀ {x:List AV} {v:List Value},RAL E G x v→RAL E G' x v:=by
 intro x
 induction x with
 | nil=>intro v r;simpa only [RAL] using r
 | cons x xs ih=>
  intro v r
  simp only [RAL] at r ⊢
  obtain ⟨v,ws,e,k,l⟩:=r
  exact ⟨v,ws,e,RA.ext h k,ih l⟩
theorem RT.ext {m m':Mu} (h:Ext G G' hi) (hm:∀ k b,m k=some b→m' k=some b):∀ {x:TV} {v:Value},RT E G m x v→RT E G' m' x v
 | .v x,v,r=>by simp only [RT] at r ⊢;exact RA.ext h r
 | .lp k j,v,r=>by simp only [RT] at r ⊢;obtain ⟨b,e,k'⟩:=r;exact ⟨b,hm _ _ e,k'⟩
 | .lsl k n,v,r=>by simp only [RT] at r ⊢;obtain ⟨b,e,k'⟩:=r;exact ⟨b,hm _ _ e,k'⟩
 | .un,_,r=>r
 | .u,_,_=>trivial
end
theorem RC.one {E:Env} {G:Gh} {x:CV} {v:Value} (h:RC E G x v):(∀ cs,v≠.agg cs)∧(∀ vs,v≠.tuple vs):=by
 cases x <;> simp only [RC] at h
 case ptr=>obtain ⟨_,_,_,_,rfl⟩:=h;exact ⟨by simp,by simp⟩
 case sl=>obtain ⟨_,_,_,_,_,_,rfl,_⟩:=h;exact ⟨by simp,by simp⟩
 case map=>obtain ⟨_,_,rfl⟩:=h;exact ⟨by simp,by simp⟩
 case fn=>obtain ⟨_,_,_,rfl,_⟩:=h;exact ⟨by simp,by simp⟩
 case iface=>obtain ⟨_,_,_,rfl,_⟩:=h;exact ⟨by simp,by simp⟩
 case it=>obtain ⟨_,_,rfl⟩:=h;exact ⟨by simp,by simp⟩
 all_goals (subst h;exact ⟨by simp,by simp⟩)
theorem RL.length {E:Env} {G:Gh}:∀ {x:List CV} {v:List Value},RL E G x v→v.length=x.length
 | [],_,r=>by simp only [RL] at r;subst r;rfl
 | x::xs,vs,r=>by
  simp only [RL] at r
  obtain ⟨v,ws,rfl,_,l⟩:=r
  simp [RL.length l]
theorem RL.get {E:Env} {G:Gh}:∀ {x:List CV} {v:List Value} {i:Nat} {c:CV},RL E G x v→x[i]? = some c→∃ u,v[i]? = some u∧RC E G c u
 | [],_,i,c,_,e=>by simp at e
 | x::xs,vs,i,c,r,e=>by
  simp only [RL] at r
  obtain ⟨v,ws,rfl,h,l⟩:=r
  cases i with
  | zero=>simp at e;subst e;exact ⟨v,rfl,h⟩
  | succ i=>simp at e;simpa using RL.get l e
theorem RL.mk {E:Env} {G:Gh}:∀ {x:List CV} {v:List Value},v.length=x.length→(∀ (i:Nat) (c:CV),x[i]? = some c→∃ u,v[i]? = some u∧RC E G c u)→RL E G x v
 | [],v,h,_=>by simp only [RL];exact List.eq_nil_of_length_eq_zero (by simpa using h)
 | x::xs,v,h,k=>by
  cases v with
  | nil=>simp at h
  | cons v ws=>
   simp only [RL]
   refine ⟨v,ws,rfl,?_,RL.mk (by simpa using h) (fun i c e=>by simpa using k (i+1) c (by simpa using e))⟩
   obtain ⟨u,hu,hr⟩:=k 0 x rfl
   simp at hu
   subst hu
   exact hr
theorem RL.append {E:Env} {G:Gh} {a b:List CV} {v w:List Value} (h:RL E G a v) (k:RL E G b w):RL E G (a++b) (v++w):=by
 induction a generalizing v with
 | nil=>simp only [RL] at h;subst h;simpa using k
 | cons x xs ih=>
  simp only [RL] at h
  obtain ⟨u,ws,rfl,hu,hl⟩:=h
  simp only [List.cons_append,RL]
  exact ⟨u,ws++w,rfl,hu,ih hl⟩
structure RowsAt (E:Env) (G:Gh) (B:Nat) (w:World) (wr:Bool) (sz:Nat) (r:Rec) (rs:List (List CV)):Prop where
 size:r.sz=sz
 len:r.n≤rs.length
 lo:r.lo≤r.n
 fit:r.n-r.lo≤r.tot
 width:∀ (i:Nat) (row:List CV),r.lo≤i→i<r.n→rs[i]? = some row→row.length=sz
 cells:∃ cs el fz,w.heap[r.blk]? = some (.cells cs el fz)∧r.base+r.tot * sz≤cs.size∧
  (wr=true→B≤r.blk∧∀ o,o<cs.size→¬(fz.1≤o∧o<fz.2))∧
  ∀ (i:Nat) (row:List CV) (j:Nat) (x:CV),r.lo≤i→i<r.n→rs[i]? = some row→row[j]? = some x→∃ v,cs[r.pos i j]? = some v∧RC E G x v
def REnt (E:Env) (G:Gh) (m:ME) (e:MapEntry):Prop:=RA E G m.key e.key∧RA E G m.val e.val∧m.born=e.born
def REnts (E:Env) (G:Gh):List ME→List MapEntry→Prop
 | [],es=>es=[]
 | m::ms,es=>∃ e rest,es=e::rest∧REnt E G m e∧REnts E G ms rest
def RO (E:Env) (G:Gh) (B:Nat) (w:World) (id:Nat):AO→Prop
 | .dead=>True
 | .rows wr sz cur lw rs=>lw≤cur∧(∃ r,G.rows id cur=some r∧r.n=rs.length)∧(∀ tok r,G.rows id tok=some r→tok≤cur)∧
  (∀ tok r,lw≤tok→G.rows id tok=some r→RowsAt E G B w wr sz r rs)∧
  (∀ t1 t2 r1 r2,lw≤t1→lw≤t2→G.rows id t1=some r1→G.rows id t2=some r2→r1.blk=r2.blk→r1.base=r2.base∧r1.lo=r2.lo∧r1.tot=r2.tot)
 | .map wr es clock=>∃ b re,G.obj id=some b∧w.heap[b]? = some (.map re clock)∧REnts E G es re.toList∧(wr=true→B≤b)
 | .siter s pos=>∃ b,G.obj id=some b∧w.heap[b]? = some (.stringIter s pos)∧B≤b
 | .miter m since seen last=>∃ b,G.obj id=some b∧B≤b∧∃ rm,w.heap[b]? = some (.mapIter rm since seen.toArray last)∧
  (match m with|none=>rm=none|some k=>∃ mb,G.obj k=some mb∧rm=some mb)
 | .grow sz vs=>(∀ tok r,G.rows id tok=some r→tok<vs.length)∧
  (∀ tok r rs,vs[tok]? = some (some rs)→G.rows id tok=some r→rs.length≤r.n∧r.lo=0∧RowsAt E G B w true sz { r with n:=rs.length } rs)∧
  (∀ t1 t2 r1 r2 rs1 rs2,vs[t1]? = some (some rs1)→vs[t2]? = some (some rs2)→G.rows id t1=some r1→G.rows id t2=some r2→r1.blk=r2.blk→r1.base=r2.base∧r1.tot=r2.tot)
def Owns (G:Gh) (id b:Nat) (wr:Bool):AO→Prop
 | .dead=>False
 | .rows wr' _ _ lw _=>wr'=wr∧∃ tok r,lw≤tok∧G.rows id tok=some r∧r.blk=b
 | .map wr' _ _=>wr'=wr∧G.obj id=some b
 | .siter ..=>wr=true∧G.obj id=some b
 | .miter ..=>wr=true∧G.obj id=some b
 | .grow _ vs=>wr=true∧∃ tok r rs,vs[tok]? = some (some rs)∧G.rows id tok=some r∧r.blk=b
abbrev Hf:=Nat→Option AO
def Owned (G:Gh) (H:Hf) (b:Nat):Prop:=∃ id o wr,H id=some o∧Owns G id b wr o
structure RH (E:Env) (G:Gh) (B:Nat) (H:Hf) (w:World):Prop where
 each:∀ id o,H id=some o→RO E G B w id o
 apart:∀ i j oi oj b wi wj,H i=some oi→H j=some oj→Owns G i b wi oi→Owns G j b wj oj→i≠j→wi=false∧wj=false
 size:B≤w.heap.size
def Hp.f (h:Hp):Hf:=fun id=>h.obs[id]?
def Free (G:Gh) (lo hi:Nat):Prop:=∀ id,lo≤id→id<hi→(∀ tok,G.rows id tok=none)∧G.obj id=none
structure RLc (E:Env) (G:Gh) (B:Nat) (H:Hf) (m:Mu) (lc:List (List CV)) (w:World):Prop where
 each:∀ (k:Nat) (cs:List CV),lc[k]? = some cs→∃ b vs el fz,m k=some b∧w.heap[b]? = some (.cells vs el fz)∧RL E G cs vs.toList∧B≤b∧¬Owned G H b∧∀ o,o<vs.size→¬(fz.1≤o∧o<fz.2)
 inj:∀ i j b,i<lc.length→j<lc.length→m i=some b→m j=some b→i=j
structure Fr (own:Nat→Prop) (w w':World):Prop where
 os:w'.os=w.os
 tape:w'.tape=w.tape
 output:w'.output=w.output
 size:w.heap.size≤w'.heap.size
 block:∀ b,b<w.heap.size→¬own b→w'.heap[b]? = w.heap[b]?
theorem Fr.refl (own:Nat→Prop) (w:World):Fr own w w:=⟨rfl,rfl,rfl,Nat.le_refl _,fun _ _ _=>rfl⟩
theorem Fr.trans {own own':Nat→Prop} {a b c:World} (h:Fr own a b) (k:Fr own' b c) (ho:∀ x,own' x→own x∨a.heap.size≤x):Fr own a c:=
 ⟨k.os.trans h.os,k.tape.trans h.tape,k.output.trans h.output,Nat.le_trans h.size k.size,fun x hx hn=>
  (k.block x (Nat.lt_of_lt_of_le hx h.size) (fun h'=>(ho x h').elim hn (fun h2=>by omega))).trans (h.block x hx hn)⟩
theorem Fr.mono {own own':Nat→Prop} {a b:World} (h:Fr own a b) (ho:∀ x,own x→own' x):Fr own' a b:=
 ⟨h.os,h.tape,h.output,h.size,fun x hx hn=>h.block x hx (fun h'=>hn (ho x h'))⟩
end
section
def setB (w:World) (b:Nat) (o:Obj):World:={ w with heap:=w.heap.setIfInBounds b o }
theorem setB_get {w:World} {b:Nat} {o o':Obj} (h:w.heap[b]? = some o') (k:Nat):(setB w b o).heap[k]? = if k=b then some o else w.heap[k]?:=by
 have hb:b<w.heap.size:=by
  rcases Nat.lt_or_ge b w.heap.size with h'|h'
  ·exact h'
  ·simp [Array.getElem?_eq_none h'] at h
 simp only [setB,Array.getElem?_setIfInBounds]
 by_cases hk:k=b
 ·subst hk;simp [hb]
 ·simp [hk,Ne.symm hk]
theorem setB_size (w:World) (b:Nat) (o:Obj):(setB w b o).heap.size=w.heap.size:=by simp [setB]
theorem setB_setB (w:World) (b:Nat) (o o':Obj):setB (setB w b o) b o'=setB w b o':=by simp [setB]
theorem lt_of_get {w:World} {b:Nat} {o:Obj} (h:w.heap[b]? = some o):b<w.heap.size:=by
 rcases Nat.lt_or_ge b w.heap.size with h'|h'
 ·exact h'
 ·simp [Array.getElem?_eq_none h'] at h
theorem setCell_eq {w:World} {b off:Nat} {cs:Array Value} {el:TypeId} {fz:Nat × Nat} (h:w.heap[b]? = some (.cells cs el fz)) (v:Value) :
 w.setCell ⟨b,off,none⟩ v=setB w b (.cells (cs.setIfInBounds off v) el fz):=by
 have hb:=lt_of_get h
 have he:w.heap[b] = .cells cs el fz:=by simpa [Array.getElem?_eq_getElem hb] using h
 simp only [World.setCell,setB]
 congr 1
 apply Array.ext_getElem?
 intro k
 rw [Array.getElem?_modify,Array.getElem?_setIfInBounds]
 by_cases hk:b=k
 ·subst hk
  simp [hb,he]
 ·simp [hk]
theorem cell_eq {w:World} {b off:Nat} {cs:Array Value} {el:TypeId} {fz:Nat × Nat} (h:w.heap[b]? = some (.cells cs el fz)) :
 w.cell? ⟨b,off,none⟩=cs[off]?:=by simp [World.cell?,h]
theorem frozen_eq {w:World} {b off:Nat} {cs:Array Value} {el:TypeId} {lo hi:Nat} (h:w.heap[b]? = some (.cells cs el (lo,hi))) :
 w.frozen? ⟨b,off,none⟩=(decide (lo≤off) && decide (off<hi)):=by simp [World.frozen?,h]
theorem add_at (b o i:Nat):(⟨b,o,none⟩:Addr).add i=⟨b,o+i,none⟩:=by
 unfold Addr.add
 split <;> simp_all
section
variable (P:Program)
theorem run_loadCellsFrom {w:World} {b o:Nat} (vs:List Value):∀ (i:Nat) (acc:Array Value),
 (∀ (j:Nat) (v:Value),vs[j]? = some v→w.cell? ⟨b,o+i+j,none⟩=some v)→
 (loadCellsFrom ⟨b,o,none⟩ i vs.length acc).run P w = .ok (acc++vs.toArray) w:=by
 induction vs with
 | nil=>intro i acc h;simp [loadCellsFrom]
 | cons v vs ih=>
  intro i acc h
  have h0:=h 0 v rfl
  simp only [List.length_cons,loadCellsFrom,Sem.run_bind,run_load,add_at]
  simp only [Nat.add_zero] at h0
  rw [h0]
  simp only [Result.andThen_ok]
  rw [ih (i+1) (acc.push v) (fun j u hu=>by
   have:=h (j+1) u (by simpa using hu)
   rwa [show o+(i+1)+j=o+i+(j+1) by omega])]
  simp
theorem run_loadCells {w:World} {b o:Nat} (vs:List Value) (h:∀ (j:Nat) (v:Value),vs[j]? = some v→w.cell? ⟨b,o+j,none⟩=some v) :
 (loadCells ⟨b,o,none⟩ vs.length).run P w = .ok vs.toArray w:=by
 have:=run_loadCellsFrom P (w:=w) (b:=b) (o:=o) vs 0 #[] (by simpa using h)
 simpa [loadCells] using this
def putCells (cs:Array Value) (o:Nat):List Value→Array Value
 | []=>cs
 | v::vs=>putCells (cs.setIfInBounds o v) (o+1) vs
theorem putCells_size (vs:List Value):∀ (cs:Array Value) (o:Nat),(putCells cs o vs).size=cs.size:=by
 induction vs with
 | nil=>intro cs o;rfl
 | cons v vs ih=>intro cs o;simp [putCells,ih]
theorem putCells_get (vs:List Value):∀ (cs:Array Value) (o:Nat),o+vs.length≤cs.size→∀ k,(putCells cs o vs)[k]? = if o≤k∧k<o+vs.length then vs[k-o]? else cs[k]?:=by
 induction vs with
 | nil=>intro cs o h k;simp [putCells];omega
 | cons v vs ih=>
  intro cs o h k
  simp only [putCells]
  rw [ih _ _ (by simp at h ⊢;omega)]
  by_cases h1:o+1≤k∧k<o+1+vs.length
  ·rw [if_pos h1,if_pos (by simp;omega)]
   rw [show k-o=(k-(o+1))+1 by omega]
   simp
  ·rw [if_neg h1]
   by_cases h2:k=o
   ·subst h2
    rw [if_pos (by simp)]
    simp at h
    simp [Array.getElem?_setIfInBounds]
    omega
   ·rw [if_neg (by simp;omega),Array.getElem?_setIfInBounds,if_neg (by omega)]
theorem run_storeCells {b o:Nat} {el:TypeId} {lo hi:Nat} (vs:List Value):∀ (i:Nat) (w:World) (cs:Array Value),w.heap[b]? = some (.cells cs el (lo,hi))→
 o+i+vs.length≤cs.size→(∀ k,k<cs.size→¬(lo≤k∧k<hi))→(∀ v∈vs,v.oneCell'=true)→
 (storeCells ⟨b,o,none⟩ vs i).run P w = .ok () (setB w b (.cells (putCells cs (o+i) vs) el (lo,hi))):=by
 induction vs with
 | nil=>
  intro i w cs h _ _ _
  have hb:=lt_of_get h
  have he:w.heap[b] = .cells cs el (lo,hi):=by simpa [Array.getElem?_eq_getElem hb] using h
  simp only [storeCells,Sem.run_pure,putCells,setB]
  rw [show w.heap.setIfInBounds b (.cells cs el (lo,hi))=w.heap from by
   apply Array.ext_getElem?
   intro k
   rw [Array.getElem?_setIfInBounds]
   by_cases hk:b=k
   ·subst hk;simp [hb,he]
   ·simp [hk]]
 | cons v vs ih=>
  intro i w cs h hfit hfr h1
  simp only [List.length_cons] at hfit
  have hv:v.oneCell'=true:=h1 v (by simp)
  have hc:w.cell? ⟨b,o+i,none⟩=some (cs[o+i]'(by omega)):=by rw [cell_eq h];simp [Array.getElem?_eq_getElem (show o+i<cs.size by omega)]
  have hf:w.frozen? ⟨b,o+i,none⟩=false:=by
   rw [frozen_eq h]
   have:=hfr (o+i) (by omega)
   simp only [Bool.and_eq_false_iff,decide_eq_false_iff_not]
   omega
  simp only [storeCells,Sem.run_bind,add_at,run_store P w _ v _ hv,hc,hf,Bool.false_eq_true,if_false,Result.andThen_ok]
  rw [setCell_eq h]
  have h':(setB w b (.cells (cs.setIfInBounds (o+i) v) el (lo,hi))).heap[b]? = some (.cells (cs.setIfInBounds (o+i) v) el (lo,hi)):=by
   rw [setB_get h];simp
  rw [ih (i+1) _ _ h' (by simp;omega) (by simpa using hfr) (fun u hu=>h1 u (by simp [hu])),setB_setB]
  rfl
end
theorem RC.oneCell {E:Env} {G:Gh} {x:CV} {v:Value} (h:RC E G x v):v.oneCell'=true:=by
 obtain ⟨h1,h2⟩:=h.one
 cases v <;> simp [Value.oneCell'] <;> simp_all
theorem RL.oneCell {E:Env} {G:Gh} {x:List CV} {v:List Value} (h:RL E G x v):∀ u∈v,u.oneCell'=true:=by
 induction x generalizing v with
 | nil=>simp only [RL] at h;subst h;simp
 | cons x xs ih=>
  simp only [RL] at h
  obtain ⟨u,ws,rfl,hu,hl⟩:=h
  intro z hz
  rcases List.mem_cons.1 hz with rfl|hz
  ·exact hu.oneCell
  ·exact ih hl z hz
theorem RA.cells {E:Env} {G:Gh} {x:AV} {v:Value} (h:RA E G x v) (ht:∀ l,x≠.tup l):RL E G x.cells v.cells.toList:=by
 cases x with
 | c x=>
  simp only [RA] at h
  obtain ⟨h1,_⟩:=h.one
  have:v.cells = #[v]:=by cases v <;> simp_all [Value.cells]
  rw [this]
  exact ⟨v,[],rfl,h,rfl⟩
 | agg cs=>
  simp only [RA] at h
  obtain ⟨vs,rfl,hl⟩:=h
  simpa [AV.cells,Value.cells] using hl
 | tup l=>exact absurd rfl (ht l)
end
end Camp
namespace Camp
open Go
section
def ofC:Value→Option CV
 | .bool b=>some (.bool b)
 | .int k n=>some (.int k n)
 | .string s=>some (.str s)
 | .pointer none=>some .nilp
 | .slice none 0 0=>some .nils
 | .map none=>some .nilm
 | .nilFunc=>some .nilf
 | .nilIface=>some .nili
 | _=>none
def ofCs:List Value→Option (List CV)
 | []=>some []
 | v::l=>(ofC v).bind fun x=>(ofCs l).bind fun xs=>some (x::xs)
def ofV (v:Value):Option AV:=
 match v with
 | .agg cs=>(ofCs cs.toList).map .agg
 | v=>(ofC v).map .c
def compX (rn:FuncId→Nat):Operand→Option NX
 | .tmp t=>some (.t t)
 | .const v=>(ofV v).map .c
 | .func f=>some (.c (.c (.fn (rn f) [])))
 | .global _=>none
def compXs (rn:FuncId→Nat):List Operand→Option (List NX)
 | []=>some []
 | x::l=>(compX rn x).bind fun a=>(compXs rn l).bind fun as=>some (a::as)
def compO (rn:FuncId→Nat):Option Operand→Option (Option NX)
 | none=>some none
 | some x=>(compX rn x).map some
def zeroOf (P:Program) (t:TypeId):Option AV:=
 match P.info? t with
 | some i=>match i.zero with
  | some z=>(ofV z).bind fun a=>if a.cells.length=i.size then some a else none
  | none=>none
 | none=>none
def szOf (P:Program) (t:TypeId):Option Nat:=(P.info? t).map (·.size)
def aggOf (P:Program) (t:TypeId):Option Bool:=
 match P.underlying t with
 | some (.struct _)=>some true
 | some (.array _ _)=>some true
 | some _=>some false
 | none=>none
def shapeOf (P:Program) (t:TypeId):Option (Option Nat):=
 (aggOf P t).bind fun b=>(szOf P t).map fun n=>if b then some n else none
def ekOf (P:Program) (t:TypeId):Option EK:=
 match P.underlying t with
 | some (.int _)=>some .int
 | some .bool=>some .bool
 | some .string=>some .str
 | _=>none
def eqFields (P:Program):Nat→List Field→Option (List EK)
 | _,[]=>some []
 | off, f :: r => if f.name ≠ "_" ∧ f.offset = off ∧ shapeOf P f.type = some none then (ekOf P f.type).bind fun e => (eqFields P (off + 1) r).map (e :: ·) else none
def stOf (P:Program) (t:TypeId) (fs:Array Field):TK:=
 if P.stoodInHeld t=false∧P.eqGuardType P.depth t=false then match eqFields P 0 fs.toList with
  | some l=>.st l
  | none=>.oth
 else .oth
def tkOf (P:Program) (t:TypeId):TK:=
 match P.underlying t with
 | some (.int _)=>.num
 | some .string=>.str
 | some .bool=>.bool
 | some (.pointer _)=>.ptr
 | some (.slice _)=>.sl
 | some (.map _ _)=>.map
 | some (.struct fs)=>stOf P t fs
 | _=>.oth
def keyOf? (P:Program) (t:TypeId):Option KT:=
 match P.underlying t with
 | some (.int k)=>some (.int k)
 | some .string=>some .str
 | some .bool=>some .bool
 | some (.array n e)=>match P.underlying e,szOf P e with
  | some (.int k),some 1=>some (.arr n k)
  | _,_=>none
 | _=>none
def partsOf (rn:FuncId→Nat) (place:Nat→Option (Nat × Nat)):List (Nat × Operand)→Option (List (Nat × Nat × NX))
 | []=>some []
 | (i,x)::l=>(place i).bind fun p=>(compX rn x).bind fun a=>(partsOf rn place l).bind fun r=>some ((p.1,p.2,a)::r)
def fieldPlace? (P:Program) (fields:Array Field) (i:Nat):Option (Nat × Nat):=(fields[i]?).bind fun f=>(szOf P f.type).map fun s=>(f.offset,s)
def methodOf (P:Program) (name:String) (t:TypeId):Option FuncId:=
 match P.info? t,P.underlying t with
 | some i,some d=>match d with
  | .pointer _=>none
  | .interface _=>none
  | _=>match i.methods.find? (·.name == name) with
   | some m=>if m.path.size=0 then match m.func with
    | some (f,false)=>some f
    | _=>none
    else none
   | none=>none
 | _,_=>none
def tbOf (P:Program) (rn:FuncId→Nat) (name:String):List (Nat × Nat):=(List.range P.types.size).filterMap fun t=>(methodOf P name t).map fun f=>(t,rn f)
def compCall (P:Program) (rn:FuncId→Nat) (c:Call):Option NO:=
 (compXs rn c.args.toList).bind fun args=>
 match c.callee with
 | .value (.func f)=>some (.call (rn f) args)
 | .value (.tmp t)=>some (.dyn (.t t) args)
 | .value _=>none
 | .invoke x name=>(compX rn x).map fun x=>.inv (tbOf P rn name) x args
 | .builtin b=>
  match b,args with
  | .append,[a,x]=>
   match P.underlying (c.argTypes.getD 0 0) with
   | some (.slice e)=>match P.info? e,P.underlying (c.argTypes.getD 1 0),(zeroOf P e).isSome with
    | some i,some (.slice _),true=>if 0<i.size∧0<i.bytes∧c.argTypes.size=2 then some (.app i.size i.bytes a x) else none
    | some i,some .string,true=>if i.size=1∧0<i.bytes∧c.argTypes.size=2 then some (.app i.size i.bytes a x) else none
    | _,_,_=>none
   | _=>none
  | .copy,[a,x]=>
   match P.underlying (c.argTypes.getD 0 0) with
   | some (.slice e)=>match P.info? e with
    | some i=>if 0<i.size∧c.argTypes.size=2 then some (.copy i.size a x) else none
    | none=>none
   | _=>none
  | .clear,[a]=>
   match P.underlying (c.argTypes.getD 0 0),c.argTypes.size with
   | some (.slice e),1=>(zeroOf P e).bind fun z=>(szOf P e).bind fun n=>if 0<n then some (.clear n z.cells a) else none
   | _,_=>none
  | .delete,[m,k]=>
   match P.underlying (c.argTypes.getD 0 0),c.argTypes.size with
   | some (.map kt _),2=>(keyOf? P kt).map fun q=>.mdel q m k
   | _,_=>none
  | .len,[x]=>
   match P.underlying (c.argTypes.getD 0 0),c.argTypes.size with
   | some .string,1=>some (.len .str x)
   | some (.slice _),1=>some (.len .sl x)
   | some (.map _ _),1=>some (.len .map x)
   | some (.array n _),1=>some (.mov (.c (.c (.int .i64 n))))
   | _,_=>none
  | .cap,[x]=>
   match P.underlying (c.argTypes.getD 0 0),c.argTypes.size with
   | some (.slice _),1=>some (.cap x)
   | _,_=>none
  | .min,a::r=>some (.min (a::r))
  | .max,a::r=>some (.max (a::r))
  | _,_=>none
def isNilOp (P:Program) (op:BinOp) (t:TypeId) (y:Operand):Option Bool:=
 match P.underlying t,y,op with
 | some (.interface _),.const .nilIface,.eql=>some false
 | some (.interface _),.const .nilIface,.neq=>some true
 | _,_,_=>none
def compOp (P:Program) (rn:FuncId→Nat) (loc:Bool) (op:Op):Option NO:=
 match op with
 | .move x=>(compX rn x).map .mov
 | .assign x=>(compX rn x).map .mov
 | .pick c a b=>(compX rn c).bind fun c=>(compX rn a).bind fun a=>(compX rn b).map fun b=>.pick c a b
 | .alloc t=>(zeroOf P t).bind fun z=>(szOf P t).map fun n=>.box loc n (.c z)
 | .box t x=>(compX rn x).bind fun a=>(szOf P t).map fun n=>.box loc n a
 | .build t ps=>
  (zeroOf P t).bind fun z=>
  match P.underlying t with
  | some (.struct fields)=>if fields.toList.all (fun f=>(szOf P f.type).isSome) then (partsOf rn (fieldPlace? P fields) ps.toList).map fun l=>.build z.cells l else none
  | some (.array _ e)=>(szOf P e).bind fun n=>(partsOf rn (fun i=>some (i * n,n)) ps.toList).map fun l=>.build z.cells l
  | _=>none
 | .buildSlice t n ps=>
  match P.underlying t with
  | some (.slice e)=>(zeroOf P e).bind fun z=>(szOf P e).bind fun s=>
   if n * s≤65536∧0<s then (partsOf rn (fun i=>some (i * s,s)) ps.toList).map fun l=>.bslice loc s n z.cells l else none
  | _=>none
 | .insert t m k x=>
  match P.underlying t with
  | some (.map kt _)=>(keyOf? P kt).bind fun q=>(compX rn m).bind fun m=>(compX rn k).bind fun k=>(compX rn x).map fun x=>.mupd q m k x
  | _=>none
 | .load t a=>(compX rn a).bind fun a=>(shapeOf P t).map fun s=>.load s a
 | .store t a x=>(compX rn a).bind fun a=>(compX rn x).bind fun x=>(szOf P t).map fun n=>.store n a x
 | .nilCheck x=>(compX rn x).map .nilck
 | .binOp op t x y _=>
  match isNilOp P op t y with
  | some b=>(compX rn x).map (.isnil b)
  | none=>(compX rn x).bind fun x=>(compX rn y).map fun y=>.bin op (tkOf P t) x y
 | .unOp op _ x=>(compX rn x).map (.un op)
 | .convert src dst x=>
  (compX rn x).bind fun x=>
  match P.underlying src,P.underlying dst with
  | some (.int _),some (.int k)=>some (.conv (.toInt k) x)
  | some .string,some .string=>some (.conv .same x)
  | some (.int _),some .string=>some (.conv .intToStr x)
  | some (.slice e),some .string=>match P.underlying e with
   | some (.int .u8)=>some (.conv .bytesToStr x)
   | some (.int .i32)=>some (.conv .runesToStr x)
   | _=>none
  | some .string,some (.slice e)=>match P.underlying e with
   | some (.int .u8)=>some (.conv .strToBytes x)
   | some (.int .i32)=>some (.conv .strToRunes x)
   | _=>none
  | _,_=>none
 | .makeFunc (.func f) first caps=>if first.size=0 then (compXs rn caps.toList).map fun l=>.mkfn (rn f) l else none
 | .makeMap t none=>some .mkmap
 | .makeSlice t n c=>
  match P.underlying t with
  | some (.slice e)=>(zeroOf P e).bind fun z=>(P.info? e).bind fun i=>(compX rn n).bind fun n=>(compX rn c).bind fun c=>
   if 0<i.size then some (.mkslice i.size i.bytes z.cells n c) else none
  | _=>none
 | .slice t x lo hi mx=>
  (compX rn x).bind fun x=>(compO rn lo).bind fun lo=>(compO rn hi).bind fun hi=>(compO rn mx).bind fun mx=>
  match P.underlying t with
  | some .string=>some (.slice 0 x lo hi mx)
  | some (.slice e)=>(szOf P e).bind fun n=>if 0<n then some (.slice n x lo hi mx) else none
  | _=>none
 | .fieldAddr t x f=>
  match P.underlying t with
  | some (.struct fields)=>(fields[f]?).bind fun fd=>(szOf P fd.type).bind fun n=>if n=0 then none else (compX rn x).map (.faddr fd.offset)
  | _=>none
 | .field t x f=>
  match P.underlying t with
  | some (.struct fields)=>(fields[f]?).bind fun fd=>(shapeOf P fd.type).bind fun s=>(compX rn x).map (.field fd.offset s)
  | _=>none
 | .makeInterface t x=>
  match P.underlying t with
  | some (.interface _)=>none
  | some _=>(compX rn x).map (.mkif t)
  | none=>none
 | .typeAssert x _ t ok=>
  if ok=false then none else
  match P.underlying t with
  | some (.interface _)=>none
  | some _=>(zeroOf P t).bind fun z=>(compX rn x).map (.assert t z)
  | none=>none
 | .indexAddr t x i=>
  (compX rn x).bind fun x=>(compX rn i).bind fun i=>
  match P.underlying t with
  | some (.slice e)=>(szOf P e).map fun n=>.iaddr n x i
  | some (.array len e)=>(szOf P e).map fun n=>.iaddrA len n x i
  | _=>none
 | .index t x i=>
  (compX rn x).bind fun x=>(compX rn i).bind fun i=>
  match P.underlying t with
  | some (.array len e)=>(aggOf P e).bind fun b=>(szOf P e).map fun n=>.index len n b x i
  | some .string=>some (.indexS x i)
  | _=>none
 | .lookup t m k ok=>
  match P.underlying t with
  | some (.map kt e)=>(keyOf? P kt).bind fun q=>(zeroOf P e).bind fun z=>(compX rn m).bind fun m=>(compX rn k).map fun k=>.look q z ok m k
  | _=>none
 | .mapUpdate t m k x=>
  match P.underlying t with
  | some (.map kt _)=>(keyOf? P kt).bind fun q=>(compX rn m).bind fun m=>(compX rn k).bind fun k=>(compX rn x).map fun x=>.mupd q m k x
  | _=>none
 | .mapEntry t m k=>
  match P.underlying t with
  | some (.map kt e)=>(keyOf? P kt).bind fun q=>(zeroOf P e).bind fun z=>(compX rn m).bind fun m=>(compX rn k).map fun k=>.ment q z m k
  | _=>none
 | .entryStore _ m s x=>(compX rn m).bind fun m=>(compX rn s).bind fun s=>(compX rn x).map fun x=>.mest m s x
 | .range t x=>
  match P.underlying t with
  | some .string=>(compX rn x).map (.range .str)
  | some (.map _ _)=>(compX rn x).map (.range .map)
  | _=>none
 | .next it str=>(compX rn it).map (.next str)
 | .entry it=>(compX rn it).map .entry
 | .extract t i=>(compX rn t).map fun t=>.ext t i
 | .call c=>compCall P rn c
 | _=>none
def compGuard (ops:Array Oper):Option (Nat × Bool)→Option (Option (Nat × Bool))
 | none=>some none
 | some (j,b)=>((ops[j]?).bind (·.dst)).map fun t=>some (t,b)
def compR (P:Program) (rn:FuncId→Nat) (locs:List Nat) (ops:Array Oper) (o:Oper):Option NR:=
 (compGuard ops o.guard).bind fun g=>(compOp P rn ((o.dst.map fun d=>locs.contains d).getD false) o.op).map fun n=>⟨o.dst,n,g⟩
end
end Camp
namespace Camp
open Go Go.RowKit
section
theorem ofC_rel {E:Env} {G:Gh} {v:Value} {x:CV} (h:ofC v=some x):RC E G x v:=by
 unfold ofC at h
 split at h <;> simp at h <;> subst h <;> simp [RC]
theorem ofCs_rel {E:Env} {G:Gh}:∀ {l:List Value} {xs:List CV},ofCs l=some xs→RL E G xs l
 | [],xs,h=>by simp [ofCs] at h;subst h;simp [RL]
 | v::l,xs,h=>by
  simp only [ofCs,Option.bind_eq_some_iff] at h
  obtain ⟨x,hx,ys,hy,hh⟩:=h
  injection hh with hh
  subst hh
  simp only [RL]
  exact ⟨v,l,rfl,ofC_rel hx,ofCs_rel hy⟩
theorem ofV_rel {E:Env} {G:Gh} {v:Value} {x:AV} (h:ofV v=some x):RA E G x v:=by
 unfold ofV at h
 split at h
 ·simp only [Option.map_eq_some_iff] at h
  obtain ⟨xs,hx,rfl⟩:=h
  simp only [RA]
  exact ⟨_,rfl,ofCs_rel hx⟩
 ·simp only [Option.map_eq_some_iff] at h
  obtain ⟨x,hx,rfl⟩:=h
  simp only [RA]
  exact ofC_rel hx
theorem ofV_notup {v:Value} {x:AV} (h:ofV v=some x):∀ l,x≠.tup l:=by
 unfold ofV at h
 split at h <;> simp only [Option.map_eq_some_iff] at h <;> obtain ⟨_,_,rfl⟩:=h <;> simp
def RTm (E:Env) (G:Gh) (m:Mu) (tm:List TV) (tmps:Array Value):Prop:=∀ i,RT E G m (gt tm i) (tmps.getD i undef)
section
variable {P:Program} {E:Env} {G:Gh} {B:Nat} {m:Mu} {s:St} {a:Act} {w:World}
theorem compX_rel (ht:RTm E G m s.tm a.tmps) {x:Operand} {nx:NX} (h:compX E.rn x=some nx):RT E G m (nx.ev s.tm) (a.eval x):=by
 cases x with
 | tmp t=>simp [compX] at h;subst h;exact ht t
 | const v=>
  simp only [compX,Option.map_eq_some_iff] at h
  obtain ⟨y,hy,rfl⟩:=h
  simp only [NX.ev,RT,Act.eval]
  exact ofV_rel hy
 | func f=>
  simp [compX] at h
  subst h
  simp only [NX.ev,RT,RA,RC,Act.eval]
  exact ⟨f,#[],rfl,rfl,by simp [RL]⟩
 | global g=>simp [compX] at h
theorem asV_rel {t:TV} {x:AV} {v:Value} (h:asV t=some x) (r:RT E G m t v):RA E G x v∧∀ l,x≠.tup l:=by
 unfold asV at h
 split at h <;> simp at h <;> subst h <;> simp only [RT] at r <;> exact ⟨r,by simp⟩
theorem asC_rel {t:TV} {x:CV} {v:Value} (h:asC t=some x) (r:RT E G m t v):RC E G x v:=by
 unfold asC at h
 split at h <;> simp at h
 subst h
 simpa only [RT,RA] using r
theorem asI_rel {t:TV} {p:IntKind × Int} {v:Value} (h:asI t=some p) (r:RT E G m t v):v = .int p.1 p.2:=by
 unfold asI at h
 split at h <;> simp at h
 subst h
 simpa only [RT,RA,RC] using r
theorem evC_rel (ht:RTm E G m s.tm a.tmps) {l:List Operand} {nl:List NX} {cs:List CV} (h:compXs E.rn l=some nl) (he:evC s.tm nl=some cs):RL E G cs (l.map a.eval):=by
 induction l generalizing nl cs with
 | nil=>simp [compXs] at h;subst h;simp [evC] at he;subst he;simp [RL]
 | cons x l ih=>
  simp only [compXs,Option.bind_eq_some_iff] at h
  obtain ⟨y,hx,ys,hy,hh⟩:=h
  injection hh with hh
  subst hh
  simp only [evC,Option.bind_eq_some_iff] at he
  obtain ⟨c,hc,cs',hcs,hh⟩:=he
  injection hh with hh
  subst hh
  simp only [List.map_cons,RL]
  exact ⟨_,_,rfl,asC_rel hc (compX_rel ht hx),ih hy hcs⟩
theorem evL_rel (ht:RTm E G m s.tm a.tmps) {l:List Operand} {nl:List NX} {cs:List AV} (h:compXs E.rn l=some nl) (he:evL s.tm nl=some cs):RAL E G cs (l.map a.eval):=by
 induction l generalizing nl cs with
 | nil=>simp [compXs] at h;subst h;simp [evL] at he;subst he;simp [RAL]
 | cons x l ih=>
  simp only [compXs,Option.bind_eq_some_iff] at h
  obtain ⟨y,hx,ys,hy,hh⟩:=h
  injection hh with hh
  subst hh
  simp only [evL,Option.bind_eq_some_iff] at he
  obtain ⟨c,hc,cs',hcs,hh⟩:=he
  injection hh with hh
  subst hh
  simp only [List.map_cons,RAL]
  exact ⟨_,_,rfl,(asV_rel hc (compX_rel ht hx)).1,ih hy hcs⟩
def PureOk (P:Program) (E:Env) (G:Gh) (m:Mu) (s:St) (a:Act) (w:World) (o:Oper) (q:Res):Prop:=
 ∃ v,(execOp a.eval o).run P w = .ok (.value v) w∧q.lc=s.lc∧q.hp=s.hp∧RT E G m q.v v
variable {call:CallF} {orc:Nat→Nat} {o:Oper} {q:Res}
theorem op_move (ht:RTm E G m s.tm a.tmps) {x:Operand} {nx:NX} (ho:o.op = .move x∨o.op = .assign x) (hx:compX E.rn x=some nx) (hn:nop call orc s (.mov nx)=some q) :
 PureOk P E G m s a w o q:=by
 simp only [nop,Option.some.injEq] at hn
 subst hn
 refine ⟨a.eval x,?_,rfl,rfl,compX_rel ht hx⟩
 rcases ho with ho|ho <;> simp [execOp,ho]
theorem op_pick (ht:RTm E G m s.tm a.tmps) {c x y:Operand} {nc nx ny:NX} (ho:o.op = .pick c x y) (hc:compX E.rn c=some nc) (hx:compX E.rn x=some nx) (hy:compX E.rn y=some ny)
 (hn:nop call orc s (.pick nc nx ny)=some q):PureOk P E G m s a w o q:=by
 have rc:=compX_rel ht hc
 simp only [nop] at hn
 split at hn <;> simp at hn
 ·rename_i e
  rw [e] at rc
  simp only [RT,RA,RC] at rc
  subst hn
  exact ⟨a.eval x,by simp [execOp,ho,rc,asBool],rfl,rfl,compX_rel ht hx⟩
 ·rename_i e
  rw [e] at rc
  simp only [RT,RA,RC] at rc
  subst hn
  exact ⟨a.eval y,by simp [execOp,ho,rc,asBool],rfl,rfl,compX_rel ht hy⟩
theorem op_nilck (ht:RTm E G m s.tm a.tmps) {x:Operand} {nx:NX} (ho:o.op = .nilCheck x) (hx:compX E.rn x=some nx) (hn:nop call orc s (.nilck nx)=some q):PureOk P E G m s a w o q:=by
 have r:=compX_rel ht hx
 simp only [nop] at hn
 split at hn <;> simp at hn
 ·rename_i e
  rw [e] at r
  subst hn
  have r':=r
  simp only [RT,RA,RC] at r
  obtain ⟨rr,h1,h2,h3,h4⟩:=r
  exact ⟨a.eval x,by simp [execOp,ho,h4],rfl,rfl,r'⟩
 ·rename_i e
  rw [e] at r
  subst hn
  have r':=r
  simp only [RT,RA,RC] at r
  obtain ⟨g,vs,h1,h2,h3⟩:=r
  exact ⟨a.eval x,by simp [execOp,ho,h2],rfl,rfl,r'⟩
 ·rename_i e
  rw [e] at r
  subst hn
  have r':=r
  simp only [RT] at r
  obtain ⟨b,h1,h2⟩:=r
  exact ⟨a.eval x,by simp [execOp,ho,h2],rfl,rfl,r'⟩
end
end
section
section
variable {P:Program} {E:Env} {G:Gh} {B:Nat} {m:Mu} {s:St} {a:Act} {w:World}
variable {call:CallF} {orc:Nat→Nat} {o:Oper} {q:Res}
theorem isEq_cases {op:BinOp} {b:Bool} {c:CV} (h:isEq op b=some c):(op = .eql∧c = .bool b)∨(op = .neq∧c = .bool !b):=by
 unfold isEq at h
 split at h <;> simp at h <;> subst h <;> simp
theorem stOf_k (t:TypeId) (fs:Array Field):stOf P t fs = .oth∨∃ l,stOf P t fs = .st l:=by
 unfold stOf
 split
 ·split
  ·exact .inr ⟨_,rfl⟩
  ·exact .inl rfl
 ·exact .inl rfl
theorem stOf_nb {t:TypeId} {fs:Array Field} {k:TK} (h:stOf P t fs=k) (h1:k≠.oth) (h2:∀ l,k≠.st l):False:=by
 rcases stOf_k (P:=P) t fs with e|⟨l,e⟩
 ·exact h1 (h▸e)
 ·exact h2 l (h▸e)
theorem tkOf_bool {t:TypeId} (h:tkOf P t = .bool):P.underlying t=some .bool:=by
 unfold tkOf at h;split at h <;> first|exact (stOf_nb h (by simp) (by simp)).elim|simp_all
theorem tkOf_ptr {t:TypeId} (h:tkOf P t = .ptr):∃ e,P.underlying t=some (.pointer e):=by
 unfold tkOf at h;split at h <;> first|exact (stOf_nb h (by simp) (by simp)).elim|simp_all
theorem tkOf_sl {t:TypeId} (h:tkOf P t = .sl):∃ e,P.underlying t=some (.slice e):=by
 unfold tkOf at h;split at h <;> first|exact (stOf_nb h (by simp) (by simp)).elim|simp_all
theorem tkOf_map {t:TypeId} (h:tkOf P t = .map):∃ k e,P.underlying t=some (.map k e):=by
 unfold tkOf at h;split at h <;> first|exact (stOf_nb h (by simp) (by simp)).elim|simp_all
theorem run_und {t:TypeId} {d:TypeDesc} (h:P.underlying t=some d) (w:World):(underlying t).run P w = .ok d w:=by
 simp [underlying,h]
theorem eq_step (t:TypeId) (x y:Value):Op.equal t x y=Op.equalIn (9999+1) t x y:=rfl
theorem eq_bool {t:TypeId} (h:P.underlying t=some .bool) (x y:Bool) (w:World):(Op.equal t (.bool x) (.bool y)).run P w = .ok (x == y) w:=by
 rw [eq_step,Op.equalIn];simp only [Sem.run_bind,run_und h,Result.andThen_ok,Sem.run_pure]
theorem eq_ptr1 {t e:TypeId} (h:P.underlying t=some (.pointer e)) (y:Option Addr) (w:World):(Op.equal t (.pointer none) (.pointer y)).run P w = .ok y.isNone w:=by
 rw [eq_step,Op.equalIn];simp only [Sem.run_bind,run_und h,Result.andThen_ok,Sem.run_pure]
theorem eq_ptr2 {t e:TypeId} (h:P.underlying t=some (.pointer e)) (y:Addr) (w:World):(Op.equal t (.pointer (some y)) (.pointer none)).run P w = .ok false w:=by
 rw [eq_step,Op.equalIn];simp only [Sem.run_bind,run_und h,Result.andThen_ok,Sem.run_pure]
theorem eq_sl1 {t e:TypeId} (h:P.underlying t=some (.slice e)) (y:Option Addr) (a b c d:Nat) (w:World):(Op.equal t (.slice none a b) (.slice y c d)).run P w = .ok y.isNone w:=by
 rw [eq_step,Op.equalIn];simp only [Sem.run_bind,run_und h,Result.andThen_ok,Sem.run_pure]
theorem eq_sl2 {t e:TypeId} (h:P.underlying t=some (.slice e)) (y:Addr) (a b c d:Nat) (w:World):(Op.equal t (.slice (some y) a b) (.slice none c d)).run P w = .ok false w:=by
 rw [eq_step,Op.equalIn];simp only [Sem.run_bind,run_und h,Result.andThen_ok,Sem.run_pure]
theorem eq_map1 {t k e:TypeId} (h:P.underlying t=some (.map k e)) (y:Option Nat) (w:World):(Op.equal t (.map none) (.map y)).run P w = .ok y.isNone w:=by
 rw [eq_step,Op.equalIn];simp only [Sem.run_bind,run_und h,Result.andThen_ok,Sem.run_pure]
theorem eq_map2 {t k e:TypeId} (h:P.underlying t=some (.map k e)) (y:Nat) (w:World):(Op.equal t (.map (some y)) (.map none)).run P w = .ok false w:=by
 rw [eq_step,Op.equalIn];simp only [Sem.run_bind,run_und h,Result.andThen_ok,Sem.run_pure]
def scalar:Value→Bool
 | .bool _ | .pointer _ | .slice .. | .map _=>true
 | _=>false
theorem binOp_eql {t:TypeId} {x y:Value} (h:scalar x=true):binOp .eql t x y=(do pure (.bool (←Op.equal t x y)):Sem Value):=by
 cases x <;> simp [scalar] at h <;> rfl
theorem binOp_neq {t:TypeId} {x y:Value} (h:scalar x=true):binOp .neq t x y=(do pure (.bool (!(←Op.equal t x y))):Sem Value):=by
 cases x <;> simp [scalar] at h <;> rfl
theorem run_isEq {t:TypeId} {x y:Value} {b:Bool} {op:BinOp} {c:CV} (he:(Op.equal t x y).run P w = .ok b w) (hb:isEq op b=some c)
 (hx:scalar x=true):∃ v,(binOp op t x y).run P w = .ok v w∧RC E G c v:=by
 rcases isEq_cases hb with ⟨rfl,rfl⟩|⟨rfl,rfl⟩
 ·refine ⟨.bool b,?_,by simp only [RC]⟩
  rw [binOp_eql hx]
  simp only [Sem.run_bind,he,Result.andThen_ok,Sem.run_pure]
 ·refine ⟨.bool !b,?_,by simp only [RC]⟩
  rw [binOp_neq hx]
  simp only [Sem.run_bind,he,Result.andThen_ok,Sem.run_pure]
theorem run_eqGuard {op:BinOp} {t:TypeId} {x y:Operand} {u v:Value} (h1:u≠.nilIface) (h2:∀ cs,u≠.agg cs):(eqGuard op t x y u v).run P w = .ok () w:=by
 have h:∀ b:Bool,((do
  if b=true then return
  match u,v with
  | .nilIface,.nilIface=>
   if (x matches .const _) || (y matches .const _) then return
   if ← Op.eqGuardIn Op.maxDepth t u v then unsupported (.noEntry "binop/eql: two nil values of an interface type with methods, neither of them the literal nil")
  | .agg _,.agg _=>
   if !(←program).eqGuardType (←program).depth t then return
   if ← Op.eqGuardIn Op.maxDepth t u v then unsupported (.noEntry "binop/eql: two nil values of an interface type with methods, in a part of a struct or an array")
  | _,_=>pure ():Sem Unit)).run P w = .ok () w:=by
  intro b
  cases b with
  | true=>rfl
  | false=>
   cases u <;> first
    | exact absurd rfl h1
    | exact absurd rfl (h2 _)
    | rfl
 exact h _
theorem shift_ok {op:BinOp} {k k':IntKind} {x y:Int} {c:CV} (h:shiftBin op k x y=some c):∃ v,(Op.shift op k x k' y).run P w = .ok v w∧RC E G c v:=by
 unfold shiftBin at h
 split at h
 ·simp at h
 ·rename_i hy
  unfold Op.shift
  rw [if_neg hy]
  cases op <;> simp at h <;> subst h <;> simp [RC]
theorem intBin_ok {op:BinOp} {k:IntKind} {x y:Int} {c:CV} {t:TypeId} (h:intBin op k x y=some c) (hs:¬(op = .shl∨op = .shr)) :
 ∃ v,(binOp op t (.int k x) (.int k y)).run P w = .ok v w∧RC E G c v:=by
 cases op <;> simp only [intBin,reduceCtorEq,Option.some.injEq,or_self,or_true,true_or,not_true_eq_false,or_false,not_false_eq_true] at h hs
 case quo=>split at h <;> simp at h;subst h;rename_i hy;exact ⟨_,by simp [binOp,Op.intDiv,hy];rfl,by simp only [RC]⟩
 case rem=>split at h <;> simp at h;subst h;rename_i hy;exact ⟨_,by simp [binOp,Op.intDiv,hy];rfl,by simp only [RC]⟩
 case add=>subst h;exact ⟨_,by simp only [binOp,ne_eq,not_true_eq_false,if_false];rfl,by simp only [RC]⟩
 case sub=>subst h;exact ⟨_,by simp only [binOp,ne_eq,not_true_eq_false,if_false];rfl,by simp only [RC]⟩
 case mul=>subst h;exact ⟨_,by simp only [binOp,ne_eq,not_true_eq_false,if_false];rfl,by simp only [RC]⟩
 case and=>subst h;exact ⟨_,by simp only [binOp,ne_eq,not_true_eq_false,if_false];rfl,by simp only [RC]⟩
 case or=>subst h;exact ⟨_,by simp only [binOp,ne_eq,not_true_eq_false,if_false];rfl,by simp only [RC]⟩
 case xor=>subst h;exact ⟨_,by simp only [binOp,ne_eq,not_true_eq_false,if_false];rfl,by simp only [RC]⟩
 case andNot=>subst h;exact ⟨_,by simp only [binOp,ne_eq,not_true_eq_false,if_false];rfl,by simp only [RC]⟩
 case eql=>subst h;exact ⟨_,by simp only [binOp,ne_eq,not_true_eq_false,if_false];rfl,by simp only [RC]⟩
 case neq=>subst h;exact ⟨_,by simp only [binOp,ne_eq,not_true_eq_false,if_false];rfl,by simp only [RC]⟩
 case lss=>subst h;exact ⟨_,by simp only [binOp,ne_eq,not_true_eq_false,if_false];rfl,by simp only [RC]⟩
 case leq=>subst h;exact ⟨_,by simp only [binOp,ne_eq,not_true_eq_false,if_false];rfl,by simp only [RC]⟩
 case gtr=>subst h;exact ⟨_,by simp only [binOp,ne_eq,not_true_eq_false,if_false];rfl,by simp only [RC]⟩
 case geq=>subst h;exact ⟨_,by simp only [binOp,ne_eq,not_true_eq_false,if_false];rfl,by simp only [RC]⟩
theorem strBin_ok {op:BinOp} {x y:ByteArray} {c:CV} {t:TypeId} (h:strBin op x y=some c):∃ v,(binOp op t (.string x) (.string y)).run P w = .ok v w∧RC E G c v:=by
 cases op <;> simp only [strBin,reduceCtorEq,Option.some.injEq] at h
 case add=>
  split at h <;> simp at h
  rename_i h1
  subst h
  refine ⟨.string (x++y),?_,by simp only [RC]⟩
  have h2:¬(((x.size+y.size:Nat):Int) > IntKind.i64.max):=by
   have:IntKind.i64.max=9223372036854775807:=by rfl
   rw [this]
   unfold room at h1
   omega
  simp only [binOp,Op.stringOp]
  rw [if_neg h2]
  rfl
 all_goals (subst h;exact ⟨_,rfl,by simp only [RC]⟩)
theorem binC_ok {op:BinOp} {t:TypeId} {x y:CV} {c:CV} {u v:Value} (h:binC op (tkOf P t) x y=some c) (hx:RC E G x u) (hy:RC E G y v) :
 ∃ z,(binOp op t u v).run P w = .ok z w∧RC E G c z:=by
 unfold binC at h
 split at h
 ·simp only [RC] at hx hy
  subst hx hy
  split at h
  ·rename_i k a k' b hs
   have:(binOp op t (.int k a) (.int k' b))=Op.shift op k a k' b:=by rcases hs with rfl|rfl <;> rfl
   rw [this]
   exact shift_ok h
  ·split at h
   ·rename_i hk
    subst hk
    exact intBin_ok h ‹_›
   ·simp at h
 ·simp only [RC] at hx hy
  subst hx hy
  exact strBin_ok h
 ·split at h
  rotate_left
  ·simp at h
  rename_i ht
  simp only [RC] at hx hy
  subst hx hy
  exact run_isEq (eq_bool (tkOf_bool ht) _ _ _) h rfl
 ·split at h
  rotate_left
  ·simp at h
  rename_i ht
  obtain ⟨e,hu⟩:=tkOf_ptr ht
  simp only [RC] at hx hy
  subst hx hy
  exact run_isEq (eq_ptr1 hu _ _) h rfl
 ·split at h
  rotate_left
  ·simp at h
  rename_i ht
  obtain ⟨e,hu⟩:=tkOf_ptr ht
  simp only [RC] at hx hy
  obtain ⟨_,_,_,_,hy⟩:=hy
  subst hx hy
  exact run_isEq (eq_ptr1 hu _ _) h rfl
 ·split at h
  rotate_left
  ·simp at h
  rename_i ht
  obtain ⟨e,hu⟩:=tkOf_ptr ht
  simp only [RC] at hx hy
  obtain ⟨_,_,_,_,hx⟩:=hx
  subst hx hy
  exact run_isEq (eq_ptr2 hu _ _) h rfl
 ·split at h
  rotate_left
  ·simp at h
  rename_i ht
  obtain ⟨e,hu⟩:=tkOf_sl ht
  simp only [RC] at hx hy
  subst hx hy
  exact run_isEq (eq_sl1 hu _ _ _ _ _ _) h rfl
 ·split at h
  rotate_left
  ·simp at h
  rename_i ht
  obtain ⟨e,hu⟩:=tkOf_sl ht
  simp only [RC] at hx hy
  obtain ⟨_,_,_,_,_,_,hy,_⟩:=hy
  subst hx hy
  exact run_isEq (eq_sl1 hu _ _ _ _ _ _) h rfl
 ·split at h
  rotate_left
  ·simp at h
  rename_i ht
  obtain ⟨e,hu⟩:=tkOf_sl ht
  simp only [RC] at hx hy
  obtain ⟨_,_,_,_,_,_,hx,_⟩:=hx
  subst hx hy
  exact run_isEq (eq_sl2 hu _ _ _ _ _ _) h rfl
 ·split at h
  rotate_left
  ·simp at h
  rename_i ht
  obtain ⟨k,e,hu⟩:=tkOf_map ht
  simp only [RC] at hx hy
  subst hx hy
  exact run_isEq (eq_map1 hu _ _) h rfl
 ·split at h
  rotate_left
  ·simp at h
  rename_i ht
  obtain ⟨k,e,hu⟩:=tkOf_map ht
  simp only [RC] at hx hy
  obtain ⟨_,_,hy⟩:=hy
  subst hx hy
  exact run_isEq (eq_map1 hu _ _) h rfl
 ·split at h
  rotate_left
  ·simp at h
  rename_i ht
  obtain ⟨k,e,hu⟩:=tkOf_map ht
  simp only [RC] at hx hy
  obtain ⟨_,_,hx⟩:=hx
  subst hx hy
  exact run_isEq (eq_map2 hu _ _) h rfl
 ·simp at h
theorem binC_noIface {op:BinOp} {t:TK} {x y c:CV} (h:binC op t x y=some c):x≠.nili:=by
 rintro rfl
 unfold binC at h
 split at h <;> simp_all
theorem op_binC {op:BinOp} {t t':TypeId} {x y:Operand} (ho:o.op = .binOp op t x y t') {cx cy c:CV} (rx:RC E G cx (a.eval x)) (ry:RC E G cy (a.eval y)) (hc:binC op (tkOf P t) cx cy=some c) :
 PureOk P E G m s a w o ⟨.v (.c c),s.lc,s.hp⟩:=by
 obtain ⟨z,hz,rz⟩:=binC_ok (w:=w) hc rx ry
 refine ⟨z,?_,rfl,rfl,by simpa [RT,RA] using rz⟩
 have h1:a.eval x≠.nilIface:=by
  intro e
  rw [e] at rx
  have hne:=binC_noIface hc
  cases cx <;> simp [RC] at rx hne
 have h2:∀ cs,a.eval x≠.agg cs:=(rx.one).1
 simp [execOp,ho,run_eqGuard h1 h2,hz]
theorem op_un (ht:RTm E G m s.tm a.tmps) {op:UnOp} {t:TypeId} {x:Operand} {nx:NX} (ho:o.op = .unOp op t x) (hx:compX E.rn x=some nx)
 (hn:nop call orc s (.un op nx)=some q):PureOk P E G m s a w o q:=by
 simp only [nop,Option.bind_eq_some_iff,Option.map_eq_some_iff] at hn
 obtain ⟨cx,hcx,c,hc,rfl⟩:=hn
 have rx:=asC_rel hcx (compX_rel ht hx)
 unfold unC at hc
 split at hc <;> simp at hc <;> subst hc <;> simp only [RC] at rx
 ·exact ⟨_,by simp [execOp,ho,rx,Op.unary,Op.intArith];rfl,rfl,rfl,by simp [RT,RA,RC]⟩
 ·exact ⟨_,by simp [execOp,ho,rx,Op.unary,Op.intBits];rfl,rfl,rfl,by simp [RT,RA,RC]⟩
 ·exact ⟨_,by simp [execOp,ho,rx,Op.unary];rfl,rfl,rfl,by simp [RT,RA,RC]⟩
theorem foldMin_ok:∀ (l:List CV) (c d:CV) (u:Value) (vs:List Value),foldC minC c l=some d→RC E G c u→RL E G l vs→∃ z,(vs.foldlM Builtin.min2 u).run P w = .ok z w∧RC E G d z
 | [],c,d,u,vs,h,r,hl=>by
  simp [foldC] at h;subst h
  simp only [RL] at hl;subst hl
  exact ⟨u,by simp,r⟩
 | b::l,c,d,u,vs,h,r,hl=>by
  simp only [foldC,Option.bind_eq_some_iff] at h
  obtain ⟨e,he,h⟩:=h
  simp only [RL] at hl
  obtain ⟨v,ws,rfl,rv,hl⟩:=hl
  unfold minC at he
  split at he
  ·split at he <;> simp at he
   rename_i hk
   subst hk he
   simp only [RC] at r rv
   subst r rv
   obtain ⟨z,hz,rz⟩:=foldMin_ok l _ d (.int _ _) ws h (by simp only [RC];rfl) hl
   exact ⟨z,by simpa [Builtin.min2] using hz,rz⟩
  ·simp at he
theorem foldMax_ok:∀ (l:List CV) (c d:CV) (u:Value) (vs:List Value),foldC maxC c l=some d→RC E G c u→RL E G l vs→∃ z,(vs.foldlM Builtin.max2 u).run P w = .ok z w∧RC E G d z
 | [],c,d,u,vs,h,r,hl=>by
  simp [foldC] at h;subst h
  simp only [RL] at hl;subst hl
  exact ⟨u,by simp,r⟩
 | b::l,c,d,u,vs,h,r,hl=>by
  simp only [foldC,Option.bind_eq_some_iff] at h
  obtain ⟨e,he,h⟩:=h
  simp only [RL] at hl
  obtain ⟨v,ws,rfl,rv,hl⟩:=hl
  unfold maxC at he
  split at he
  ·split at he <;> simp at he
   rename_i hk
   subst hk he
   simp only [RC] at r rv
   subst r rv
   obtain ⟨z,hz,rz⟩:=foldMax_ok l _ d (.int _ _) ws h (by simp only [RC];rfl) hl
   exact ⟨z,by simpa [Builtin.max2] using hz,rz⟩
  ·simp at he
theorem run_builtin {b:Builtin} {c:Call} (ho:o.op = .call c) (hc:c.callee = .builtin b) {n:Next} {w':World}
 (h:∀ consts,(builtin b c.argTypes o.type consts (c.args.map a.eval)).run P w = .ok n w'):(execOp a.eval o).run P w = .ok n w':=by
 simp only [execOp,ho,resolve,hc,Sem.run_bind,Sem.run_pure,Result.andThen_ok,invoke]
 exact h _
theorem op_min (ht:RTm E G m s.tm a.tmps) {c:Call} {x:NX} {l:List NX} (ho:o.op = .call c) (hc:c.callee = .builtin .min) (hx:compXs E.rn c.args.toList=some (x::l))
 (hn:nop call orc s (.min (x::l))=some q):PureOk P E G m s a w o q:=by
 simp only [nop,Option.bind_eq_some_iff] at hn
 obtain ⟨cs,hcs,hn⟩:=hn
 have r:=evC_rel ht hx hcs
 split at hn
 ·simp at hn
 ·simp only [Option.map_eq_some_iff] at hn
  obtain ⟨d,hd,rfl⟩:=hn
  simp only [RL] at r
  obtain ⟨v,ws,hv,rv,rl⟩:=r
  obtain ⟨z,hz,rz⟩:=foldMin_ok (P:=P) (w:=w) _ _ d v ws hd rv rl
  refine ⟨z,run_builtin ho hc (fun _=>?_),rfl,rfl,by simpa [RT,RA] using rz⟩
  simp [builtin,Builtin.min_,hv,hz]
theorem op_max (ht:RTm E G m s.tm a.tmps) {c:Call} {x:NX} {l:List NX} (ho:o.op = .call c) (hc:c.callee = .builtin .max) (hx:compXs E.rn c.args.toList=some (x::l))
 (hn:nop call orc s (.max (x::l))=some q):PureOk P E G m s a w o q:=by
 simp only [nop,Option.bind_eq_some_iff] at hn
 obtain ⟨cs,hcs,hn⟩:=hn
 have r:=evC_rel ht hx hcs
 split at hn
 ·simp at hn
 ·simp only [Option.map_eq_some_iff] at hn
  obtain ⟨d,hd,rfl⟩:=hn
  simp only [RL] at r
  obtain ⟨v,ws,hv,rv,rl⟩:=r
  obtain ⟨z,hz,rz⟩:=foldMax_ok (P:=P) (w:=w) _ _ d v ws hd rv rl
  refine ⟨z,run_builtin ho hc (fun _=>?_),rfl,rfl,by simpa [RT,RA] using rz⟩
  simp [builtin,Builtin.max_,hv,hz]
end
end
section
section
variable {P:Program} {E:Env} {G:Gh} {B:Nat} {m:Mu} {s:St} {a:Act} {w:World}
variable {call:CallF} {orc:Nat→Nat} {o:Oper} {q:Res}
theorem run_size {t:TypeId} {n:Nat} (h:szOf P t=some n) (w:World):(Go.sizeOf t).run P w = .ok n w:=by
 simp only [szOf,Option.map_eq_some_iff] at h
 obtain ⟨i,hi,rfl⟩:=h
 simp [Go.sizeOf,typeInfo,hi]
theorem run_agg {t:TypeId} {b:Bool} (h:aggOf P t=some b) (w:World):(isAgg t).run P w = .ok b w:=by
 unfold aggOf at h
 split at h <;> simp at h <;> subst h <;> rename_i d hd <;> simp [isAgg,run_und hd]
theorem addr_add (b o n:Nat):(⟨b,o,none⟩:Addr).add n=⟨b,o+n,none⟩:=add_at b o n
theorem op_faddr (ht:RTm E G m s.tm a.tmps) {t:TypeId} {fields:Array Field} {fi n:Nat} {fd:Field} {x:Operand} {nx:NX} (ho:o.op = .fieldAddr t x fi)
 (hu:P.underlying t=some (.struct fields)) (hf:fields[fi]? = some fd) (hs:szOf P fd.type=some n) (hn0:n≠0) (hx:compX E.rn x=some nx)
 (hn:nop call orc s (.faddr fd.offset nx)=some q):PureOk P E G m s a w o q:=by
 have r:=compX_rel ht hx
 have key:∀ b off,a.eval x = .pointer (some ⟨b,off,none⟩)→(execOp a.eval o).run P w = .ok (.value (.pointer (some ⟨b,off+fd.offset,none⟩))) w:=by
  intro b off e
  simp [execOp,ho,Instr.fieldAt,run_und hu,hf,e,Instr.sureAddr,fieldPlace,run_size hs,hn0,addr_add]
 simp only [nop] at hn
 split at hn <;> simp at hn <;> subst hn <;> rename_i e <;> rw [e] at r
 ·simp only [RT,RA,RC] at r
  obtain ⟨rr,h1,h2,h3,h4⟩:=r
  refine ⟨_,key _ _ h4,rfl,rfl,?_⟩
  simp only [RT,RA,RC]
  refine ⟨rr,h1,h2,h3,?_⟩
  simp only [Rec.pos]
  rw [Nat.add_assoc]
 ·simp only [RT] at r
  obtain ⟨b,h1,h2⟩:=r
  refine ⟨_,key _ _ h2,rfl,rfl,?_⟩
  simp only [RT]
  exact ⟨b,h1,rfl⟩
theorem takeCells_one {cs:List CV} {vs:List Value} {j:Nat} {v:AV} (hl:RL E G cs vs) (h:takeCells none cs j=some v):∃ u,vs[j]? = some u∧RA E G v u:=by
 simp only [takeCells,Option.map_eq_some_iff] at h
 obtain ⟨c,hc,rfl⟩:=h
 obtain ⟨u,hu,ru⟩:=hl.get hc
 exact ⟨u,hu,by simpa only [RA] using ru⟩
theorem takeCells_many {n:Nat} {cs:List CV} {vs:List Value} {j:Nat} {v:AV} (hl:RL E G cs vs) (h:takeCells (some n) cs j=some v) :
 j+n≤vs.length∧RA E G v (.agg ((vs.drop j).take n).toArray):=by
 simp only [takeCells] at h
 split at h <;> simp at h
 rename_i hle
 subst h
 have hlen:=hl.length
 refine ⟨by omega,?_⟩
 simp only [RA]
 refine ⟨_,rfl,RL.mk (by simp [hlen]) (fun i c hc=>?_)⟩
 rw [List.getElem?_take] at hc ⊢
 split at hc
 ·rename_i hi
  rw [if_pos hi]
  rw [List.getElem?_drop] at hc ⊢
  exact hl.get hc
 ·simp at hc
theorem part_ok {t:TypeId} {sh:Option Nat} {cs:List CV} {vs:Array Value} {off:Nat} {v:AV} (hs:shapeOf P t=some sh) (hl:RL E G cs vs.toList) (h:takeCells sh cs off=some v) :
 ∃ u,(part t vs off).run P w = .ok u w∧RA E G v u:=by
 simp only [shapeOf,Option.bind_eq_some_iff,Option.map_eq_some_iff] at hs
 obtain ⟨b,hb,n,hn,rfl⟩:=hs
 unfold part
 cases b with
 | true=>
  have hk:=takeCells_many (n:=n) hl (by simpa using h)
  refine ⟨_,?_,hk.2⟩
  simp [run_agg hb,run_size hn]
  rw [←Array.toList_inj]
  simp [List.drop_take]
 | false=>
  obtain ⟨u,hu,ru⟩:=takeCells_one hl (by simpa using h)
  refine ⟨u,?_,ru⟩
  have:vs[off]? = some u:=by simpa using hu
  simp [run_agg hb,this]
theorem bytes_len (bs:ByteArray):bs.data.toList.length=bs.size:=by rw [Array.length_toList];rfl
theorem bytes_get {bs:ByteArray} {i:Nat} {c:UInt8} (h:bs.data.toList[i]? = some c):bs[i]? = some c:=by
 have hlt:i<bs.data.toList.length:=by
  rcases Nat.lt_or_ge i bs.data.toList.length with h'|h'
  ·exact h'
  ·simp [List.getElem?_eq_none h'] at h
 rw [List.getElem?_eq_getElem hlt] at h
 rw [bytes_len] at hlt
 rw [getElem?_pos bs i hlt,←h]
 rfl
theorem op_field (ht:RTm E G m s.tm a.tmps) {t:TypeId} {fields:Array Field} {fi:Nat} {sh:Option Nat} {fd:Field} {x:Operand} {nx:NX} (ho:o.op = .field t x fi)
 (hu:P.underlying t=some (.struct fields)) (hf:fields[fi]? = some fd) (hs:shapeOf P fd.type=some sh) (hx:compX E.rn x=some nx)
 (hn:nop call orc s (.field fd.offset sh nx)=some q):PureOk P E G m s a w o q:=by
 have r:=compX_rel ht hx
 simp only [nop,Option.map_eq_some_iff] at hn
 obtain ⟨v,hv,rfl⟩:=hn
 unfold fieldV at hv
 split at hv
 rotate_left
 ·simp at hv
 rename_i cs e
 rw [e] at r
 simp only [RT,RA] at r
 obtain ⟨vs,h1,h2⟩:=r
 obtain ⟨u,hu',ru⟩:=part_ok (P:=P) (w:=w) hs h2 hv
 exact ⟨u,by simp [execOp,ho,Instr.field,run_und hu,hf,h1,asAgg,hu'],rfl,rfl,by simpa only [RT] using ru⟩
theorem op_index (ht:RTm E G m s.tm a.tmps) {t e:TypeId} {len n:Nat} {b:Bool} {x i:Operand} {nx ni:NX} (ho:o.op = .index t x i)
 (hu:P.underlying t=some (.array len e)) (hb:aggOf P e=some b) (hs:szOf P e=some n) (hx:compX E.rn x=some nx) (hi:compX E.rn i=some ni)
 (hn:nop call orc s (.index len n b nx ni)=some q):PureOk P E G m s a w o q:=by
 have r:=compX_rel ht hx
 simp only [nop,Option.bind_eq_some_iff] at hn
 obtain ⟨p,hp,hn⟩:=hn
 have ri:=asI_rel hp (compX_rel ht hi)
 split at hn
 rotate_left
 ·simp at hn
 rename_i hlt
 simp only [Option.map_eq_some_iff] at hn
 obtain ⟨v,hv,rfl⟩:=hn
 unfold fieldV at hv
 split at hv
 rotate_left
 ·simp at hv
 rename_i cs e'
 rw [e'] at r
 simp only [RT,RA] at r
 obtain ⟨vs,h1,h2⟩:=r
 have hsh:shapeOf P e=some (if b then some n else none):=by simp [shapeOf,hb,hs]
 obtain ⟨u,hu',ru⟩:=part_ok (P:=P) (w:=w) hsh h2 hv
 refine ⟨u,?_,rfl,rfl,by simpa only [RT] using ru⟩
 simp [execOp,ho,Instr.index,run_und hu,h1,ri,asIntOf,hlt,run_size hs,hu']
theorem op_indexS (ht:RTm E G m s.tm a.tmps) {t:TypeId} {x i:Operand} {nx ni:NX} (ho:o.op = .index t x i)
 (hu:P.underlying t=some .string) (hx:compX E.rn x=some nx) (hi:compX E.rn i=some ni)
 (hn:nop call orc s (.indexS nx ni)=some q):PureOk P E G m s a w o q:=by
 have r:=compX_rel ht hx
 simp only [nop,Option.bind_eq_some_iff] at hn
 obtain ⟨p,hp,hn⟩:=hn
 have ri:=asI_rel hp (compX_rel ht hi)
 split at hn
 rotate_left
 ·simp at hn
 rename_i bs e
 rw [e] at r
 simp only [RT,RA,RC] at r
 split at hn
 rotate_left
 ·simp at hn
 rename_i h0
 simp only [Option.map_eq_some_iff] at hn
 obtain ⟨c,hc,rfl⟩:=hn
 have hc':=bytes_get hc
 refine ⟨.int .u8 c.toNat,?_,rfl,rfl,by simp only [RT,RA,RC]⟩
 simp [execOp,ho,Instr.index,run_und hu,r,ri,asIntOf,h0,hc']
theorem op_ext (ht:RTm E G m s.tm a.tmps) {x:Operand} {nx:NX} {i:Nat} (ho:o.op = .extract x i) (hx:compX E.rn x=some nx) (hn:nop call orc s (.ext nx i)=some q):PureOk P E G m s a w o q:=by
 have r:=compX_rel ht hx
 simp only [nop,Option.map_eq_some_iff] at hn
 obtain ⟨v,hv,rfl⟩:=hn
 unfold extV at hv
 split at hv
 rotate_left
 ·simp at hv
 rename_i vs e
 rw [e] at r
 simp only [RT,RA] at r
 obtain ⟨us,h1,h2⟩:=r
 simp only [Option.map_eq_some_iff] at hv
 obtain ⟨y,hy,rfl⟩:=hv
 have:∀ (l:List AV) (us:List Value) (i:Nat),RAL E G l us→l[i]? = some y→∃ u,us[i]? = some u∧RA E G y u:=by
  intro l
  induction l with
  | nil=>intro us i _ h;simp at h
  | cons z l ih=>
   intro us i h k
   simp only [RAL] at h
   obtain ⟨u,ws,rfl,hu,hl⟩:=h
   cases i with
   | zero=>simp at k;subst k;exact ⟨u,rfl,hu⟩
   | succ i=>simpa using ih ws i hl (by simpa using k)
 obtain ⟨u,hu,ru⟩:=this vs us.toList i h2 hy
 have hu':us[i]? = some u:=by simpa using hu
 exact ⟨u,by simp [execOp,ho,Instr.extract,h1,hu'],rfl,rfl,by simpa only [RT] using ru⟩
end
section
variable {P:Program} {E:Env} {G:Gh} {m:Mu} {s:St} {a:Act} {w:World} {o:Oper} {q:Res} {call:CallF} {orc:Nat→Nat}
theorem ek_int {t:TypeId} (h:ekOf P t=some .int):∃ k,P.underlying t=some (.int k):=by
 unfold ekOf at h
 split at h <;> first|exact ⟨_,by assumption⟩|(simp at h;done)
theorem ek_bool {t:TypeId} (h:ekOf P t=some .bool):P.underlying t=some .bool:=by
 unfold ekOf at h
 split at h <;> first|assumption|(simp at h;done)
theorem ek_str {t:TypeId} (h:ekOf P t=some .str):P.underlying t=some .string:=by
 unfold ekOf at h
 split at h <;> first|assumption|(simp at h;done)
theorem eq_cell {t:TypeId} {e:EK} {x y:CV} {u v:Value} {b:Bool} (he:ekOf P t=some e) (h:eqCell e x y=some b) (hx:RC E G x u) (hy:RC E G y v):(Op.equalIn 9999 t u v).run P w = .ok b w:=by
 show (Op.equalIn (9998+1) t u v).run P w = .ok b w
 cases e with
 | int=>
  obtain ⟨k,hu⟩:=ek_int he
  cases x <;> cases y <;> simp [eqCell] at h
  obtain ⟨rfl,rfl⟩:=h
  simp only [RC] at hx hy
  subst hx hy
  rw [Op.equalIn];simp only [Sem.run_bind,run_und hu,Result.andThen_ok,if_true,Sem.run_pure]
 | bool=>
  have hu:=ek_bool he
  cases x <;> cases y <;> simp [eqCell] at h
  subst h
  simp only [RC] at hx hy
  subst hx hy
  rw [Op.equalIn];simp only [Sem.run_bind,run_und hu,Result.andThen_ok,if_true,Sem.run_pure]
 | str=>
  have hu:=ek_str he
  cases x <;> cases y <;> simp [eqCell] at h
  subst h
  simp only [RC] at hx hy
  subst hx hy
  rw [Op.equalIn];simp only [Sem.run_bind,run_und hu,Result.andThen_ok,if_true,Sem.run_pure]
theorem eq_loop {xs ys:Array Value} {cs ds:List CV} (hx:RL E G cs xs.toList) (hy:RL E G ds ys.toList):∀ (fs:List Field) (es:List EK) (off:Nat) (b:Bool),eqFields P off fs=some es→eqCells es (cs.drop off) (ds.drop off)=some b→
 (forIn fs ((none:Option Bool),()) fun (f:Field) __s=>
  if f.name ≠ "_" then do
   let __do_lift ←part f.type xs f.offset
   let __do_lift_1 ←part f.type ys f.offset
   let __do_lift ←Op.equalIn 9999 f.type __do_lift __do_lift_1
   if (!__do_lift)=true then pure (ForInStep.done (some false,()))
    else pure (ForInStep.yield (none,()))
  else pure (ForInStep.yield ((none:Option Bool),()))).run P w = .ok (if b then (none,()) else (some false,())) w
 | [],es,off,b,hf,h=>by
  simp only [eqFields,Option.some.injEq] at hf
  subst hf
  have:b=true:=by
   unfold eqCells at h
   split at h <;> simp_all
  subst this
  simp only [List.forIn_nil,Sem.run_pure,if_true]
 | f::fs,es,off,b,hf,h=>by
  unfold eqFields at hf
  split at hf
  ·rename_i hc
   obtain ⟨hn,ho,hs⟩:=hc
   simp only [Option.bind_eq_some_iff,Option.map_eq_some_iff] at hf
   obtain ⟨e,he,es',hes,rfl⟩:=hf
   cases hcx:cs.drop off with
   | nil=>rw [hcx] at h;simp [eqCells] at h
   | cons x cs'=>cases hdx:ds.drop off with
    | nil=>rw [hcx,hdx] at h;simp [eqCells] at h
    | cons y ds'=>
     rw [hcx,hdx] at h
     simp only [eqCells,Option.bind_eq_some_iff] at h
     obtain ⟨r,hr,h⟩:=h
     have gx:cs[off]? = some x:=by have:=congrArg (·[0]?) hcx;simpa using this
     have gy:ds[off]? = some y:=by have:=congrArg (·[0]?) hdx;simpa using this
     obtain ⟨u,hu,ru⟩:=part_ok (P:=P) (w:=w) (off:=off) hs hx (v:=.c x) (by simp [takeCells,gx])
     obtain ⟨v,hv,rv⟩:=part_ok (P:=P) (w:=w) (off:=off) hs hy (v:=.c y) (by simp [takeCells,gy])
     simp only [RA] at ru rv
     have hq:=eq_cell (w:=w) he hr ru rv
     have tx:cs.drop (off+1)=cs':=by rw [←List.drop_drop,hcx];rfl
     have ty:ds.drop (off+1)=ds':=by rw [←List.drop_drop,hdx];rfl
     rw [List.forIn_cons]
     simp only [hn,ne_eq,not_false_eq_true,if_true,ho,Sem.run_bind,hu,hv,hq,Result.andThen_ok]
     cases r with
     | true=>
      simp only [if_true] at h
      simp only [Bool.not_true,Bool.false_eq_true,if_false,Sem.run_pure,Result.andThen_ok]
      exact eq_loop hx hy fs es' (off+1) b hes (by rw [tx,ty];exact h)
     | false=>
      simp only [Bool.false_eq_true,if_false,Option.some.injEq] at h
      subst h
      simp only [Bool.not_false,if_true,Sem.run_pure,Result.andThen_ok,Bool.false_eq_true,if_false]
  ·cases hf
theorem equal_flat {t:TypeId} {fs:Array Field} {xs ys:Array Value} {cs ds:List CV} {es:List EK} {b:Bool} (hu:P.underlying t=some (.struct fs)) (hs:P.stoodInHeld t=false) (hf:eqFields P 0 fs.toList=some es)
 (hx:RL E G cs xs.toList) (hy:RL E G ds ys.toList) (h:eqCells es cs ds=some b):(Op.equal t (.agg xs) (.agg ys)).run P w = .ok b w:=by
 rw [eq_step,Op.equalIn]
 simp only [Sem.run_bind,run_und hu,Result.andThen_ok,Sem.run_pure,run_program,hs,Bool.false_eq_true,if_false]
 rw [←Array.forIn_toList,eq_loop (E:=E) (G:=G) hx hy fs.toList es 0 b hf (by simpa using h)]
 cases b <;> simp
theorem stOf_st {t:TypeId} {fs:Array Field} {l:List EK} (h:stOf P t fs = .st l):P.stoodInHeld t=false∧P.eqGuardType P.depth t=false∧eqFields P 0 fs.toList=some l:=by
 unfold stOf at h
 split at h
 ·rename_i hc
  split at h
  ·rename_i e
   simp only [TK.st.injEq] at h
   subst h
   exact ⟨hc.1,hc.2,e⟩
  ·cases h
 ·cases h
theorem tkOf_st {t:TypeId} {l:List EK} (h:tkOf P t = .st l):∃ fs,P.underlying t=some (.struct fs)∧P.stoodInHeld t=false∧P.eqGuardType P.depth t=false∧eqFields P 0 fs.toList=some l:=by
 unfold tkOf at h
 split at h <;> first|(cases h;done)|skip
 exact ⟨_,by assumption,stOf_st h⟩
theorem run_eqGuardA {op:BinOp} {t:TypeId} {x y:Operand} {cs ds:Array Value} (h:P.eqGuardType P.depth t=false):(eqGuard op t x y (.agg cs) (.agg ds)).run P w = .ok () w:=by
 unfold eqGuard
 cases op <;> simp [Sem.run_bind,run_program,h]
theorem op_bin (ht:RTm E G m s.tm a.tmps) {op:BinOp} {t t':TypeId} {x y:Operand} {nx ny:NX} (ho:o.op = .binOp op t x y t') (hx:compX E.rn x=some nx) (hy:compX E.rn y=some ny)
 (hn:nop call orc s (.bin op (tkOf P t) nx ny)=some q):PureOk P E G m s a w o q:=by
 simp only [nop,Option.bind_eq_some_iff,Option.map_eq_some_iff] at hn
 obtain ⟨cx,hcx,cy,hcy,c,hc,rfl⟩:=hn
 have rx:=(asV_rel hcx (compX_rel ht hx)).1
 have ry:=(asV_rel hcy (compX_rel ht hy)).1
 unfold binV at hc
 split at hc
 ·simp only [RA] at rx ry
  exact op_binC ho rx ry hc
 ·simp only [RA] at rx ry
  obtain ⟨vs,ex,lx⟩:=rx
  obtain ⟨us,ey,ly⟩:=ry
  simp only [Option.bind_eq_some_iff] at hc
  obtain ⟨b,hb,hc⟩:=hc
  unfold stEq at hb
  split at hb
  ·rename_i l _ _ hk
   obtain ⟨fs,hu,hs,hg,hf⟩:=tkOf_st hk
   have he:=equal_flat (E:=E) (G:=G) (w:=w) hu hs hf lx ly hb
   rcases isEq_cases hc with ⟨rfl,rfl⟩|⟨rfl,rfl⟩
   ·refine ⟨.bool b,?_,rfl,rfl,by simp [RT,RA,RC]⟩
    simp [execOp,ho,ex,ey,run_eqGuardA hg,binOp,he]
   ·refine ⟨.bool !b,?_,rfl,rfl,by simp [RT,RA,RC]⟩
    simp [execOp,ho,ex,ey,run_eqGuardA hg,binOp,he]
  ·cases hb
 ·cases hc
end
end
end Camp
