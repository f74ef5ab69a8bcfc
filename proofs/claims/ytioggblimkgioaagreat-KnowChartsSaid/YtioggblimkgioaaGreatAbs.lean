/- A part of the layer of abstract values: the program is read into steps over values, each step is sound, and a walk over the steps is a proof of the program. No condition. -/
import Derived.WalkKit
import Derived.Laws.StructEq
import Derived.IntWalk
import Derived.OrdersIn
import Derived.RangeFuncLeaves
import Derived.RangeFuncRecord
import Derived.RangeFuncSeq
import Derived.OwnWalkIn
set_option linter.unusedVariables false
set_option linter.unusedSimpArgs false
namespace Go.Abs
inductive Tag where
 | non | full | own (i g:Nat)
inductive AV where
 | junk
 | int (k:IntKind) (n:Int)
 | bool (b:Bool)
 | str (s:ByteArray)
 | nsl | npt | nfn | nif | nmp
 | slc (sz:Nat) (es:List (List AV)) (tg:Tag)
 | msl (i g n sz:Nat)
 | pin (cells:List AV)
 | ref (i g off:Nat)
 | agg (cells:List AV)
 | tup (vs:List AV)
 | clo (fn:Fn) (first captured:List AV)
 | ifc (t:TypeId) (v:AV)
 | map (i g:Nat)
 | fmp (ks vs:List AV)
 | itr (i g:Nat)
 | mpv (ks vs:List AV)
 | itv (cur ks vs:List AV)
 | sub (i g off n sz:Nat)
instance:Inhabited AV:=⟨.junk⟩
def entsV:Nat→List Value→List Value→List MapEntry
 | n,k::ks,v::vs=>{key:=k,val:=v,born:=n }::entsV (n+1) ks vs
 | _,_,_=>[]
def mapObj(ks vs:List Value):Obj:= .map (entsV 0 ks vs).toArray ks.length
def encM(ks vs:List Value):Value:= .tuple #[.tuple ks.toArray,.tuple vs.toArray]
structure GS where
 K:Nat→Nat→Option Value
 m:Nat→Nat→Option (Nat×Nat×Nat)
structure GS.le (G G':GS):Prop where
 K:∀b o v,G.K b o=some v→G'.K b o=some v
 m:∀i g x,G.m i g=some x→G'.m i g=some x
def GS.pure(K:Nat→Nat→Option Value):GS:=⟨K,fun _ _=>none⟩
theorem GS.pure_le(G:GS):(GS.pure G.K).le G:=⟨fun _ _ _ h=>h,fun _ _ _ h=>by cases h⟩
theorem GS.pure_mono{G G':GS}(h:G.le G'):(GS.pure G.K).le (GS.pure G'.K):=⟨h.K,fun _ _ _ h=>h⟩
def Tag.ok(G:GS)(b o sz n cap:Nat):Tag→Prop
 | .non=>True
 | .full=>cap=n
 | .own i g=>G.m i g=some (b,o+n*sz,o+cap*sz)∨cap=n
def Nil0(tg:Tag)(v:Value):Prop:=v= .slice none 0 0∨ ∃a cap,v= .slice (some a) 0 cap∧(cap=0∨tg= .non)
theorem Nil0.nil{tg:Tag}:Nil0 tg (.slice none 0 0):= .inl rfl
theorem Nil0.weak{tg:Tag}{v:Value}(h:Nil0 tg v):Nil0 .non v:=h.imp id fun⟨a,cap,h1,_⟩=>⟨a,cap,h1,.inr rfl⟩
theorem Nil0.own{i g:Nat}{tg:Tag}{v:Value}(h:Nil0 (.own i g) v):Nil0 tg v:=h.imp id fun⟨a,cap,h1,h2⟩=>⟨a,cap,h1,.inl (h2.resolve_right fun e=>by cases e)⟩
theorem Nil0.full{v:Value}(h:Nil0 .full v):v= .slice none 0 0∨ ∃a,v= .slice (some a) 0 0:=h.imp id fun⟨a,cap,h1,h2⟩=>⟨a,by rw[h1,h2.resolve_right fun e=>by cases e]⟩
theorem Nil0.owned{i g:Nat}{v:Value}(h:Nil0 (.own i g) v):v= .slice none 0 0∨ ∃a,v= .slice (some a) 0 0:=h.imp id fun⟨a,cap,h1,h2⟩=>⟨a,by rw[h1,h2.resolve_right fun e=>by cases e]⟩
mutual
def Rel(G:GS):AV→Value→Prop
 | .junk,_=>True
 | .int k n,v=>v= .int k n
 | .bool b,v=>v= .bool b
 | .str s,v=>v= .string s
 | .nsl,v=>v= .slice none 0 0
 | .npt,v=>v= .pointer none
 | .nfn,v=>v= .nilFunc
 | .nif,v=>v= .nilIface
 | .nmp,v=>v= .map none
 | .slc sz es tg,v=>(Nil0 tg v∧es=[])∨
    ∃b o cap,v= .slice (some ⟨b,o,none⟩) es.length cap∧es.length≤cap∧RelRows G b o sz es∧tg.ok G b o sz es.length cap
 | .msl i g n sz,v=>∃b cap,v= .slice (some ⟨b,0,none⟩) n cap∧n≤cap∧G.m i g=some (b,0,cap*sz)
 | .pin cells,v=>∃b o,v= .pointer (some ⟨b,o,none⟩)∧RelRow G b o cells
 | .ref i g off,v=>∃b lim,v= .pointer (some ⟨b,off,none⟩)∧G.m i g=some (b,0,lim)
 | .agg cells,v=>∃vs:Array Value,v= .agg vs∧RelL G cells vs.toList
 | .tup cells,v=>∃vs:Array Value,v= .tuple vs∧RelL G cells vs.toList
 | .clo fn first captured,v=>∃f c:Array Value,v= .func fn f c∧RelL G first f.toList∧RelL G captured c.toList
 | .ifc t x,v=>∃y,v= .iface t y∧Rel G x y
 | .map i g,v=>∃b,v= .map (some b)∧G.m i g=some (b,1,0)
 | .fmp aks avs,v=>∃b ks vs,v= .map (some b)∧G.K b 0=some (encM ks vs)∧RelL (GS.pure G.K) aks ks∧RelL (GS.pure G.K) avs vs
 | .itr i g,v=>∃b,v= .pointer (some ⟨b,0,none⟩)∧G.m i g=some (b,1,0)
 | .mpv _ _,_=>False
 | .itv _ _ _,_=>False
 | .sub i g off n _,v=>∃b o cap lim,v= .slice (some ⟨b,o,none⟩) n cap∧n≤cap∧G.m i g=some (b,0,lim)∧(n=0∨o=off)
def RelRow(G:GS)(b o:Nat):List AV→Prop
 | []=>True
 | a::as=>(∃v,G.K b o=some v∧v.oneCell'=true∧Rel (GS.pure G.K) a v)∧RelRow G b (o+1) as
def RelRows(G:GS)(b o sz:Nat):List (List AV)→Prop
 | []=>True
 | e::es=>e.length=sz∧RelRow G b o e∧RelRows G b (o+sz) sz es
def RelL(G:GS):List AV→List Value→Prop
 | [],vs=>vs=[]
 | a::as,vs=>∃v r,vs=v::r∧Rel G a v∧RelL G as r
end
theorem Tag.ok_mono{G G':GS}(h:G.le G'){b o sz n cap:Nat}:∀{t:Tag},t.ok G b o sz n cap→t.ok G' b o sz n cap
 | .non,_=>trivial
 | .full,h=>h
 | .own _ _,hh=>hh.imp (h.m _ _ _) id
mutual
theorem Rel.mono{G G':GS}(h:G.le G'):∀{a:AV} {v:Value},Rel G a v→Rel G' a v
 | .junk,_,_=>trivial
 | .int _ _,_,hh=>hh
 | .bool _,_,hh=>hh
 | .str _,_,hh=>hh
 | .nsl,_,hh=>hh
 | .npt,_,hh=>hh
 | .nfn,_,hh=>hh
 | .nif,_,hh=>hh
 | .nmp,_,hh=>hh
 | .slc _ _ _,_,.inl hh=> .inl hh
 | .slc _ _ _,_,.inr ⟨b,o,cap,h1,h2,h3,h4⟩=> .inr ⟨b,o,cap,h1,h2,RelRows.mono h h3,Tag.ok_mono h h4⟩
 | .msl _ _ _ _,_,⟨b,cap,h1,h2,h3⟩=>⟨b,cap,h1,h2,h.m _ _ _ h3⟩
 | .pin _,_,⟨b,o,h1,h2⟩=>⟨b,o,h1,RelRow.mono h h2⟩
 | .ref _ _ _,_,⟨b,lim,h1,h2⟩=>⟨b,lim,h1,h.m _ _ _ h2⟩
 | .agg _,_,⟨vs,h1,h2⟩=>⟨vs,h1,RelL.mono h h2⟩
 | .tup _,_,⟨vs,h1,h2⟩=>⟨vs,h1,RelL.mono h h2⟩
 | .clo _ _ _,_,⟨f,c,h1,h2,h3⟩=>⟨f,c,h1,RelL.mono h h2,RelL.mono h h3⟩
 | .ifc _ _,_,⟨y,h1,h2⟩=>⟨y,h1,Rel.mono h h2⟩
 | .map _ _,_,⟨b,h1,h2⟩=>⟨b,h1,h.m _ _ _ h2⟩
 | .fmp _ _,_,⟨b,ks,vs,h1,h2,h3,h4⟩=>⟨b,ks,vs,h1,h.K _ _ _ h2,RelL.mono (GS.pure_mono h) h3,RelL.mono (GS.pure_mono h) h4⟩
 | .itr _ _,_,⟨b,h1,h2⟩=>⟨b,h1,h.m _ _ _ h2⟩
 | .mpv _ _,_,hh=>hh.elim
 | .itv _ _ _,_,hh=>hh.elim
 | .sub _ _ _ _ _,_,⟨b,o,cap,lim,h1,h2,h3,h4⟩=>⟨b,o,cap,lim,h1,h2,h.m _ _ _ h3,h4⟩
theorem RelRow.mono{G G':GS}(h:G.le G'){b:Nat}:∀{o:Nat} {l:List AV},RelRow G b o l→RelRow G' b o l
 | _,[],_=>trivial
 | _,_::_,⟨⟨v,h1,hv,h2⟩,h3⟩=>⟨⟨v,h.K _ _ _ h1,hv,Rel.mono (GS.pure_mono h) h2⟩,RelRow.mono h h3⟩
theorem RelRows.mono{G G':GS}(h:G.le G'){b sz:Nat}:∀{o:Nat} {l:List (List AV)},RelRows G b o sz l→RelRows G' b o sz l
 | _,[],_=>trivial
 | _,_::_,⟨h1,h2,h3⟩=>⟨h1,RelRow.mono h h2,RelRows.mono h h3⟩
theorem RelL.mono{G G':GS}(h:G.le G'):∀{l:List AV} {vs:List Value},RelL G l vs→RelL G' l vs
 | [],_,hh=>hh
 | _::_,_,⟨v,r,h1,h2,h3⟩=>⟨v,r,h1,Rel.mono h h2,RelL.mono h h3⟩
end
end Go.Abs
namespace Go.Abs
inductive Res where
 | dead
 | row (c:List AV)
 | yld (l:Nat) (s:Option (List (List AV)))
abbrev Sig:=Nat→Nat×Res
structure AS where
 env:Nat→AV
 σ:Sig
def upd{α:Type}(f:Nat→α)(i:Nat)(v:α):Nat→α:=fun j=>match Nat.beq j i with
 | true=>v
 | false=>f j
inductive IOpd where
 | t (n:Nat)
 | k (a:AV)
def IOpd.ev(e:Nat→AV):IOpd→AV
 | .t n=>e n
 | .k a=>a
inductive FK where
 | i | s | b
inductive EqK where
 | bool | slice | ptr | func | map
 | flat (ks:List FK)
inductive KK where
 | i | s
 | flat (ks:List FK)
inductive IOp where
 | mov (x:IOpd)
 | pick (c a b:IOpd)
 | bin (op:BinOp) (x y:IOpd)
 | eqn (kd:EqK) (neg:Bool) (x y:IOpd)
 | not (x:IOpd)
 | neg (x:IOpd)
 | len (str:Bool) (x:IOpd)
 | ixA (sz:Nat) (x i:IOpd)
 | ixAr (n sz:Nat) (x i:IOpd)
 | ixV (n sz:Nat) (agg:Bool) (x i:IOpd)
 | ixS (x i:IOpd)
 | flA (off:Nat) (x:IOpd)
 | fl (off sz:Nat) (agg:Bool) (x:IOpd)
 | ld (sz:Nat) (agg:Bool) (x:IOpd)
 | st (sz:Nat) (x v:IOpd)
 | new (zero:List AV)
 | box (sz:Nat) (v:IOpd)
 | bld (zero:List AV) (parts:List (Nat×Nat×IOpd))
 | bsl (sz:Nat) (rows:List (List AV)) (parts:List (Nat×IOpd))
 | mks (sz bytes:Nat) (zero:List AV) (len cap:IOpd)
 | bsm (sz:Nat) (rows:List (List AV)) (parts:List (Nat×IOpd))
 | slS (sz:Nat) (x:IOpd) (lo hi mx:Option IOpd)
 | slT (x:IOpd) (lo hi:Option IOpd)
 | nck (x:IOpd)
 | cvI (k:IntKind) (x:IOpd)
 | cvSB (x:IOpd)
 | cvBS (x:IOpd)
 | ext (i:Nat) (x:IOpd)
 | mkf (fn:Fn) (first caps:List IOpd)
 | app (sz bytes:Nat) (x y:IOpd) (site:Nat)
 | apm (sz bytes:Nat) (x y:IOpd) (site:Nat)
 | apz (sz bytes:Nat) (x y:IOpd)
 | nil (sz site:Nat)
 | kil (site:Nat)
 | mkm
 | mup (kk:KK) (m k v:IOpd)
 | men (kk:KK) (zero:AV) (m k:IOpd)
 | mst (m s v:IOpd)
 | mlk (kk:KK) (zero:AV) (ok:Bool) (m k:IOpd)
 | rng (m:IOpd)
 | nxt (x:IOpd)
 | nlq (x:IOpd)
 | ent (x:IOpd)
 | mln (m:IOpd)
 | chk (sz:Nat) (agg:Bool) (x:IOpd) (t:Nat)
 | mxi (isMax:Bool) (x y:IOpd)
 | mx3 (isMax:Bool) (x y z:IOpd)
 | cpy (sz:Nat) (x y:IOpd)
 | bad
 | callF (f:Nat) (args:List IOpd)
 | callV (x:IOpd) (args:List IOpd)
structure IStep where
 dst:Option Nat
 g:Option (Nat×Bool)
 op:IOp
inductive IR where
 | skip
 | ops (l:List IStep)
 | seq (a b:IR)
 | cnd (c:IOpd) (a b:IR)
 | blk (id:Nat) (b:IR)
 | loop (b:IR)
 | scope (b:IR)
 | exit (id:Nat)
 | ret
 | rf (f:IOpd) (params:List Nat) (assign body:IR)
 | frz (x:IOpd)
 | mve (x:IOpd)
 | alt (a b:IR)
inductive AX where
 | nor | ex (id:Nat) | ret
def kix:IntKind→Nat
 | .i8=>0 | .i16=>1 | .i32=>2 | .i64=>3 | .u8=>4 | .u16=>5 | .u32=>6 | .u64=>7
def inI(n:Int):Prop:= -9223372036854775808≤n∧n≤9223372036854775807
def forceA:AV→Option AV
 | .junk=>some .junk
 | .int k n=>some (.int k n)
 | .bool b=>some (.bool b)
 | .str s=>some (.str s)
 | .nsl=>some .nsl
 | .npt=>some .npt
 | .nfn=>some .nfn
 | .nif=>some .nif
 | .nmp=>some .nmp
 | .slc sz es tg=>some (.slc sz es tg)
 | .msl i g n sz=>some (.msl i g n sz)
 | .pin c=>some (.pin c)
 | .ref i g o=>some (.ref i g o)
 | .agg c=>some (.agg c)
 | .tup c=>some (.tup c)
 | .clo f a b=>some (.clo f a b)
 | .ifc t v=>some (.ifc t v)
 | .map i g=>some (.map i g)
 | .fmp a b=>some (.fmp a b)
 | .itr i g=>some (.itr i g)
 | .sub i g o n s=>some (.sub i g o n s)
 | .mpv _ _=>none
 | .itv _ _ _=>none
abbrev OV:=Option (Prop×AV)
def okV(v:AV):OV:=some (True,v)
def liftV:Option AV→OV
 | some v=>some (True,v)
 | none=>none
def pickO:AV→AV→AV→OV
 | .bool c,a,b=>match a,b with
   | .bool x,.bool y=>okV (.bool (match c with | true=>x | false=>y))
   | a,b=>match c with
     | true=>liftV (forceA a)
     | false=>liftV (forceA b)
 | _,_,_=>none
def bitV(op:BinOp)(k:IntKind)(x y:Int):Int:=
 let a:=BitVec.ofInt k.bits x
 let b:=BitVec.ofInt k.bits y
 match op with
 | .and=>k.wrap (a &&& b).toNat
 | .or=>k.wrap (a ||| b).toNat
 | .xor=>k.wrap (a^^^b).toNat
 | _=>k.wrap (a &&& ~~~b).toNat
def fitV(k:IntKind)(c:Prop)(n:Int):OV:=match k with
 | .i64=>some (c∧inI n,.int .i64 n)
 | k=>some (c,.int k (k.wrap n))
def intO(op:BinOp)(k:IntKind)(a:Int)(k':IntKind)(b:Int):OV:=
 match op with
 | .shl=>fitV k (0≤b) (a*2^(min b.toNat k.bits))
 | .shr=>some (0≤b,.int k (a.fdiv (2^(min b.toNat k.bits))))
 | op=>match Nat.beq (kix k) (kix k') with
   | false=>none
   | true=>match op with
     | .add=>fitV k True (a+b)
     | .sub=>fitV k True (a-b)
     | .mul=>fitV k True (a*b)
     | .quo=>fitV k (b≠0) (a.tdiv b)
     | .rem=>some (b≠0,.int k (a.tmod b))
     | .and=>okV (.int k (bitV .and k a b))
     | .or=>okV (.int k (bitV .or k a b))
     | .xor=>okV (.int k (bitV .xor k a b))
     | .andNot=>okV (.int k (bitV .andNot k a b))
     | .eql=>okV (.bool (decide (a=b)))
     | .neq=>okV (.bool (decide (a≠b)))
     | .lss=>okV (.bool (decide (a<b)))
     | .leq=>okV (.bool (decide (a≤b)))
     | .gtr=>okV (.bool (decide (b<a)))
     | .geq=>okV (.bool (decide (b≤a)))
     | _=>none
def strO(op:BinOp)(a b:ByteArray):OV:=
 match op with
 | .add=>some (a.size+b.size≤9223372036854775807,.str (a++b))
 | .eql=>okV (.bool (decide (a=b)))
 | .neq=>okV (.bool (decide (a≠b)))
 | .lss=>okV (.bool (Op.bytesLess a.data.toList b.data.toList))
 | _=>none
def binO(op:BinOp):AV→AV→OV
 | .int k a,.int k' b=>intO op k a k' b
 | .str a,.str b=>strO op a b
 | _,_=>none
def negB(n:Bool)(b:Bool):Bool:=match n with
 | true=>!b
 | false=>b
def eqB(n b:Bool):AV:=match n with
 | true=>(match b with
   | true=> .bool false
   | false=> .bool true)
 | false=>(match b with
   | true=> .bool true
   | false=> .bool false)
theorem eqB_eq(n b:Bool):eqB n b= .bool (negB n b):=by cases n<;>cases b<;>rfl
def eqAg:List FK→List AV→List AV→Option Bool
 | [],[],[]=>some true
 | .i::ks,.int k a::xs,.int k' b::ys=>match Nat.beq (kix k) (kix k') with
   | true=>(match eqAg ks xs ys with
     | some r=>some (decide (a=b) && r)
     | none=>none)
   | false=>none
 | .s::ks,.str a::xs,.str b::ys=>(match eqAg ks xs ys with
   | some r=>some (decide (a=b) && r)
   | none=>none)
 | .b::ks,.bool a::xs,.bool b::ys=>(match eqAg ks xs ys with
   | some r=>some ((a == b) && r)
   | none=>none)
 | _,_,_=>none
def negV(n:Bool)(r:Bool):OV:=match n with
 | true=>okV (.bool !r)
 | false=>okV (.bool r)
def eqnO(kd:EqK)(n:Bool):AV→AV→OV
 | .bool a,.bool b=>match kd with | .bool=>okV (.bool (negB n (a == b))) | _=>none
 | .nsl,.nsl=>match kd with | .slice=>okV (eqB n true) | _=>none
 | .slc _ es _,.nsl=>match kd with | .slice=>some (es≠[],eqB n false) | _=>none
 | .nsl,.slc _ es _=>match kd with | .slice=>some (es≠[],eqB n false) | _=>none
 | .npt,.npt=>match kd with | .ptr=>okV (eqB n true) | _=>none
 | .ref _ _ _,.npt=>match kd with | .ptr=>okV (eqB n false) | _=>none
 | .pin _,.npt=>match kd with | .ptr=>okV (eqB n false) | _=>none
 | .nfn,.nfn=>match kd with | .func=>okV (eqB n true) | _=>none
 | .clo _ _ _,.nfn=>match kd with | .func=>okV (eqB n false) | _=>none
 | .agg xs,.agg ys=>match kd with
   | .flat ks=>(match eqAg ks xs ys with
     | some r=>negV n r
     | none=>none)
   | _=>none
 | _,_=>none
def notO:AV→OV
 | .bool b=>okV (.bool !b)
 | _=>none
def negO:AV→OV
 | .int k n=>fitV k True (0-n)
 | _=>none
def lenO(str:Bool):AV→OV
 | .nsl=>match str with | false=>okV (.int .i64 0) | true=>none
 | .slc _ es _=>match str with | false=>okV (.int .i64 es.length) | true=>none
 | .msl _ _ n _=>match str with | false=>okV (.int .i64 n) | true=>none
 | .sub _ _ _ n _=>match str with | false=>okV (.int .i64 n) | true=>none
 | .str s=>match str with | true=>okV (.int .i64 s.size) | false=>none
 | _=>none
def ixAO(sz:Nat):AV→AV→OV
 | .slc sz' es _,.int _ i=>some (sz'=sz∧0≤i∧i<es.length,.pin (es.getD i.toNat []))
 | .msl i' g n sz',.int _ i=>some (sz'=sz∧0≤i∧i<n,.ref i' g (i.toNat*sz))
 | .sub i' g off n sz',.int _ i=>some (sz'=sz∧0≤i∧i<n,.ref i' g (off+i.toNat*sz))
 | _,_=>none
def ixArO(n sz:Nat):AV→AV→OV
 | .ref i' g off,.int _ i=>some (0≤i∧i<n,.ref i' g (off+i.toNat*sz))
 | .pin cells,.int _ i=>some (0≤i∧i<n∧i.toNat*sz≤cells.length,.pin (cells.drop (i.toNat*sz)))
 | _,_=>none
def partO(off sz:Nat)(agg:Bool)(cells:List AV):OV:=match agg with
 | true=>some (off+sz≤cells.length,.agg ((cells.drop off).take sz))
 | false=>match cells[off]? with
   | some v=>liftV (forceA v)
   | none=>none
def ixVO(n sz:Nat)(agg:Bool):AV→AV→Option (Prop×Prop×AV)
 | .agg cells,.int _ i=>match partO (i.toNat*sz) sz agg cells with
   | some (c,v)=>some (0≤i∧i<n,c,v)
   | none=>none
 | _,_=>none
def ixSO:AV→AV→OV
 | .str s,.int _ i=>some (0≤i∧i<s.size,.int .u8 (s.data.toList.getD i.toNat 0).toNat)
 | _,_=>none
def flAO(off:Nat):AV→OV
 | .ref i g o=>okV (.ref i g (o+off))
 | .pin cells=>some (off≤cells.length,.pin (cells.drop off))
 | _=>none
def flO(off sz:Nat)(agg:Bool):AV→OV
 | .agg cells=>partO off sz agg cells
 | _=>none
def ldO(sz:Nat)(agg:Bool)(σ:Sig):AV→OV
 | .pin cells=>partO 0 sz agg cells
 | .ref i g off=>match σ i with
   | (g',.row c)=>match partO off sz agg c with
     | some (p,v)=>some (g=g'∧p,v)
     | none=>none
   | _=>none
 | _=>none
def AV.scal:AV→Bool
 | .junk | .agg _ | .tup _ | .mpv _ _ | .itv _ _ _=>false
 | _=>true
def cellsO(sz:Nat):AV→Option (Prop×List AV)
 | .agg cs=>some (cs.length=sz∧cs.all AV.scal=true,cs)
 | .int k n=>some (sz=1,[.int k n])
 | .bool b=>some (sz=1,[.bool b])
 | .str s=>some (sz=1,[.str s])
 | .nsl=>some (sz=1,[.nsl])
 | .npt=>some (sz=1,[.npt])
 | .nfn=>some (sz=1,[.nfn])
 | .nif=>some (sz=1,[.nif])
 | .nmp=>some (sz=1,[.nmp])
 | .slc a b c=>some (sz=1,[.slc a b c])
 | .msl a b c d=>some (sz=1,[.msl a b c d])
 | .pin c=>some (sz=1,[.pin c])
 | .ref a b c=>some (sz=1,[.ref a b c])
 | .clo a b c=>some (sz=1,[.clo a b c])
 | .ifc a b=>some (sz=1,[.ifc a b])
 | .map a b=>some (sz=1,[.map a b])
 | .fmp a b=>some (sz=1,[.fmp a b])
 | .itr a b=>some (sz=1,[.itr a b])
 | .sub a b c d e=>some (sz=1,[.sub a b c d e])
 | _=>none
def setL{α:Type}(c:List α)(off:Nat):List α→List α
 | []=>c
 | x::xs=>setL (c.set off x) (off+1) xs
def stO(sz:Nat)(σ:Sig)(v:AV):AV→Option (Prop×AV×Sig)
 | .ref i g off=>match cellsO sz v,σ i with
   | some (p,cs),(g',.row c)=>some (g=g'∧p∧off+sz≤c.length,.junk,upd σ i (g,.row (setL c off cs)))
   | _,_=>none
 | _=>none
def bldO(e:Nat→AV):List AV→List (Nat×Nat×IOpd)→Option (Prop×List AV)
 | c,[]=>some (True,c)
 | c,(off,sz,x)::r=>match cellsO sz (x.ev e) with
   | some (p,cs)=>match bldO e (setL c off cs) r with
     | some (q,c')=>some (p∧off+sz≤c.length∧q,c')
     | none=>none
   | none=>none
def Tag.strip:Tag→Tag
 | .own _ _=> .non
 | t=>t
mutual
def AV.strip:AV→AV
 | .slc sz es t=> .slc sz es t.strip
 | .msl _ _ _ _=> .junk
 | .ref _ _ _=> .junk
 | .agg c=> .agg (stripL c)
 | .tup c=> .tup (stripL c)
 | .clo f a b=> .clo f (stripL a) (stripL b)
 | .ifc t v=> .ifc t v.strip
 | .map _ _=> .junk
 | .itr _ _=> .junk
 | .sub _ _ _ _ _=> .junk
 | a=>a
def stripL:List AV→List AV
 | []=>[]
 | a::r=>a.strip::stripL r
end
def AV.norm:AV→AV
 | .slc sz es _=> .slc sz es .non
 | a=>a.strip
def normL(l:List AV):List AV:=l.map AV.norm
def bslO(e:Nat→AV)(sz:Nat):List (List AV)→List (Nat×IOpd)→Option (Prop×List (List AV))
 | c,[]=>some (True,c)
 | c,(i,x)::r=>match cellsO sz (x.ev e) with
   | some (p,cs)=>match bslO e sz (c.set i (normL cs)) r with
     | some (q,c')=>some (p∧i<c.length∧q,c')
     | none=>none
   | none=>none
def bsmO(e:Nat→AV)(sz:Nat):List (List AV)→List (Nat×IOpd)→Option (Prop×List (List AV))
 | c,[]=>some (True,c)
 | c,(i,x)::r=>match cellsO sz (x.ev e) with
   | some (p,cs)=>match bsmO e sz (c.set i cs) r with
     | some (q,c')=>some (p∧i<c.length∧q,c')
     | none=>none
   | none=>none
def rowsO(sz:Nat):AV→Option (Prop×List (List AV))
 | .nsl=>some (True,[])
 | .slc sz' es _=>some (sz'=sz,es)
 | _=>none
def baseO(sz:Nat)(σ:Sig):AV→Option (Prop×List (List AV)×Sig)
 | .nsl=>some (True,[],σ)
 | .slc sz' es .full=>some (sz'=sz,es,σ)
 | .slc sz' es (.own i g)=>match σ i with
   | (g',.row c)=>some (g=g'∧c=[]∧sz'=sz,es,upd σ i (g,.dead))
   | _=>none
 | _=>none
def baseM(sz:Nat)(σ:Sig):AV→Option (Prop×Nat×List AV×Sig)
 | .nsl=>some (True,0,[],σ)
 | .slc sz' [] .full=>some (sz'=sz,0,[],σ)
 | .msl i g n sz'=>match σ i with
   | (g',.row c)=>some (g=g'∧sz'=sz∧c.length=n*sz,n,c,upd σ i (g,.dead))
   | _=>none
 | _=>none
def rowsM(sz:Nat)(σ:Sig):AV→Option (Prop×Nat×List AV)
 | .msl i g n sz'=>match σ i with
   | (g',.row c)=>some (g=g'∧sz'=sz∧n*sz≤c.length∧c.length=n*sz∧c.all AV.scal=true∧0<n,n,c)
   | _=>none
 | _=>none
def dstV:AV→Option (Nat×Nat×Nat×Nat×Nat)
 | .msl i g n sz=>some (i,g,0,n,sz)
 | .sub i g off n sz=>some (i,g,off,n,sz)
 | _=>none
def srcO(sz:Nat)(σ:Sig):AV→Option (Prop×Nat×List AV)
 | .nsl=>some (True,0,[])
 | .slc sz' es _=>some (sz'=sz,es.length,es.flatten)
 | .msl i g n sz'=>match σ i with
   | (g',.row c)=>some (g=g'∧sz'=sz∧n*sz≤c.length,n,c)
   | _=>none
 | .sub i g off n sz'=>match σ i with
   | (g',.row c)=>some (g=g'∧sz'=sz∧off+n*sz≤c.length,n,c.drop off)
   | _=>none
 | _=>none
def cpyO(sz:Nat)(σ:Sig)(x y:AV):Option (Prop×AV×Sig):=match dstV x with
 | some (i,g,off,n,sz')=>match σ i with
   | (g',.row c)=>match srcO sz σ y with
     | some (p,m,src)=>some (p∧g=g'∧sz'=sz∧off+n*sz≤c.length∧(src.take (min m n*sz)).all AV.scal=true,.int .i64 (min m n:Nat),upd σ i (g,.row (setL c off (src.take (min m n*sz)))))
     | none=>none
   | _=>none
 | none=>none
def boundO(e:Nat→AV)(dflt:Int):Option IOpd→Option Int
 | none=>some dflt
 | some x=>match x.ev e with
   | .int _ i=>some i
   | _=>none
def slSO(sz:Nat)(e:Nat→AV)(x:AV)(lo hi mx:Option IOpd):OV:=
 match x with
 | .nsl=>match boundO e 0 lo,boundO e 0 hi,boundO e 0 mx with
   | some l,some h,some m=>some (l=0∧h=0∧m=0,.nsl)
   | _,_,_=>none
 | .slc sz' es _=>match boundO e 0 lo,boundO e es.length hi with
   | some l,some h=>match mx with
     | none=>some (sz'=sz∧0≤l∧l≤h∧h≤es.length,.slc sz ((es.drop l.toNat).take (h-l).toNat) .non)
     | some m=>match m.ev e with
       | .int _ m=>some (sz'=sz∧0≤l∧l≤h∧h≤es.length∧m=h,.slc sz ((es.drop l.toNat).take (h-l).toNat) .full)
       | _=>none
   | _,_=>none
 | .msl i g n sz'=>match boundO e 0 lo,boundO e n hi,mx with
   | some l,some h,none=>some (sz'=sz∧0≤l∧l≤h∧h≤n,.sub i g (l.toNat*sz) (h-l).toNat sz)
   | _,_,_=>none
 | .sub i g off n sz'=>match boundO e 0 lo,boundO e n hi,mx with
   | some l,some h,none=>some (sz'=sz∧0≤l∧l≤h∧h≤n,.sub i g (off+l.toNat*sz) (h-l).toNat sz)
   | _,_,_=>none
 | _=>none
def slTO(e:Nat→AV)(x:AV)(lo hi:Option IOpd):OV:=
 match x with
 | .str s=>match boundO e 0 lo,boundO e s.size hi with
   | some l,some h=>some (0≤l∧l≤h∧h≤s.size,.str (s.extract l.toNat h.toNat))
   | _,_=>none
 | _=>none
def nckO:AV→OV
 | .ref i g o=>okV (.ref i g o)
 | .pin c=>okV (.pin c)
 | .clo (.func f) a b=>okV (.clo (.func f) a b)
 | _=>none
def cvIO(k:IntKind):AV→OV
 | .int _ n=>fitV k True n
 | _=>none
def extO(i:Nat):AV→OV
 | .tup vs=>match vs[i]? with
   | some v=>liftV (forceA v)
   | none=>none
 | _=>none
def mxiO(isMax:Bool):AV→AV→OV
 | .int k a,.int k' b=>match Nat.beq (kix k) (kix k') with
   | true=>(match isMax with
     | true=>okV (.int k (max a b))
     | false=>okV (.int k (min a b)))
   | false=>none
 | _,_=>none
def mx3O(isMax:Bool)(a b c:AV):OV:=match mxiO isMax a b with
 | some (_,v)=>mxiO isMax v c
 | none=>none
def sbO:AV→OV
 | .str s=>some (s.size≤140737488355328,.slc 1 (s.data.toList.map fun b=>[.int .u8 b.toNat]) .non)
 | _=>none
def bytesA:List (List AV)→Option (List UInt8)
 | []=>some []
 | [.int .u8 n]::r=>(match bytesA r with
   | some l=>some (UInt8.ofNat n.toNat::l)
   | none=>none)
 | _=>none
def bsO:AV→OV
 | .nsl=>okV (.str ByteArray.empty)
 | .slc _ es _=>match bytesA es with
   | some l=>okV (.str ⟨l.toArray⟩)
   | none=>none
 | _=>none
def evO(e:Nat→AV):List IOpd→Option (List AV)
 | []=>some []
 | x::r=>match forceA (x.ev e),evO e r with
   | some v,some l=>some (v::l)
   | _,_=>none
def keyEq:KK→AV→AV→Option Bool
 | .i,.int k a,.int k' b=>match Nat.beq (kix k) (kix k') with
   | true=>some (decide (a=b))
   | false=>none
 | .s,.str a,.str b=>some (decide (a=b))
 | .flat ks,.agg xs,.agg ys=>eqAg ks xs ys
 | _,_,_=>none
def findA(kk:KK)(k:AV):List AV→Nat→Option (Option Nat)
 | [],_=>match kk with
   | .flat ks=>(match keyEq (.flat ks) k k with
     | some _=>some none
     | none=>none)
   | _=>some none
 | x::xs,n=>match keyEq kk k x with
   | some true=>some (some n)
   | some false=>findA kk k xs (n+1)
   | none=>none
def mapW(σ:Sig):AV→Option (Nat×Nat×Prop×List AV×List AV)
 | .map i h=>match σ i with
   | (h',.row [.mpv ks vs])=>some (i,h,h=h',ks,vs)
   | _=>none
 | _=>none
def mapR(σ:Sig):AV→Option (Prop×List AV×List AV)
 | .nmp=>some (True,[],[])
 | .fmp ks vs=>some (True,ks,vs)
 | .map i h=>match σ i with
   | (h',.row [.mpv ks vs])=>some (h=h',ks,vs)
   | _=>none
 | _=>none
def mupO(kk:KK)(σ:Sig)(k v:AV)(x:AV):Option (Prop×AV×Sig):=match mapW σ x,forceA v with
 | some (i,h,p,ks,vs),some v=>match findA kk k ks 0 with
   | some (some j)=>some (p,.junk,upd σ i (h,.row [.mpv ks (vs.set j v.norm)]))
   | some none=>some (p,.junk,upd σ i (h,.row [.mpv (ks++[k.norm]) (vs++[v.norm])]))
   | none=>none
 | _,_=>none
def menO(kk:KK)(z:AV)(σ:Sig)(k:AV)(x:AV):Option (Prop×AV×Sig):=match mapW σ x with
 | some (i,h,p,ks,vs)=>match findA kk k ks 0 with
   | some (some j)=>some (p,.tup [vs.getD j .junk,.int .i64 j],σ)
   | some none=>some (p,.tup [z,.int .i64 ks.length],upd σ i (h,.row [.mpv (ks++[k.norm]) (vs++[z])]))
   | none=>none
 | none=>none
def mstO(σ:Sig)(s v:AV)(x:AV):Option (Prop×AV×Sig):=match mapW σ x,s,forceA v with
 | some (i,h,p,ks,vs),.int .i64 j,some v=>some (p∧0≤j∧j<ks.length,.junk,upd σ i (h,.row [.mpv ks (vs.set j.toNat v.norm)]))
 | _,_,_=>none
def lkV(ok:Bool)(z:AV)(vs:List AV):Option Nat→AV
 | some j=>match ok with
   | true=> .tup [vs.getD j .junk,.bool true]
   | false=>vs.getD j .junk
 | none=>match ok with
   | true=> .tup [z,.bool false]
   | false=>z
def mlkO(kk:KK)(z:AV)(ok:Bool)(σ:Sig)(k:AV)(x:AV):Option (Prop×AV×Sig):=match mapR σ x with
 | some (p,ks,vs)=>match findA kk k ks 0 with
   | some o=>some (p,lkV ok z vs o,σ)
   | none=>none
 | none=>none
def mlnO(σ:Sig)(x:AV):Option (Prop×AV×Sig):=match mapR σ x with
 | some (p,ks,_)=>some (p,.int .i64 ks.length,σ)
 | none=>none
def newS0(σ:Sig)(d g:Nat)(c:List AV):Sig:=upd σ d (g,.row c)
def rngO(d:Nat)(σ:Sig)(g:Nat):AV→Option (Prop×AV×Sig)
 | .nmp=>some (True,.itr d g,newS0 σ d g [.itv [] [] []])
 | .fmp ks vs=>some (True,.itr d g,newS0 σ d g [.itv [] ks vs])
 | _=>none
def nxtO(σ:Sig)(g:Nat):AV→Option (Prop×AV×Sig)
 | .itr i h=>match σ i with
   | (h',.row [.itv _ ks vs])=>match ks with
     | []=>some (h=h',.tup [.bool false],σ)
     | _::_=>some (h=h',.tup [.bool true,ks.getD (g%ks.length) .junk,vs.getD (g%ks.length) .junk],upd σ i (h,.row [.itv [ks.getD (g%ks.length) .junk,vs.getD (g%ks.length) .junk] (ks.eraseIdx (g%ks.length)) (vs.eraseIdx (g%ks.length))]))
   | _=>none
 | _=>none
def nlqO(σ:Sig)(g:Nat):AV→Option (Prop×AV×Sig)
 | .nsl=>some (True,.bool true,σ)
 | .slc _ es _=>match es with
   | []=>some (True,.bool (Nat.beq (g%2) 1),σ)
   | _::_=>some (True,.bool false,σ)
 | _=>none
def entO(σ:Sig):AV→Option (Prop×AV×Sig)
 | .itr i h=>match σ i with
   | (h',.row [.itv (k::v::[]) _ _])=>some (h=h',.tup [k,v],σ)
   | _=>none
 | _=>none
def YS:Nat:=2000
def chunk(sz:Nat):Nat→List AV→List (List AV)
 | 0,_=>[]
 | n+1,c=>c.take sz::chunk sz n (c.drop sz)
mutual
def frzA(i g:Nat)(c:List AV):AV→AV
 | .ref i' g' off=>if i'=i∧g'=g∧off≤c.length then .pin ((normL c).drop off) else .ref i' g' off
 | .msl i' g' n sz=>if i'=i∧g'=g∧n*sz=c.length then .slc sz (chunk sz n (normL c)) .non else .msl i' g' n sz
 | .agg l=> .agg (frzL i g c l)
 | .tup l=> .tup (frzL i g c l)
 | .clo fn a b=> .clo fn (frzL i g c a) (frzL i g c b)
 | a=>a
def frzL(i g:Nat)(c:List AV):List AV→List AV
 | []=>[]
 | a::r=>frzA i g c a::frzL i g c r
end
mutual
def frzM(i g:Nat)(ks vs:List AV):AV→AV
 | .map i' g'=>if i'=i∧g'=g then .fmp ks vs else .map i' g'
 | .agg l=> .agg (frzML i g ks vs l)
 | .tup l=> .tup (frzML i g ks vs l)
 | .clo fn a b=> .clo fn (frzML i g ks vs a) (frzML i g ks vs b)
 | a=>a
def frzML(i g:Nat)(ks vs:List AV):List AV→List AV
 | []=>[]
 | a::r=>frzM i g ks vs a::frzML i g ks vs r
end
def frzME(i g:Nat)(ks vs:List AV)(e:Nat→AV):Nat→AV:=fun t=>frzM i g ks vs (e t)
def frzMR(i g:Nat)(ks vs:List AV):Res→Res
 | .row l=> .row (frzML i g ks vs l)
 | r=>r
def frzMS(i g:Nat)(ks vs:List AV)(σ:Sig):Sig:=fun j=>if j=i then ((σ i).1,.dead) else ((σ j).1,frzMR i g ks vs (σ j).2)
def frzE(i g:Nat)(c:List AV)(e:Nat→AV):Nat→AV:=fun t=>frzA i g c (e t)
def frzR(i g:Nat)(c:List AV):Res→Res
 | .row l=> .row (frzL i g c l)
 | r=>r
def frzS(i g:Nat)(c:List AV)(σ:Sig):Sig:=fun j=>if j=i then ((σ i).1,.dead) else ((σ j).1,frzR i g c (σ j).2)
mutual
def mvA(i g j h:Nat):AV→AV
 | .ref i' g' off=>if i'=i∧g'=g then .ref j h off else .ref i' g' off
 | .msl i' g' n sz=>if i'=i∧g'=g then .msl j h n sz else .msl i' g' n sz
 | .agg l=> .agg (mvL i g j h l)
 | .tup l=> .tup (mvL i g j h l)
 | .clo fn a b=> .clo fn (mvL i g j h a) (mvL i g j h b)
 | a=>a
def mvL(i g j h:Nat):List AV→List AV
 | []=>[]
 | a::r=>mvA i g j h a::mvL i g j h r
end
def mvE(i g j h:Nat)(e:Nat→AV):Nat→AV:=fun t=>mvA i g j h (e t)
def mvR(i g j h:Nat):Res→Res
 | .row l=> .row (mvL i g j h l)
 | r=>r
def mvS(i g j h:Nat)(σ:Sig):Sig:=fun k=>if k=j then (h,mvR i g j h (σ i).2) else if k=i then ((σ i).1,.dead) else ((σ k).1,mvR i g j h (σ k).2)
end Go.Abs
namespace Go.Abs
def live(σ:Sig)(i:Nat):Prop:=∃c,(σ i).2= .row c
def Sees(ob:Option Obj)(o:Nat)(v:Value):Prop:=
 (∃vs T m,ob=some (.cells vs T m)∧vs[o]?=some v∧v.oneCell'=true)∨(o=0∧ ∃ks vs,ob=some (mapObj ks vs)∧ks.length=vs.length∧v=encM ks vs)
structure Kok (K:Nat→Nat→Option Value) (w:World):Prop where
 see:∀b o v,K b o=some v→Sees w.heap[b]? o v
theorem Kok.cell{K:Nat→Nat→Option Value}{w:World}(h:Kok K w)(b o:Nat)(v:Value)(hk:K b o=some v)(h1:v.oneCell'=true):w.cell? ⟨b,o,none⟩=some v:=by
 rcases h.see b o v hk with⟨vs,T,m,h2,h3,_⟩ | ⟨_,ks,vs,_,_,rfl⟩
 · simp only[World.cell?,h2];simpa using h3
 · cases h1
theorem Kok.map{K:Nat→Nat→Option Value}{w:World}(h:Kok K w){b:Nat}{ks vs:List Value}(hk:K b 0=some (encM ks vs)):w.heap[b]?=some (mapObj ks vs)∧ks.length=vs.length:=by
 rcases h.see b 0 _ hk with⟨us,T,m,_,_,h3⟩ | ⟨_,ks',vs',h1,h2,h3⟩
 · cases h3
 · simp only[encM,Value.tuple.injEq,Array.mk.injEq,List.cons.injEq,and_true] at h3;obtain⟨rfl,rfl⟩:=h3;exact⟨h1,h2⟩
def ObjRel(G:GS):List AV→Obj→Prop
 | [.mpv aks avs],o=>∃ks vs,o=mapObj ks vs∧RelL (GS.pure G.K) aks ks∧RelL (GS.pure G.K) avs vs∧ks.length=vs.length
 | [.itv cur aks avs],o=>(cur=[]∧aks=[]∧avs=[]∧ ∃s l,o= .mapIter none s #[] l)∨
     ∃b ks vs,∃seen:Array Nat,o= .mapIter (some b) ks.length seen ks.length∧G.K b 0=some (encM ks vs)∧ks.length=vs.length∧
      RelL (GS.pure G.K) aks (((List.range ks.length).filter fun j=>!seen.contains j).map fun j=>ks.getD j undef)∧
      RelL (GS.pure G.K) avs (((List.range ks.length).filter fun j=>!seen.contains j).map fun j=>vs.getD j undef)∧
      (cur=[]∨ ∃j,seen.back?=some j∧j<ks.length∧RelL (GS.pure G.K) cur [ks.getD j undef,vs.getD j undef])
 | _,_=>False
structure ResOK (G:GS) (w:World) (i g:Nat) (c:List AV) (b e lim:Nat) (vals:Array Value) (T:TypeId):Prop where
 m:G.m i g=some (b,e,lim)
 obj:w.heap[b]?=some (.cells vals T (0,0))
 fit:e+c.length≤lim
 lim:lim≤vals.size
 K:∀o,e≤o→G.K b o=none
 rel:∀j a,c[j]?=some a→ ∃v,vals[e+j]?=some v∧Rel G a v
structure ObjOK (G:GS) (w:World) (i g:Nat) (c:List AV) (b:Nat):Prop where
 m:G.m i g=some (b,1,0)
 K:∀o,G.K b o=none
 obj:∃o,w.heap[b]?=some o∧ObjRel G c o
structure Inv (G:GS) (σ:Sig) (w:World):Prop where
 kok:Kok G.K w
 res:∀i c,(σ i).2= .row c→(c=[]∧G.m i (σ i).1=none)∨(∃b e lim vals T,ResOK G w i (σ i).1 c b e lim vals T)∨ ∃b,ObjOK G w i (σ i).1 c b
 fresh:∀i,∃N,∀g,N≤g→G.m i g=none
 dist:∀i j b x y,i≠j→live σ i→live σ j→G.m i (σ i).1=some (b,x)→G.m j (σ j).1=some (b,y)→False
def Foot(G:GS)(σ:Sig)(b:Nat):Prop:=∃i x,live σ i∧G.m i (σ i).1=some (b,x)
structure Ext (F:Nat→Prop) (K:Nat→Nat→Option Value) (w:World) (K':Nat→Nat→Option Value) (w':World):Prop where
 os:w'.os=w.os
 tape:w'.tape=w.tape
 output:w'.output=w.output
 size:w.heap.size≤w'.heap.size
 block:∀b,b<w.heap.size→ ¬F b→w'.heap[b]?=w.heap[b]?
 le:∀b o v,K b o=some v→K' b o=some v
 Kb:∀b,b<w.heap.size→ ¬F b→K' b=K b
def okFn(P:Program)(f:Nat):Bool:=match P.funcs[f]? with
 | some fn=>fn.body.isSome && !(fn.name == "runtime.NumGoroutine")
 | none=>false
def yNext(rest:List (List AV)):Bool→Option (List (List AV))
 | true=>some rest
 | false=>none
structure YC (P:Program) where
 l:Nat
 J:Option (List (List AV))→(Nat→Nat→Option Value)→(Nat→Prop)→World→Prop
 lt:∀s K T w,J s K T w→ ∀b,T b→b<w.heap.size
 stab:∀s K T w K' w',J s K T w→Kok K' w'→Ext (fun b=>¬T b) K w K' w'→J s K' T w'
 round:∀x rest K T w (vals:List Value),J (some (x::rest)) K T w→Kok K w→RelL ⟨K,fun _ _=>none⟩ x vals→
  YieldAt Fence.wide 0 P l vals.toArray w fun e w'=>∃b K' T',e= .returned (.bool b)∧J (yNext rest b) K' T' w'∧Kok K' w'∧Ext T K w K' w'∧ ∀k,T' k→T k∨w.heap.size≤k
def YI{P:Program}(Y:Option (YC P))(T:Nat→Prop)(σ:Sig)(K:Nat→Nat→Option Value)(w:World):Prop:=match Y with
 | none=>(∀b,¬T b)∧ ∀l s,(σ YS).2≠ .yld l s
 | some y=>∃s,σ YS=(0,.yld y.l s)∧y.J s K T w
def AOut{P:Program}(Y:Option (YC P))(T:Nat→Prop)(G:GS)(σ:Sig)(w:World)(d:Nat)(Q:AV→Sig→Prop)(e:Ending)(w':World):Prop:=
 ∃v av σ' G' T',e= .returned v∧Inv G' σ' w'∧Rel G' av v∧Q av σ'∧G.le G'∧Ext (fun b=>Foot G σ b∨T b) G.K w G'.K w'∧
  (∀b,Foot G' σ' b→Foot G σ b∨w.heap.size≤b)∧(∀i,i≠d→ ¬live σ i→i<YS→σ' i=σ i)∧
  YI Y T' σ' G'.K w'∧(∀b,Foot G' σ' b→ ¬T' b)∧ ∀b,T' b→T b∨w.heap.size≤b
def ACall(P:Program)(f:Nat)(args:List AV)(σ:Sig)(d:Nat)(Q:AV→Sig→Prop):Prop:=
 okFn P f=true∧ ∀(Y:Option (YC P)) (T:Nat→Prop) (G:GS) (w:World) (vals:List Value),Inv G σ w→YI Y T σ G.K w→(∀b,Foot G σ b→ ¬T b)→RelL G args vals→
  Calls P f vals.toArray w (AOut Y T G σ w d Q)
def PureC(P:Program)(f:Nat)(args:List AV)(R:AV→Prop):Prop:=
 okFn P f=true∧ ∀(K:Nat→Nat→Option Value) (w:World) (vals:List Value),Kok K w→RelL (GS.pure K) args vals→
  Calls P f vals.toArray w fun e w'=>∃v av K',e= .returned v∧Kok K' w'∧Rel (GS.pure K') av v∧R av∧Ext (fun _=>False) K w K' w'
def ItC(P:Program)(g:Nat)(lb:List AV)(xs:List (List AV)):Prop:=
 okFn P g=true∧ ∀(y:YC P) (T:Nat→Prop) (K:Nat→Nat→Option Value) (w:World) (vals:List Value),y.J (some xs) K T w→Kok K w→RelL (GS.pure K) lb vals→
  Calls P g ((Value.func (.yield y.l) #[] #[])::vals).toArray w fun e w'=>∃v K' T',e= .returned v∧Kok K' w'∧(y.J (some []) K' T' w'∨y.J none K' T' w')∧Ext T K w K' w'∧ ∀b,T' b→T b∨w.heap.size≤b
def newS(σ:Sig)(d g:Nat)(c:List AV):Sig:=upd σ d (g,.row c)
def valO(op:IOp)(e:Nat→AV)(σ:Sig):OV:=
 match op with
 | .mov x=>liftV (forceA (x.ev e))
 | .pick c a b=>pickO (c.ev e) (a.ev e) (b.ev e)
 | .bin op x y=>binO op (x.ev e) (y.ev e)
 | .eqn kd neg x y=>eqnO kd neg (x.ev e) (y.ev e)
 | .not x=>notO (x.ev e)
 | .neg x=>negO (x.ev e)
 | .len str x=>lenO str (x.ev e)
 | .ixA sz x i=>ixAO sz (x.ev e) (i.ev e)
 | .ixAr n sz x i=>ixArO n sz (x.ev e) (i.ev e)
 | .ixV n sz agg x i=>match ixVO n sz agg (x.ev e) (i.ev e) with
   | some (p,q,v)=>some (p∧q,v)
   | none=>none
 | .ixS x i=>ixSO (x.ev e) (i.ev e)
 | .flA off x=>flAO off (x.ev e)
 | .fl off sz agg x=>flO off sz agg (x.ev e)
 | .ld sz agg x=>ldO sz agg σ (x.ev e)
 | .bld z parts=>match bldO e z parts with
   | some (p,c)=>some (p,.agg c)
   | none=>none
 | .slS sz x lo hi mx=>slSO sz e (x.ev e) lo hi mx
 | .slT x lo hi=>slTO e (x.ev e) lo hi
 | .nck x=>nckO (x.ev e)
 | .cvI k x=>cvIO k (x.ev e)
 | .ext i x=>extO i (x.ev e)
 | .cvSB x=>sbO (x.ev e)
 | .cvBS x=>bsO (x.ev e)
 | .bsl sz rows parts=>match bslO e sz rows parts with
   | some (p,es)=>some (p,.slc sz es .full)
   | none=>none
 | .mkf fn first caps=>match evO e first,evO e caps with
   | some a,some b=>okV (.clo fn a b)
   | _,_=>none
 | .mxi m x y=>mxiO m (x.ev e) (y.ev e)
 | .mx3 m x y z=>mx3O m (x.ev e) (y.ev e) (z.ev e)
 | _=>none
def apzO(d g:Nat)(σ:Sig)(sz bytes:Nat)(x y:AV):Option (Prop×AV×Sig):=match x,rowsO sz y with
 | .slc sz' [] .full,some (q,ys)=>some (sz'=sz∧q∧ys.length*bytes≤140737488355328,(match ys with | []=>AV.slc sz [] .full | _::_=> .msl d g ys.length sz),newS σ d g ys.flatten)
 | _,_=>none
def effO(d:Nat)(op:IOp)(e:Nat→AV)(σ:Sig)(g:Nat):Option (Prop×AV×Sig):=
 match op with
 | .st sz x v=>stO sz σ (v.ev e) (x.ev e)
 | .new z=>some (True,.ref d g 0,newS σ d g z)
 | .box sz v=>match cellsO sz (v.ev e) with
   | some (p,c)=>some (p,.ref d g 0,newS σ d g c)
   | none=>none
 | .mks sz bytes z len cap=>match len.ev e,cap.ev e with
   | .int _ n,.int _ c=>some (0≤n∧c=n∧n*bytes≤140737488355328∧n≤9223372036854775807,.msl d g n.toNat sz,newS σ d g (List.replicate n.toNat z).flatten)
   | _,_=>none
 | .app sz bytes x y i=>match baseO sz σ (x.ev e),rowsO sz (y.ev e) with
   | some (p,es,σ'),some (q,ys)=>some (p∧q∧(es.length+ys.length)*bytes≤140737488355328,.slc sz (es++ys) (.own i g),newS σ' i g [])
   | _,_=>none
 | .apm sz bytes x y i=>match baseM sz σ (x.ev e),rowsO sz (y.ev e) with
   | some (p,n,c,σ'),some (q,ys)=>(match ys with
     | []=>some (p∧q,x.ev e,σ)
     | _::_=>some (p∧q∧(n+ys.length)*bytes≤140737488355328,.msl i g (n+ys.length) sz,newS σ' i g (c++ys.flatten)))
   | some (p,n,c,σ'),none=>(match rowsM sz σ (y.ev e) with
     | some (q,m,ys)=>some (p∧q∧(n+m)*bytes≤140737488355328,.msl i g (n+m) sz,newS σ' i g (c++ys))
     | none=>none)
   | _,_=>none
 | .apz sz bytes x y=>apzO d g σ sz bytes (x.ev e) (y.ev e)
 | .bsm sz rows parts=>match bsmO e sz rows parts with
   | some (p,es)=>some (p,.msl d g es.length sz,newS σ d g es.flatten)
   | none=>none
 | .nil sz i=>some (True,.slc sz [] (.own i g),newS σ i g [])
 | .kil i=>some (True,.junk,upd σ i (0,.dead))
 | .mkm=>some (True,.map d g,newS σ d g [.mpv [] []])
 | .mup kk x k v=>mupO kk σ (k.ev e) (v.ev e) (x.ev e)
 | .men kk z x k=>menO kk z σ (k.ev e) (x.ev e)
 | .mst x s v=>mstO σ (s.ev e) (v.ev e) (x.ev e)
 | .mlk kk z ok x k=>mlkO kk z ok σ (k.ev e) (x.ev e)
 | .rng x=>rngO d σ g (x.ev e)
 | .nxt x=>nxtO σ g (x.ev e)
 | .nlq x=>nlqO σ g (x.ev e)
 | .ent x=>entO σ (x.ev e)
 | .mln x=>mlnO σ (x.ev e)
 | .cpy sz x y=>cpyO sz σ (x.ev e) (y.ev e)
 | .chk sz agg x t=>match ldO sz agg σ (x.ev e) with
   | some (p,v)=>some (p∧v=e t,.junk,σ)
   | none=>none
 | op=>match valO op e σ with
   | some (p,v)=>some (p,v,σ)
   | none=>none
def detW(o:Nat→Option (Prop×AV×Sig))(K:AV→Sig→Prop):Prop:=∀g,match o g with
 | some (p,v,σ)=>p∧K v σ
 | none=>False
def argW(o:Option (List AV))(K:List AV→Prop):Prop:=match o with
 | some l=>K l
 | none=>False
def callVW(P:Program)(x:AV)(args:List AV)(σ:Sig)(d:Nat)(K:AV→Sig→Prop):Prop:=match x with
 | .clo (.func f) first caps=>ACall P f (first++args++caps) σ d K
 | .clo (.yield l) [] []=>match σ YS with
   | (0,.yld l' (some (x::rest)))=>l'=l∧stripL args=x∧ ∀b:Bool,K (.bool b) (upd σ YS (0,.yld l (yNext rest b)))
   | _=>False
 | _=>False
def stepW(P:Program)(d:Nat)(op:IOp)(e:Nat→AV)(σ:Sig)(K:AV→Sig→Prop):Prop:=
 match op with
 | .callF f args=>argW (evO e args) fun l=>ACall P f l σ d K
 | .callV x args=>argW (evO e args) fun l=>callVW P (x.ev e) l σ d K
 | op=>detW (effO d op e σ) K
def putE(e:Nat→AV)(d:Option Nat)(v:AV):Nat→AV:=match d with
 | some t=>upd e t v
 | none=>e
def contS(e:Nat→AV)(d:Option Nat)(K:(Nat→AV)→Sig→Prop)(v:AV)(σ:Sig):Prop:=K (putE e d v) σ
def frzW(x:AV)(e:Nat→AV)(σ:Sig)(K:(Nat→AV)→Sig→Prop):Prop:=
 match x with
 | .ref i g _=>match σ i with
   | (g',.row c)=>g=g'∧c.all AV.scal=true∧K (frzE i g c e) (frzS i g c σ)
   | _=>False
 | .msl i g _ _=>match σ i with
   | (g',.row c)=>g=g'∧c.all AV.scal=true∧K (frzE i g c e) (frzS i g c σ)
   | _=>False
 | .map i g=>match σ i with
   | (g',.row [.mpv ks vs])=>g=g'∧K (frzME i g ks vs e) (frzMS i g ks vs σ)
   | _=>False
 | .fmp _ _=>K e σ
 | .nsl=>K e σ
 | .slc _ _ _=>K e σ
 | _=>False
def mveW(x:AV)(e:Nat→AV)(σ:Sig)(K:(Nat→AV)→Sig→Prop):Prop:=
 match x with
 | .msl i g _ _=>match σ i with
   | (g',.row _)=>g=g'∧ ∃j,j≠YS∧j≠i∧ ∀h,K (mvE i g j h e) (mvS i g j h σ)
   | _=>False
 | _=>False
def guardW(g:AV)(b:Bool)(x y:Prop):Prop:=match g with
 | .bool c=>if c=b then x else y
 | .tup []=>y
 | _=>False
def IStep.wp(P:Program)(st:IStep)(K:(Nat→AV)→Sig→Prop)(e:Nat→AV)(σ:Sig):Prop:=
 match st with
 | ⟨d,none,op⟩=>stepW P (d.getD 0) op e σ (contS e d K)
 | ⟨d,some (g,b),op⟩=>guardW (e g) b (stepW P (d.getD 0) op e σ (contS e d K)) (K (putE e d (.tup [])) σ)
def stepsW(P:Program):List IStep→((Nat→AV)→Sig→Prop)→(Nat→AV)→Sig→Prop
 | [],K,e,σ=>K e σ
 | st::r,K,e,σ=>st.wp P (stepsW P r K) e σ
def cndW(c:AV)(a b:Prop):Prop:=match c with
 | .bool t=>if t=true then a else b
 | _=>False
abbrev Post:=AX→(Nat→AV)→Sig→Prop
def seqQ(K:(Nat→AV)→Sig→Prop)(Q:Post):Post
 | .nor,e,σ=>K e σ
 | x,e,σ=>Q x e σ
def blkQ(id:Nat)(Q:Post):Post
 | .ex j,e,σ=>match Nat.beq j id with
   | true=>Q .nor e σ
   | false=>Q (.ex j) e σ
 | x,e,σ=>Q x e σ
def loopQ(I:Nat→(Nat→AV)→Sig→Prop)(n:Nat)(Q:Post):Post
 | .nor,e,σ=>∃m,m<n∧I m e σ
 | x,e,σ=>Q x e σ
def asgQ(K:(Nat→AV)→Sig→Prop):Post
 | .nor,e,σ=>K e σ
 | _,_,_=>False
def rndQ(I:Sig→Prop)(Q:Post)(e:Nat→AV):Post
 | .nor,_,σ=>I σ
 | x,_,σ=>Q x e σ
def setE(e:Nat→AV):List Nat→List AV→Nat→AV
 | t::ts,a::as=>setE (upd e t a) ts as
 | _,_=>e
def awp(P:Program):IR→Post→(Nat→AV)→Sig→Prop
 | .skip,Q,e,σ=>Q .nor e σ
 | .ops l,Q,e,σ=>stepsW P l (Q .nor) e σ
 | .seq a b,Q,e,σ=>awp P a (seqQ (awp P b Q) Q) e σ
 | .cnd c a b,Q,e,σ=>cndW (c.ev e) (awp P a Q e σ) (awp P b Q e σ)
 | .blk id b,Q,e,σ=>awp P b (blkQ id Q) e σ
 | .loop b,Q,e,σ=>∃(I:Nat→(Nat→AV)→Sig→Prop) (n:Nat),I n e σ∧ ∀n e' σ',I n e' σ'→awp P b (loopQ I n Q) e' σ'
 | .scope b,Q,e,σ=>awp P b Q e σ
 | .exit id,Q,e,σ=>Q (.ex id) e σ
 | .ret,Q,e,σ=>Q .ret e σ
 | .rf f ps a b,Q,e,σ=>∃g lb xs,∃I:List (List AV)→Sig→Prop,f.ev e= .clo (.func g) [] lb∧ItC P g (stripL lb) xs∧(∀x,x∈xs→x.length=ps.length)∧I xs σ∧
    (∀x rest σ',x.length=ps.length→I (x::rest) σ'→awp P a (asgQ (awp P b (rndQ (I rest) Q e))) (setE e ps x) σ')∧ ∀σ',I [] σ'→Q .nor e σ'
 | .frz x,Q,e,σ=>frzW (x.ev e) e σ (Q .nor)
 | .mve x,Q,e,σ=>mveW (x.ev e) e σ (Q .nor)
 | .alt a b,Q,e,σ=>awp P a Q e σ∧awp P b Q e σ
end Go.Abs
namespace Go.Abs
def IOpd.rd:IOpd→List Nat
 | .t n=>[n]
 | .k _=>[]
def rdL:List IOpd→List Nat
 | []=>[]
 | x::r=>x.rd++rdL r
def rdO:Option IOpd→List Nat
 | none=>[]
 | some x=>x.rd
def IOp.reads:IOp→List Nat
 | .mov x=>x.rd
 | .pick c a b=>c.rd++(a.rd++b.rd)
 | .bin _ x y=>x.rd++y.rd
 | .eqn _ _ x y=>x.rd++y.rd
 | .not x=>x.rd
 | .neg x=>x.rd
 | .len _ x=>x.rd
 | .ixA _ x i=>x.rd++i.rd
 | .ixAr _ _ x i=>x.rd++i.rd
 | .ixV _ _ _ x i=>x.rd++i.rd
 | .ixS x i=>x.rd++i.rd
 | .flA _ x=>x.rd
 | .fl _ _ _ x=>x.rd
 | .ld _ _ x=>x.rd
 | .st _ x v=>x.rd++v.rd
 | .new _=>[]
 | .box _ v=>v.rd
 | .bld _ parts=>rdL (parts.map fun p=>p.2.2)
 | .bsl _ _ parts=>rdL (parts.map fun p=>p.2)
 | .mks _ _ _ l c=>l.rd++c.rd
 | .bsm _ _ parts=>rdL (parts.map fun p=>p.2)
 | .slS _ x lo hi mx=>x.rd++(rdO lo++(rdO hi++rdO mx))
 | .slT x lo hi=>x.rd++(rdO lo++rdO hi)
 | .nck x=>x.rd
 | .cvI _ x=>x.rd
 | .cvSB x=>x.rd
 | .cvBS x=>x.rd
 | .ext _ x=>x.rd
 | .mkf _ a b=>rdL a++rdL b
 | .app _ _ x y _=>x.rd++y.rd
 | .apm _ _ x y _=>x.rd++y.rd
 | .apz _ _ x y=>x.rd++y.rd
 | .nil _ _=>[]
 | .kil _=>[]
 | .mkm=>[]
 | .mup _ m k v=>m.rd++(k.rd++v.rd)
 | .men _ _ m k=>m.rd++k.rd
 | .mst m s v=>m.rd++(s.rd++v.rd)
 | .mlk _ _ _ m k=>m.rd++k.rd
 | .rng m=>m.rd
 | .nxt x=>x.rd
 | .nlq x=>x.rd
 | .ent x=>x.rd
 | .mln x=>x.rd
 | .chk _ _ x t=>x.rd++[t]
 | .mxi _ x y=>x.rd++y.rd
 | .mx3 _ x y z=>x.rd++(y.rd++z.rd)
 | .cpy _ x y=>x.rd++y.rd
 | .bad=>[]
 | .callF _ as=>rdL as
 | .callV x as=>x.rd++rdL as
def IStep.reads(s:IStep):List Nat:=match s.g with
 | none=>s.op.reads
 | some (g,_)=>g::s.op.reads
inductive Cls where
 | v | l | n | e
def IOp.cls:IOp→Cls
 | .ld _ _ _=> .l
 | .new _=> .n
 | .box _ _=> .n
 | .mks _ _ _ _ _=> .n
 | .bsm _ _ _=> .n
 | .apz _ _ _ _=> .n
 | .st _ _ _=> .e
 | .app _ _ _ _ _=> .e
 | .apm _ _ _ _ _=> .e
 | .nil _ _=> .e
 | .kil _=> .e
 | .mkm=> .n
 | .mup _ _ _ _=> .e
 | .men _ _ _ _=> .e
 | .mst _ _ _=> .e
 | .mlk _ _ _ _ _=> .e
 | .rng _=> .n
 | .nxt _=> .e
 | .nlq _=> .e
 | .ent _=> .e
 | .mln _=> .e
 | .chk _ _ _ _=> .e
 | .callF _ _=> .e
 | .callV _ _=> .e
 | .cpy _ _ _=> .e
 | .bad=> .e
 | _=> .v
def siteOK(d i:Nat):IOp→Bool
 | .st _ _ _=>true
 | .app _ _ _ _ s=>!Nat.beq s i
 | .nil _ s=>!Nat.beq s i
 | .mup _ _ _ _=>true
 | .callF _ _=>!Nat.beq d i && Nat.blt i YS
 | .callV _ _=>!Nat.beq d i && Nat.blt i YS
 | _=>false
def keeps(s:IStep)(i:Nat):Bool:=match s.op.cls with
 | .v=>true
 | .l=>true
 | .n=>!Nat.beq (s.dst.getD 0) i
 | .e=>siteOK (s.dst.getD 0) i s.op
structure DS where
 i:Nat
 st:IStep
def mem(i:Nat):List Nat→Bool
 | []=>false
 | a::r=>match Nat.beq a i with
   | true=>true
   | false=>mem i r
def predsOf(ops:Array Oper)(i:Nat):List Nat:=match ops[i]? with
 | some o=>(o.after.toList.filter fun e=>Region.binds .any e).map (·.on)
 | none=>[]
def maskOf(T:List Nat):List Nat→Nat
 | []=>0
 | p::r=>(2^p ||| T.getD p 0) ||| maskOf T r
def tblGo(ops:Array Oper):Nat→Nat→List Nat→List Nat
 | 0,_,T=>T
 | k+1,i,T=>tblGo ops k (i+1) (T++[maskOf T (predsOf ops i)])
def anc(T:List Nat)(j i:Nat):Bool:=Nat.testBit (T.getD i 0) j
def dstIn(s:IStep)(l:List Nat):Bool:=match s.dst with
 | some d=>mem d l
 | none=>false
def sameDst(s t:IStep):Bool:=match s.dst,t.dst with
 | some a,some b=>Nat.beq a b
 | _,_=>false
def noClash(s t:IStep):Bool:=!dstIn t s.reads && !sameDst s t
def chkOf:IStep→Option IStep
 | ⟨some t,g,.ld sz agg x⟩=>some ⟨none,g,.chk sz agg x t⟩
 | _=>none
def noCall(s:IStep):Bool:=match s.op with
 | .callF _ _=>false
 | .callV _ _=>false
 | _=>true
def goodC(D:List Nat)(a x:IStep):Bool:=match a.op.cls,x.op.cls with
 | .v,_=>true
 | .l,.n=>mem (x.dst.getD 0) D
 | .l,_=>true
 | .n,.e=>(match x.op with | .mup _ _ _ _=>x.g.isNone | _=>false)
 | .n,_=>true
 | .e,.n=>mem (x.dst.getD 0) D && x.g.isNone && (match x.op with | .new (_::_)=>true | _=>false)
 | .e,.v=>noCall a
 | .e,_=>false
def isN(x:IStep):Bool:=match x.op.cls with
 | .n=>true
 | _=>false
def pairB(ops:Array Oper)(D:List Nat)(a x:DS):Bool:=
 !Nat.beq a.i x.i && !mem x.i (predsOf ops a.i) && (!(chkOf a.st).isSome || noClash a.st x.st) &&
 (!(isN x.st && mem (x.st.dst.getD 0) D) || keeps a.st (x.st.dst.getD 0))
def exm(E:List (Nat×Nat))(a x:DS):Bool:=E.any fun p=>Nat.beq p.1 a.i && Nat.beq p.2 x.i
def pairX(ops:Array Oper)(T D:List Nat)(E:List (Nat×Nat))(a x:DS):Bool:=
 pairB ops D a x && (exm E a x || (anc T a.i x.i || (!dstIn a.st x.st.reads && (noClash a.st x.st && goodC D a.st x.st))))
def pairOK(ops:Array Oper)(T D:List Nat)(a x:DS):Bool:=pairX ops T D [] a x
def selfOK(ops:Array Oper)(a:DS):Bool:=!mem a.i (predsOf ops a.i) && (predsOf ops a.i).all (fun p=>Nat.blt p ops.size) && (match a.st.op.cls with
 | .n=>a.st.dst.isSome
 | .l=>a.st.dst.isSome && !dstIn a.st a.st.reads
 | _=>true)
def pairsOK(ops:Array Oper)(T D:List Nat)(E:List (Nat×Nat)):List DS→Bool
 | []=>true
 | a::r=>selfOK ops a && r.all (pairX ops T D E a) && pairsOK ops T D E r
inductive Plan where
 | fin (τ:List DS)
 | alt (τ:List DS) (i j:Nat) (a b:Plan)
def Plan.els:Plan→List DS
 | .fin τ=>τ
 | .alt τ _ _ a _=>τ++a.els
def idx(l:List DS):List Nat:=l.map (·.i)
def planOK(ops:Array Oper)(T D:List Nat):List (Nat×Nat)→List DS→Plan→Bool
 | E,pre,.fin τ=>pairsOK ops T D E (pre++τ)
 | E,pre,.alt τ i j a b=>planOK ops T D ((i,j)::E) (pre++τ) a && planOK ops T D ((j,i)::E) (pre++τ) b && !Nat.beq i j && pairsOK ops T D E (pre++τ) && ((pre++τ).all fun d=>!Nat.beq d.i i && !Nat.beq d.i j) &&
     Nat.beq a.els.length b.els.length && (a.els.all fun d=>mem d.i (idx b.els)) && (b.els.all fun d=>mem d.i (idx a.els)) && a.els.all fun d=>Nat.beq d.i i || (Nat.beq d.i j || noCall d.st)
def chks(T:List Nat)(x:DS):List DS→List IStep
 | []=>[]
 | l::r=>match anc T l.i x.i with
   | true=>chks T x r
   | false=>match chkOf l.st with
     | some s=>s::chks T x r
     | none=>chks T x r
def isE(x:IStep):Bool:=match x.op.cls with
 | .e=>true
 | _=>false
def emit(T:List Nat)(seen:List DS):List DS→List IStep
 | []=>[]
 | x::r=>x.st::((if isE x.st then chks T x seen else[])++emit T (seen++[x]) r)
def rankD(c:Cls):Nat:=match c with
 | .v=>0
 | .l=>0
 | .e=>1
 | .n=>2
def takeR(ops:Array Oper)(k:Nat)(done:List Nat):List DS→Option (DS×List DS)
 | []=>none
 | a::r=>match Nat.beq (rankD a.st.op.cls) k && (predsOf ops a.i).all (fun p=>mem p done) with
   | true=>some (a,r)
   | false=>(takeR ops k done r).map fun (x,l)=>(x,a::l)
def sched(ops:Array Oper):Nat→List Nat→List DS→List Nat
 | 0,_,_=>[]
 | k+1,done,l=>match takeR ops 0 done l with
   | some (x,l)=>x.i::sched ops k (x.i::done) l
   | none=>match takeR ops 1 done l with
     | some (x,l)=>x.i::sched ops k (x.i::done) l
     | none=>match takeR ops 2 done l with
       | some (x,l)=>x.i::sched ops k (x.i::done) l
       | none=>[]
def rankE(c:Cls):Nat:=match c with
 | .v=>0
 | .l=>0
 | .n=>1
 | .e=>2
def takeE(ops:Array Oper)(k:Nat)(done:List Nat):List DS→Option (DS×List DS)
 | []=>none
 | a::r=>match Nat.beq (rankE a.st.op.cls) k && (predsOf ops a.i).all (fun p=>mem p done) with
   | true=>some (a,r)
   | false=>(takeE ops k done r).map fun (x,l)=>(x,a::l)
def schedE(ops:Array Oper):Nat→List Nat→List DS→List Nat
 | 0,_,_=>[]
 | k+1,done,l=>match takeE ops 0 done l with
   | some (x,l)=>x.i::schedE ops k (x.i::done) l
   | none=>match takeE ops 1 done l with
     | some (x,l)=>x.i::schedE ops k (x.i::done) l
     | none=>match takeE ops 2 done l with
       | some (x,l)=>x.i::schedE ops k (x.i::done) l
       | none=>[]
abbrev Sched:=Array Oper→Nat→List Nat→List DS→List Nat
def needD(T:List Nat)(seen:List DS):List DS→List Nat
 | []=>[]
 | x::r=>if isN x.st && seen.any (fun a=>!isN a.st && rankD a.st.op.cls+(if (chkOf a.st).isSome then 1 else 0) !=0 && !anc T a.i x.i) then x.st.dst.getD 0::needD T (seen++[x]) r else needD T (seen++[x]) r
def planIR(T:List Nat):List DS→Plan→IR
 | seen,.fin τ=> .ops (emit T seen τ)
 | seen,.alt τ _ _ a b=> .seq (.ops (emit T seen τ)) (.alt (planIR T (seen++τ) a) (planIR T (seen++τ) b))
def kils:List Nat→List IStep
 | []=>[]
 | d::r=>⟨none,none,.kil d⟩::kils r
end Go.Abs
namespace Go.Abs
def ofV:Value→AV
 | .int k n=> .int k n
 | .bool b=> .bool b
 | .string s=> .str s
 | .slice none 0 0=> .nsl
 | .pointer none=> .npt
 | .nilFunc=> .nfn
 | .nilIface=> .nif
 | .map none=> .nmp
 | .func fn f c=>if f.size=0∧c.size=0 then .clo fn [] [] else .junk
 | _=> .junk
def cOpd:Operand→Option IOpd
 | .tmp t=>some (.t t)
 | .const v=>some (.k (ofV v))
 | .func f=>some (.k (.clo (.func f) [] []))
 | .global _=>none
def szOf(P:Program)(t:TypeId):Option Nat:=(P.info? t).map (·.size)
def aggOf(P:Program)(t:TypeId):Option Bool:=match P.underlying t with
 | some (.struct _)=>some true
 | some (.array _ _)=>some true
 | some _=>some false
 | none=>none
def zeroOf(P:Program)(t:TypeId):Option (List AV):=do
 let i ←P.info? t
 let z ←i.zero
 if z.cells.size=i.size∧z.cells.toList.all Value.oneCell'=true then some (z.cells.toList.map ofV) else none
def slElem(P:Program)(t:TypeId):Option TypeId:=match P.underlying t with
 | some (.slice e)=>some e
 | _=>none
def cParts(P:Program)(place:Nat→Option (Nat×TypeId)):List (Nat×Operand)→Option (List (Nat×Nat×IOpd))
 | []=>some []
 | (i,x)::r=>do
   let (off,t) ←place i
   let sz ←szOf P t
   let x ←cOpd x
   let r ←cParts P place r
   some ((off,sz,x)::r)
def cElems:List (Nat×Operand)→Option (List (Nat×IOpd))
 | []=>some []
 | (i,x)::r=>do
   let x ←cOpd x
   let r ←cElems r
   some ((i,x)::r)
def cOpds:List Operand→Option (List IOpd)
 | []=>some []
 | x::r=>do
   let x ←cOpd x
   let r ←cOpds r
   some (x::r)
def cOptOpd:Option Operand→Option (Option IOpd)
 | none=>some none
 | some x=>(cOpd x).map some
def flatK(P:Program)(t:TypeId):Option FK:=match P.underlying t with
 | some (.int _)=>some .i
 | some .string=>some .s
 | some .bool=>some .b
 | _=>none
def flatFs(F:TypeId→Option (List FK)):Nat→List Field→Option (List FK)
 | _,[]=>some []
 | i,f::fs=>match decide (f.name= "_") with
   | true=>none
   | false=>match Nat.beq f.offset i with
     | false=>none
     | true=>match F f.type with
       | some k=>(match flatFs F (i+k.length) fs with
         | some ks=>some (k++ks)
         | none=>none)
       | none=>none
def flatT(P:Program):Nat→TypeId→Option (List FK)
 | 0,t=>(flatK P t).map fun k=>[k]
 | d+1,t=>match P.underlying t with
   | some (.struct fs)=>(match P.stoodInHeld t with
     | true=>none
     | false=>match flatFs (flatT P d) 0 fs.toList with
       | some ks=>(match decide (szOf P t=some ks.length) with
         | true=>some ks
         | false=>none)
       | none=>none)
   | _=>(flatK P t).map fun k=>[k]
def flatKs(P:Program)(t:TypeId)(fs:Array Field):Option EqK:=match P.stoodInHeld t with
 | true=>none
 | false=>match P.eqGuardType P.depth t with
   | true=>none
   | false=>(flatFs (flatT P 3) 0 fs.toList).map .flat
def eqKind(P:Program)(t:TypeId):Option EqK:=match P.underlying t with
 | some .bool=>some .bool
 | some (.slice _)=>some .slice
 | some (.pointer _)=>some .ptr
 | some (.func _ _ _)=>some .func
 | some (.map _ _)=>some .map
 | some (.struct fs)=>flatKs P t fs
 | _=>none
def isNum(P:Program)(t:TypeId):Bool:=match P.underlying t with
 | some (.int _)=>true
 | some .string=>true
 | _=>false
structure Hint where
 site:List (Nat×Nat):=[]
 nils:List (Nat×Nat):=[]
 frz:List (Nat×Nat):=[]
 mve:List (Nat×Nat):=[]
 wr:List Nat:=[]
 nlq:List Nat:=[]
def look(l:List (Nat×Nat))(d:Nat):Option Nat:=match l with
 | []=>none
 | (a,b)::r=>if a=d then some b else look r d
def apX(sz bytes:Nat)(x y:IOpd)(site:Nat):IOp:=match Nat.beq site 7777 with
 | true=> .apz sz bytes x y
 | false=> .apm sz bytes x y site
def cBuiltin(P:Program)(site:Nat)(m:Bool)(b:Builtin)(argTypes:List TypeId)(args:List Operand):Option IOp:=
 match b,argTypes,args with
 | .len,[t],[x]=>match P.underlying t with
   | some (.slice _)=>(cOpd x).map (.len false)
   | some .string=>(cOpd x).map (.len true)
   | some (.array n _)=>some (.mov (.k (.int .i64 n)))
   | some (.map _ _)=>(cOpd x).map .mln
   | _=>none
 | .append,[t,u],[x,y]=>do
   let e ←slElem P t
   let e' ←slElem P u
   let i ←P.info? e
   let i' ←P.info? e'
   let z ←i.zero
   let x ←cOpd x
   let y ←cOpd y
   if i.size=i'.size∧0<i.size∧0<i.bytes∧z.cells.size=i.size then some (match m with | true=>apX i.size i.bytes x y site | false=> .app i.size i.bytes x y site) else none
 | .max,[_,_],[x,y]=>do
   let x ←cOpd x
   let y ←cOpd y
   some (.mxi true x y)
 | .min,[_,_],[x,y]=>do
   let x ←cOpd x
   let y ←cOpd y
   some (.mxi false x y)
 | .max,[_,_,_],[x,y,z]=>do
   let x ←cOpd x
   let y ←cOpd y
   let z ←cOpd z
   some (.mx3 true x y z)
 | .min,[_,_,_],[x,y,z]=>do
   let x ←cOpd x
   let y ←cOpd y
   let z ←cOpd z
   some (.mx3 false x y z)
 | .copy,[t,u],[x,y]=>do
   let e ←slElem P t
   let e' ←slElem P u
   let sz ←szOf P e
   let sz' ←szOf P e'
   let x ←cOpd x
   let y ←cOpd y
   if sz=sz' then some (.cpy sz x y) else none
 | _,_,_=>none
def arrN(P:Program):Nat→TypeId→Option Nat
 | 0,_=>none
 | d+1,t=>match P.underlying t with
   | some (.int _)=>some 1
   | some (.array n e)=>match arrN P d e with
     | some k=>match Nat.beq (P.cellsOf e) k with
       | true=>some (n*k)
       | false=>none
     | none=>none
   | _=>none
def keyKind(P:Program)(t:TypeId):Option KK:=match P.underlying t with
 | some (.int _)=>some .i
 | some .string=>some .s
 | some (.array _ _)=>(arrN P 4 t).map fun m=> .flat (List.replicate m .i)
 | _=>none
def zero1(P:Program)(t:TypeId):Option AV:=match (P.info? t).bind (·.zero) with
 | some z=>match z.oneCell' with
   | true=>some (ofV z)
   | false=>none
 | none=>none
def isInt:Option Operand→Bool
 | none=>true
 | some (.const (.int _ _))=>true
 | _=>false
def cMap(P:Program):Op→Option IOp
 | .makeMap t r=>match P.underlying t,isInt r with
   | some (.map _ _),true=>some .mkm
   | _,_=>none
 | .mapUpdate t m k v=>match P.underlying t with
   | some (.map kt _)=>do
     let kk ←keyKind P kt
     let m ←cOpd m
     let k ←cOpd k
     let v ←cOpd v
     some (.mup kk m k v)
   | _=>none
 | .insert t m k v=>match P.underlying t with
   | some (.map kt _)=>do
     let kk ←keyKind P kt
     let m ←cOpd m
     let k ←cOpd k
     let v ←cOpd v
     some (.mup kk m k v)
   | _=>none
 | .mapEntry t m k=>match P.underlying t with
   | some (.map kt e)=>do
     let kk ←keyKind P kt
     let z ←zero1 P e
     let m ←cOpd m
     let k ←cOpd k
     some (.men kk z m k)
   | _=>none
 | .entryStore _ m s v=>do
   let m ←cOpd m
   let s ←cOpd s
   let v ←cOpd v
   some (.mst m s v)
 | .lookup t m k ok=>match P.underlying t with
   | some (.map kt e)=>do
     let kk ←keyKind P kt
     let z ←zero1 P e
     let m ←cOpd m
     let k ←cOpd k
     some (.mlk kk z ok m k)
   | _=>none
 | .range t x=>match P.underlying t with
   | some (.map _ _)=>(cOpd x).map .rng
   | _=>none
 | .next x b=>match b with
   | false=>(cOpd x).map .nxt
   | true=>none
 | .entry x=>(cOpd x).map .ent
 | _=>none
def cOp(P:Program)(site:Nat)(m:Bool):Op→Option IOp
 | .move x=>(cOpd x).map .mov
 | .assign x=>(cOpd x).map .mov
 | .pick c a b=>do
   let c ←cOpd c
   let a ←cOpd a
   let b ←cOpd b
   some (.pick c a b)
 | .alloc t=>(zeroOf P t).map .new
 | .box t v=>do
   let sz ←szOf P t
   let v ←cOpd v
   some (.box sz v)
 | .build t parts=>do
   let z ←zeroOf P t
   match P.underlying t with
   | some (.struct fields)=>do
     let ps ←cParts P (fun i=>(fields[i]?).map fun f=>(f.offset,f.type)) parts.toList
     if fields.toList.all (fun f=>(szOf P f.type).isSome)=true then some (.bld z ps) else none
   | some (.array _ e)=>do
     let sz ←szOf P e
     let ps ←cParts P (fun i=>some (i*sz,e)) parts.toList
     some (.bld z ps)
   | _=>none
 | .buildSlice t len parts=>do
   let e ←slElem P t
   let i ←P.info? e
   let z ←zeroOf P e
   let ps ←cElems parts.toList
   if len*i.size≤2^24∧0<i.size then some (match m with | true=> .bsm i.size (List.replicate len z) ps | false=> .bsl i.size (List.replicate len z) ps) else none
 | .load t x=>do
   let sz ←szOf P t
   let agg ←aggOf P t
   let x ←cOpd x
   some (.ld sz agg x)
 | .store t x v=>do
   let sz ←szOf P t
   let x ←cOpd x
   let v ←cOpd v
   some (.st sz x v)
 | .nilCheck x=>(cOpd x).map .nck
 | .binOp op t x y _=>do
   let x ←cOpd x
   let y ←cOpd y
   match op with
   | .eql=>if isNum P t then some (.bin .eql x y) else (eqKind P t).map fun k=> .eqn k false x y
   | .neq=>if isNum P t then some (.bin .neq x y) else (eqKind P t).map fun k=> .eqn k true x y
   | op=>some (.bin op x y)
 | .unOp .not _ x=>(cOpd x).map .not
 | .unOp .neg _ x=>(cOpd x).map .neg
 | .convert s d x=>match P.underlying s,P.underlying d with
   | some (.int _),some (.int k)=>(cOpd x).map (.cvI k)
   | some .string,some (.slice e)=>match P.underlying e with
     | some (.int .u8)=>(cOpd x).map .cvSB
     | _=>none
   | some (.slice e),some .string=>match P.underlying e with
     | some (.int .u8)=>(cOpd x).map .cvBS
     | _=>none
   | _,_=>none
 | .makeFunc fn first caps=>do
   let f ←cOpds first.toList
   let c ←cOpds caps.toList
   some (.mkf fn f c)
 | .makeSlice t len cap=>do
   let e ←slElem P t
   let i ←P.info? e
   let z ←zeroOf P e
   let l ←cOpd len
   let c ←cOpd cap
   if 0<i.size then some (.mks i.size i.bytes z l c) else none
 | .slice t x lo hi mx=>do
   let x ←cOpd x
   let lo ←cOptOpd lo
   let hi ←cOptOpd hi
   let mx ←cOptOpd mx
   match P.underlying t with
   | some (.slice e)=>do
     let sz ←szOf P e
     if mx=none∨hi.isSome then some (.slS sz x lo hi mx) else none
   | some .string=>if mx.isNone then some (.slT x lo hi) else none
   | _=>none
 | .fieldAddr t x f=>match P.underlying t with
   | some (.struct fields)=>do
     let f ←fields[f]?
     let sz ←szOf P f.type
     let x ←cOpd x
     if sz≠0 then some (.flA f.offset x) else none
   | _=>none
 | .field t x f=>match P.underlying t with
   | some (.struct fields)=>do
     let f ←fields[f]?
     let sz ←szOf P f.type
     let agg ←aggOf P f.type
     let x ←cOpd x
     some (.fl f.offset sz agg x)
   | _=>none
 | .indexAddr t x i=>do
   let x ←cOpd x
   let i ←cOpd i
   match P.underlying t with
   | some (.slice e)=>do
     let sz ←szOf P e
     some (.ixA sz x i)
   | some (.array n e)=>do
     let sz ←szOf P e
     some (.ixAr n sz x i)
   | _=>none
 | .index t x i=>do
   let x ←cOpd x
   let i ←cOpd i
   match P.underlying t with
   | some (.array n e)=>do
     let sz ←szOf P e
     let agg ←aggOf P e
     some (.ixV n sz agg x i)
   | some .string=>some (.ixS x i)
   | _=>none
 | .extract x i=>(cOpd x).map (.ext i)
 | .call c=>match c.callee with
   | .value (.func f)=>(cOpds c.args.toList).map (.callF f)
   | .value x=>do
     let x ←cOpd x
     let as ←cOpds c.args.toList
     some (.callV x as)
   | .builtin b=>cBuiltin P site m b c.argTypes.toList c.args.toList
   | _=>none
 | .makeMap t r=>cMap P (.makeMap t r)
 | .mapUpdate t a k v=>cMap P (.mapUpdate t a k v)
 | .insert t a k v=>cMap P (.insert t a k v)
 | .mapEntry t a k=>cMap P (.mapEntry t a k)
 | .entryStore t a s v=>cMap P (.entryStore t a s v)
 | .lookup t a k ok=>cMap P (.lookup t a k ok)
 | .range t x=>cMap P (.range t x)
 | .next x b=>cMap P (.next x b)
 | .entry x=>cMap P (.entry x)
 | _=>none
def isNil:Op→Bool
 | .assign (.const (.slice none 0 0))=>true
 | _=>false
def cNlq(P:Program):Op→Option IOp
 | .binOp .eql t x (.const (.slice none 0 0)) _=>match P.underlying t with
   | some (.slice _)=>(cOpd x).map .nlq
   | _=>none
 | _=>none
def cOp0(P:Program)(H:Hint)(o:Oper):Option IOp:=
 match (if isNil o.op then o.dst.bind (look H.nils) else none),o.dst with
 | some sz,some d=>some (.nil sz ((look H.site d).getD d))
 | _,_=>cOp P ((o.dst.bind (look H.site)).getD (o.dst.getD 0)) (mem (o.dst.getD 0) H.wr) o.op
def cOp'(P:Program)(H:Hint)(o:Oper):Option IOp:=match mem (o.dst.getD 0) H.nlq with
 | true=>cNlq P o.op
 | false=>cOp0 P H o
theorem cNlq_some{P:Program}{oop:Op}{op:IOp}(h:cNlq P oop=some op):∃t x yt e x',oop= .binOp .eql t x (.const (.slice none 0 0)) yt∧P.underlying t=some (.slice e)∧cOpd x=some x'∧op= .nlq x':=by
 unfold cNlq at h;split at h
 · split at h
   · rename_i e he;rw[Option.map_eq_some_iff] at h;obtain⟨x',hx,h⟩:=h;exact⟨_,_,_,_,_,rfl,he,hx,h.symm⟩
   · cases h
 · cases h
theorem cOp0_of{P:Program}{H:Hint}{o:Oper}{op:IOp}(h:cOp' P H o=some op)(hn:∀x,op≠ .nlq x):cOp0 P H o=some op:=by
 unfold cOp' at h;split at h
 · obtain⟨_,_,_,_,x',_,_,_,hx⟩:=cNlq_some h;exact absurd hx (hn x')
 · exact h
def cOpB(P:Program)(H:Hint)(o:Oper):Option IOp:=match cOp' P H o with
 | some op=>some op
 | none=>some .bad
def cGuard(ops:Array Oper)(o:Oper):Option (Option (Nat×Bool)):=match o.guard with
 | none=>some none
 | some (j,b)=>match (ops[j]?).bind (·.dst) with
   | some t=>some (some (t,b))
   | none=>none
def siteLt:IOp→Bool
 | .app _ _ _ _ s=>Nat.blt s YS
 | .apm _ _ _ _ s=>Nat.blt s YS
 | .nil _ s=>Nat.blt s YS
 | _=>true
def cStep(P:Program)(H:Hint)(n:Nat)(ops:Array Oper)(o:Oper):Option IStep:=do
 let op ←cOpB P H o
 let g ←cGuard ops o
 if siteLt op=false then none else
 match o.dst with
 | some d=>if d<n then some ⟨some d,g,op⟩ else none
 | none=>match op with
   | .st _ _ _=>some ⟨none,g,op⟩
   | .callF _ _=>some ⟨none,g,op⟩
   | .callV _ _=>some ⟨none,g,op⟩
   | .mup _ _ _ _=>some ⟨none,g,op⟩
   | .mst _ _ _=>some ⟨none,g,op⟩
   | .cpy _ _ _=>some ⟨none,g,op⟩
   | .bad=>some ⟨none,g,op⟩
   | _=>none
def cSteps(P:Program)(H:Hint)(n:Nat)(ops:Array Oper):List Oper→Option (List IStep)
 | []=>some []
 | o::r=>do
   let o ←cStep P H n ops o
   let r ←cSteps P H n ops r
   some (o::r)
def cTau(P:Program)(H:Hint)(n:Nat)(ops:Array Oper):List Nat→Option (List DS)
 | []=>some []
 | i::r=>do
   let o ←ops[i]?
   let s ←cStep P H n ops o
   let r ←cTau P H n ops r
   some (⟨i,s⟩::r)
def tauOK(ops:Array Oper)(T D:List Nat)(τ:List DS):Bool:=
 (List.range ops.size).all (fun i=>mem i (τ.map (·.i))) && pairsOK ops T D [] τ
def afterEd(ops:Array Oper)(i j:Nat):Array Oper:=match ops[i]? with
 | some o=>ops.setIfInBounds i {o with after:=o.after.push ⟨j,.data⟩ }
 | none=>ops
def badIn(ops:Array Oper)(T D:List Nat)(E:List (Nat×Nat))(a:DS):List DS→Option (Nat×Nat)
 | []=>none
 | x::r=>match pairX ops T D E a x with
   | true=>badIn ops T D E a r
   | false=>some (a.i,x.i)
def badOf(ops:Array Oper)(T D:List Nat)(E:List (Nat×Nat)):List DS→List DS→Option (List DS×List DS×Nat×Nat)
 | _,[]=>none
 | pre,a::r=>match badIn ops T D E a r with
   | some (i,j)=>some (pre,a::r,i,j)
   | none=>badOf ops T D E (pre++[a]) r
def byIdx(l:List DS):List Nat→List DS
 | []=>[]
 | i::r=>match l.find? fun d=>Nat.beq d.i i with
   | some d=>d::byIdx l r
   | none=>byIdx l r
def mkPlan(sd:Sched)(ops:Array Oper)(T D:List Nat):Nat→List (Nat×Nat)→List DS→List DS→Plan
 | 0,_,_,l=> .fin l
 | k+1,E,pre,l=>match badOf ops T D E [] l with
   | none=> .fin l
   | some (p,r,i,j)=> .alt p i j (mkPlan sd ops T D k ((i,j)::E) (pre++p) r)
      (mkPlan sd ops T D k ((j,i)::E) (pre++p) (byIdx r (sd (afterEd ops i j) r.length (idx (pre++p)) r)))
def planD(T:List Nat):List DS→Plan→List Nat
 | seen,.fin τ=>needD T [] (seen++τ)
 | seen,.alt τ _ _ a b=>planD T (seen++τ) a++planD T (seen++τ) b
def cDraw(P:Program)(H:Hint)(n:Nat)(ops:Array Oper):Option (List IStep):=do
 let l ←cTau P H n ops (List.range ops.size)
 let τ ←cTau P H n ops (sched ops ops.size [] l)
 let T:=tblGo ops ops.size 0 []
 let D:=needD T [] τ
 if P.follows .mixedOrders && (tauOK ops T D τ && D.all (fun d=>Nat.blt d YS)) then some (kils D++emit T [] τ) else none
def cPlanS(sd:Sched)(P:Program)(H:Hint)(n:Nat)(ops:Array Oper):Option IR:=do
 let l ←cTau P H n ops (List.range ops.size)
 let τ ←cTau P H n ops (sd ops ops.size [] l)
 let T:=tblGo ops ops.size 0 []
 let p0:=mkPlan sd ops T (needD T [] τ) 4 [] [] τ
 let D:=planD T [] p0
 let p:=mkPlan sd ops T D 4 [] [] τ
 if P.follows .mixedOrders && ((List.range ops.size).all (fun i=>mem i (idx p.els)) && Nat.beq p.els.length ops.size && planOK ops T D [] [] p && D.all (fun d=>Nat.blt d YS)) then some (.seq (.ops (kils D)) (planIR T [] p)) else none
def cPlan(P:Program)(H:Hint)(n:Nat)(ops:Array Oper):Option IR:=match cPlanS sched P H n ops with
 | some l=>some l
 | none=>cPlanS schedE P H n ops
def cDraws(P:Program)(H:Hint)(n:Nat)(ops:Array Oper):Option IR:=match cDraw P H n ops with
 | some l=>some (.ops l)
 | none=>cPlan P H n ops
def frzL'(H:Hint)(ops:Array Oper):List (Nat×Nat)→List Nat
 | []=>[]
 | (t,s)::r=>if ops.toList.any (fun o=>match o.dst with | some d=>Nat.beq d t | none=>false) then s::frzL' H ops r else frzL' H ops r
def frzIR:List Nat→IR→IR
 | [],b=>b
 | s::r,b=> .seq (.frz (.t s)) (frzIR r b)
def mveIR:List Nat→IR→IR
 | [],b=>b
 | s::r,b=> .seq (.mve (.t s)) (mveIR r b)
def cCode(P:Program)(H:Hint)(n:Nat)(rd:Bool):Code→Option IR
 | .skip=>some .skip
 | .region _ ops draw=>match draw with
   | true=>(cDraws P H n ops).map fun l=>mveIR (frzL' H ops H.mve) (frzIR (frzL' H ops H.frz) l)
   | false=>(cSteps P H n ops ops.toList).map fun l=>mveIR (frzL' H ops H.mve) (frzIR (frzL' H ops H.frz) (.ops l))
 | .seq a b=>do
   let a ←cCode P H n rd a
   let b ←cCode P H n rd b
   some (.seq a b)
 | .cond c a b=>do
   let c ←cOpd c
   let a ←cCode P H n rd a
   let b ←cCode P H n rd b
   some (.cnd c a b)
 | .block id b=>(cCode P H n rd b).map (.blk id)
 | .loop b=>(cCode P H n rd b).map .loop
 | .scope b=>match rd with
   | true=>none
   | false=>cCode P H n rd b
 | .label _=>some .skip
 | .exit id=>some (.exit id)
 | .ret=>some .ret
 | .rangeFunc f ps a b=>match rd with
   | true=>none
   | false=>do
     let f ←cOpd f
     let a ←cCode P H n true a
     let b ←cCode P H n true b
     if ps.toList.all (fun p=>Nat.blt p n) then some (.rf f ps.toList a b) else none
 | _=>none
structure IFn where
 n:Nat
 res:List (Nat×Option (Nat×Bool))
 body:IR
def cRes(P:Program):List ResultVar→Option (List (Nat×Option (Nat×Bool)))
 | []=>some []
 | .tmp t::r=>do
   let r ←cRes P r
   some ((t,none)::r)
 | .cell a t::r=>do
   let sz ←szOf P t
   let agg ←aggOf P t
   let r ←cRes P r
   some ((a,some (sz,agg))::r)
def cFn(P:Program)(H:Hint)(fn:Func):Option IFn:=do
 let b ←fn.body
 let r ←cRes P fn.results.toList
 let b ←cCode P H fn.ntmps false b
 if Nat.ble fn.ntmps YS then some ⟨fn.ntmps,r,b⟩ else none
def envOf(args:List AV):Nat→AV:=fun t=>args.getD t .junk
def sig0:Sig:=fun _=>(0,.dead)
def resV(e:Nat→AV)(σ:Sig):List (Nat×Option (Nat×Bool))→Option (Prop×List AV)
 | []=>some (True,[])
 | (t,none)::r=>match forceA (e t),resV e σ r with
   | some v,some (p,l)=>some (p,v::l)
   | _,_=>none
 | (t,some (sz,agg))::r=>match ldO sz agg σ (e t),resV e σ r with
   | some (p,v),some (q,l)=>some (p∧q,v::l)
   | _,_=>none
def tupV:List AV→AV
 | [a]=>a
 | l=> .tup l
def endW(o:Option (Prop×List AV))(R:AV→Prop):Prop:=match o with
 | some (p,l)=>p∧R (tupV l)
 | none=>False
def EndW(res:List (Nat×Option (Nat×Bool)))(R:AV→Prop):Post:=fun x e σ=>
 match x with
 | .ex _=>False
 | _=>endW (resV e σ res) R
end Go.Abs
namespace Go.Abs
theorem upd_eq{α:Type}(f:Nat→α)(i:Nat)(v:α)(j:Nat):upd f i v j=if j=i then v else f j:=by
 unfold upd;by_cases h:j=i
 · subst h;simp
 · have:Nat.beq j i=false:=by
    cases hb:Nat.beq j i with
    | false=>rfl
    | true=>exact absurd (Nat.eq_of_beq_eq_true hb) h
   simp[this,h]
theorem upd_same{α:Type}{f:Nat→α}{i:Nat}{v:α}(h:f i=v):f=upd f i v:=by
 funext j;rw[upd_eq];by_cases e:j=i<;>simp[e,h]
section
variable {P:Program} {K:(Nat→AV)→Sig→Prop} {Q:Post} {e:Nat→AV} {σ σ':Sig} {R:AV→Prop}
theorem w_skip(h:Q .nor e σ):awp P .skip Q e σ:=h
theorem w_ret(h:Q .ret e σ):awp P .ret Q e σ:=h
theorem w_exit{i:Nat}(h:Q (.ex i) e σ):awp P (.exit i) Q e σ:=h
theorem w_ops{l:List IStep}(h:stepsW P l (Q .nor) e σ):awp P (.ops l) Q e σ:=h
theorem w_seq{a b:IR}(h:awp P a (seqQ (awp P b Q) Q) e σ):awp P (.seq a b) Q e σ:=h
theorem w_blk{i:Nat}{b:IR}(h:awp P b (blkQ i Q) e σ):awp P (.blk i b) Q e σ:=h
theorem w_scope{b:IR}(h:awp P b Q e σ):awp P (.scope b) Q e σ:=h
theorem w_nil(h:K e σ):stepsW P [] K e σ:=h
theorem w_val{d:Nat}{op:IOp}{r:List IStep}{p:Prop}{v:AV}(h:valO op e σ=some (p,v))(hp:p)(hk:stepsW P r K (upd e d v) σ):
  stepsW P (⟨some d,none,op⟩::r) K e σ:=by
 have:stepW P d op e σ (contS e (some d) (stepsW P r K)):=by
  have hd:detW (effO d op e σ) (contS e (some d) (stepsW P r K)):=by
   intro g;have:effO d op e σ g=some (p,v,σ):=by cases op<;>first | (simp only[effO,h];done) | (simp[valO] at h)
   rw[this];exact⟨hp,hk⟩
  cases op<;>first | exact hd | (simp[valO] at h)
 exact this
theorem w_det{d:Nat}{op:IOp}{r:List IStep}{p:Prop}{v:Nat→AV}{σ':Nat→Sig}(h:∀g,effO d op e σ g=some (p,v g,σ' g))(hp:p)(hk:∀g,stepsW P r K (upd e d (v g)) (σ' g)):
  stepsW P (⟨some d,none,op⟩::r) K e σ:=by
 have:stepW P d op e σ (contS e (some d) (stepsW P r K)):=by
  have hd:detW (effO d op e σ) (contS e (some d) (stepsW P r K)):=by intro g;rw[h];exact⟨hp,hk g⟩
  cases op<;>first | exact hd | (have:=h 0;simp[effO,valO] at this)
 exact this
theorem w_det0{op:IOp}{r:List IStep}{p:Prop}{v:AV}(h:∀g,effO 0 op e σ g=some (p,v,σ'))(hp:p)(hk:stepsW P r K e σ'):
  stepsW P (⟨none,none,op⟩::r) K e σ:=by
 have:stepW P 0 op e σ (contS e none (stepsW P r K)):=by
  have hd:detW (effO 0 op e σ) (contS e none (stepsW P r K)):=by intro g;rw[h];exact⟨hp,hk⟩
  cases op<;>first | exact hd | (have:=h 0;simp[effO,valO] at this)
 exact this
theorem w_call{d:Nat}{f:Nat}{args:List IOpd}{l:List AV}{r:List IStep}(h:evO e args=some l)(hk:ACall P f l σ d (contS e (some d) (stepsW P r K))):stepsW P (⟨some d,none,.callF f args⟩::r) K e σ:=by
 show argW (evO e args) _
 rw[h];exact hk
theorem w_call0{f:Nat}{args:List IOpd}{l:List AV}{r:List IStep}(h:evO e args=some l)(hk:ACall P f l σ 0 (contS e none (stepsW P r K))):stepsW P (⟨none,none,.callF f args⟩::r) K e σ:=by
 show argW (evO e args) _
 rw[h];exact hk
theorem w_callV{d:Nat}{f:Nat}{x:IOpd}{args:List IOpd}{l a b:List AV}{r:List IStep}(hx:x.ev e= .clo (.func f) a b)(h:evO e args=some l)(hk:ACall P f (a++l++b) σ d (contS e (some d) (stepsW P r K))):stepsW P (⟨some d,none,.callV x args⟩::r) K e σ:=by
 show argW (evO e args) _
 rw[h];show callVW P (x.ev e) _ _ _ _;rw[hx];exact hk
theorem w_callV0{f:Nat}{x:IOpd}{args:List IOpd}{l a b:List AV}{r:List IStep}(hx:x.ev e= .clo (.func f) a b)(h:evO e args=some l)(hk:ACall P f (a++l++b) σ 0 (contS e none (stepsW P r K))):stepsW P (⟨none,none,.callV x args⟩::r) K e σ:=by
 show argW (evO e args) _
 rw[h];show callVW P (x.ev e) _ _ _ _;rw[hx];exact hk
theorem w_cont{d:Nat}{v:AV}(h:K (upd e d v) σ):contS e (some d) K v σ:=h
theorem w_cont0{v:AV}(h:K e σ):contS e none K v σ:=h
theorem w_gt{d g:Nat}{b:Bool}{op:IOp}{r:List IStep}(h:e g= .bool b)(hk:stepsW P (⟨some d,none,op⟩::r) K e σ):
  stepsW P (⟨some d,some (g,b),op⟩::r) K e σ:=by
 show guardW (e g) b _ _
 rw[h];show (if b=b then _ else _);rw[if_pos rfl];exact hk
theorem w_gf{d g:Nat}{b c:Bool}{op:IOp}{r:List IStep}(h:e g= .bool c)(hc:c=!b)(hk:stepsW P r K (upd e d (.tup [])) σ):
  stepsW P (⟨some d,some (g,b),op⟩::r) K e σ:=by
 show guardW (e g) b _ _
 rw[h];show (if c=b then _ else _);rw[if_neg (by subst hc;cases b<;>simp)];exact hk
theorem w_gd{d g:Nat}{b:Bool}{p:Prop}[Decidable p]{op:IOp}{r:List IStep}(h:e g= .bool (decide p))(h1:p→stepsW P (⟨some d,some (g,b),op⟩::r) K (upd e g (.bool true)) σ)(h2:¬p→stepsW P (⟨some d,some (g,b),op⟩::r) K (upd e g (.bool false)) σ):
  stepsW P (⟨some d,some (g,b),op⟩::r) K e σ:=by
 by_cases hp:p
 · have:=h1 hp;rwa [←upd_same (by rw[h];simp[hp])] at this
 · have:=h2 hp;rwa [←upd_same (by rw[h];simp[hp])] at this
theorem w_gb{d g:Nat}{b c:Bool}{op:IOp}{r:List IStep}(h:e g= .bool c)(h1:c=true→stepsW P (⟨some d,some (g,b),op⟩::r) K (upd e g (.bool true)) σ)(h2:c=false→stepsW P (⟨some d,some (g,b),op⟩::r) K (upd e g (.bool false)) σ):
  stepsW P (⟨some d,some (g,b),op⟩::r) K e σ:=by
 cases c
 · have:=h2 rfl;rwa [←upd_same h] at this
 · have:=h1 rfl;rwa [←upd_same h] at this
def brW(t:Bool)(A B:Prop):Prop:=match t with
 | true=>A
 | false=>B
theorem w_c{c:IOpd}{a b:IR}{t:Bool}(h:c.ev e= .bool t)(hk:brW t (awp P a Q e σ) (awp P b Q e σ)):awp P (.cnd c a b) Q e σ:=by show cndW (c.ev e) _ _;rw[h];cases t<;>exact hk
theorem b_t{A B:Prop}(h:A):brW true A B:=h
theorem b_f{A B:Prop}(h:B):brW false A B:=h
theorem b_d{A B p:Prop}[Decidable p](h1:p→A)(h2:¬p→B):brW (decide p) A B:=by
 by_cases hp:p
 · rw[decide_eq_true hp];exact h1 hp
 · rw[decide_eq_false hp];exact h2 hp
theorem b_n{A B p:Prop}[Decidable p](h1:¬p→A)(h2:p→B):brW (!decide p) A B:=by
 by_cases hp:p
 · rw[decide_eq_true hp];exact h2 hp
 · rw[decide_eq_false hp];exact h1 hp
theorem b_b{A B:Prop}{t:Bool}(h1:t=true→A)(h2:t=false→B):brW t A B:=by
 cases t
 · exact h2 rfl
 · exact h1 rfl
def grW(c:Bool)(A B:Bool→Prop)(b:Bool):Prop:=match c with
 | true=>match b with | true=>A true | false=>B true
 | false=>match b with | true=>B false | false=>A false
theorem w_g{d g:Nat}{b c:Bool}{op:IOp}{r:List IStep}(h:e g= .bool c)(hk:grW c (fun c=>stepsW P (⟨some d,none,op⟩::r) K (upd e g (.bool c)) σ) (fun c=>stepsW P r K (upd (upd e g (.bool c)) d (.tup [])) σ) b):
  stepsW P (⟨some d,some (g,b),op⟩::r) K e σ:=by
 have he:=upd_same h;show guardW (e g) b _ _
 rw[h];cases c<;>cases b<;>simp only[grW,←he] at hk<;>exact hk
theorem w_gu{d g:Nat}{b:Bool}{op:IOp}{r:List IStep}(h:e g= .tup [])(hk:stepsW P r K (upd e d (.tup [])) σ):
  stepsW P (⟨some d,some (g,b),op⟩::r) K e σ:=by
 show guardW (e g) b _ _
 rw[h];exact hk
theorem g_tt{A B:Bool→Prop}(h:A true):grW true A B true:=h
theorem g_tf{A B:Bool→Prop}(h:B true):grW true A B false:=h
theorem g_ft{A B:Bool→Prop}(h:B false):grW false A B true:=h
theorem g_ff{A B:Bool→Prop}(h:A false):grW false A B false:=h
theorem g_dt{A B:Bool→Prop}{p:Prop}[Decidable p](h1:p→A true)(h2:¬p→B false):grW (decide p) A B true:=by
 by_cases hp:p
 · rw[decide_eq_true hp];exact h1 hp
 · rw[decide_eq_false hp];exact h2 hp
theorem g_df{A B:Bool→Prop}{p:Prop}[Decidable p](h1:p→B true)(h2:¬p→A false):grW (decide p) A B false:=by
 by_cases hp:p
 · rw[decide_eq_true hp];exact h1 hp
 · rw[decide_eq_false hp];exact h2 hp
theorem g_nt{A B:Bool→Prop}{p:Prop}[Decidable p](h1:¬p→A true)(h2:p→B false):grW (!decide p) A B true:=by
 by_cases hp:p
 · rw[decide_eq_true hp];exact h2 hp
 · rw[decide_eq_false hp];exact h1 hp
theorem g_nf{A B:Bool→Prop}{p:Prop}[Decidable p](h1:¬p→B true)(h2:p→A false):grW (!decide p) A B false:=by
 by_cases hp:p
 · rw[decide_eq_true hp];exact h2 hp
 · rw[decide_eq_false hp];exact h1 hp
theorem g_bt{A B:Bool→Prop}{c:Bool}(h1:c=true→A true)(h2:c=false→B false):grW c A B true:=by
 cases c
 · exact h2 rfl
 · exact h1 rfl
theorem g_bf{A B:Bool→Prop}{c:Bool}(h1:c=true→B true)(h2:c=false→A false):grW c A B false:=by
 cases c
 · exact h2 rfl
 · exact h1 rfl
theorem w_ct{c:IOpd}{a b:IR}(h:c.ev e= .bool true)(hk:awp P a Q e σ):awp P (.cnd c a b) Q e σ:=by show cndW (c.ev e) _ _;rw[h];exact hk
theorem w_cf{c:IOpd}{a b:IR}(h:c.ev e= .bool false)(hk:awp P b Q e σ):awp P (.cnd c a b) Q e σ:=by show cndW (c.ev e) _ _;rw[h];exact hk
theorem w_cd{c:IOpd}{a b:IR}{p:Prop}[Decidable p](h:c.ev e= .bool (decide p))(h1:p→awp P a Q e σ)(h2:¬p→awp P b Q e σ):awp P (.cnd c a b) Q e σ:=by
 show cndW (c.ev e) _ _;rw[h]
 by_cases hp:p
 · rw[decide_eq_true hp];exact h1 hp
 · rw[decide_eq_false hp];exact h2 hp
theorem w_cn{c:IOpd}{a b:IR}{p:Prop}[Decidable p](h:c.ev e= .bool (!decide p))(h1:¬p→awp P a Q e σ)(h2:p→awp P b Q e σ):awp P (.cnd c a b) Q e σ:=by
 show cndW (c.ev e) _ _;rw[h]
 by_cases hp:p
 · rw[decide_eq_true hp];exact h2 hp
 · rw[decide_eq_false hp];exact h1 hp
theorem w_cb{c:IOpd}{a b:IR}{t:Bool}(h:c.ev e= .bool t)(h1:t=true→awp P a Q e σ)(h2:t=false→awp P b Q e σ):awp P (.cnd c a b) Q e σ:=by
 show cndW (c.ev e) _ _;rw[h]
 cases t
 · exact h2 rfl
 · exact h1 rfl
theorem w_loop{b:IR}(I:Nat→(Nat→AV)→Sig→Prop)(n:Nat)(h0:I n e σ)(hr:∀n e' σ',I n e' σ'→awp P b (loopQ I n Q) e' σ'):awp P (.loop b) Q e σ:=⟨I,n,h0,hr⟩
def slots{β:Type}:List (Nat×β)→(Nat→β)→Prop
 | [],_=>True
 | (i,v)::r,e=>e i=v∧slots r e
def updL{β:Type}:List (Nat×β)→(Nat→β)→Nat→β
 | [],e=>e
 | (i,v)::r,e=>upd (updL r e) i v
def inL(t:Nat):List Nat→Bool
 | []=>false
 | x::r=>match Nat.beq t x with
   | true=>true
   | false=>inL t r
def keepL{β:Type}(k:List Nat)(e e':Nat→β)(t:Nat):β:=match inL t k with
 | true=>e t
 | false=>e' t
def kept{β:Type}:List Nat→(Nat→β)→(Nat→β)→Prop
 | [],_,_=>True
 | t::r,e,e'=>e' t=e t∧kept r e e'
theorem updL_slots{β:Type}{e:Nat→β}:∀{l:List (Nat×β)},slots l e→updL l e=e
 | [],_=>rfl
 | (i,v)::r,⟨h1,h2⟩=>by rw[updL,updL_slots h2,←upd_same h1]
theorem keepL_kept{β:Type}{e e':Nat→β}:∀{k:List Nat},kept k e e'→keepL k e e'=e'
 | k,h=>by
   funext t
   unfold keepL;have key:∀k:List Nat,kept k e e'→inL t k=true→e' t=e t:=by
    intro k;induction k with
    | nil=>intro _ h;cases h
    | cons x r ih=>
      rintro⟨h1,h2⟩ hi;simp only[inL] at hi;split at hi
      · rename_i hb;have:=Nat.eq_of_beq_eq_true hb;subst this;exact h1
      · exact ih h2 hi
   split
   · rename_i hi;rw[key k h hi]
   · rfl
def loopK{α:Type}(kE kS:List Nat)(e0:Nat→AV)(σ0:Sig)(C:α→Prop)(μ:α→Nat)(F:α→List (Nat×AV))(S:α→List (Nat×(Nat×Res)))(n:Nat)(Q:Post):Post
 | .nor,e,σ=>∃y,C y∧μ y<n∧slots (F y) e∧slots (S y) σ∧kept kE e0 e∧kept kS σ0 σ
 | x,e,σ=>Q x e σ
end
end Go.Abs
namespace Go.Abs
section
variable {P:Program}
theorem ACall.mono'{f:Nat}{args:List AV}{σ:Sig}{d:Nat}{Q Q':AV→Sig→Prop}(h:ACall P f args σ d Q)(hm:∀a s,Q a s→Q' a s):ACall P f args σ d Q':=
 ⟨h.1,fun Y T G w vals a b c d=>(h.2 Y T G w vals a b c d).mono fun e w' ⟨v,av,σ',G',T',k1,k2,k3,k4,k5⟩=>⟨v,av,σ',G',T',k1,k2,k3,hm _ _ k4,k5⟩⟩
theorem callVW_mono{x:AV}{args:List AV}{σ:Sig}{d:Nat}{K K':AV→Sig→Prop}(hm:∀a s,K a s→K' a s)(h:callVW P x args σ d K):callVW P x args σ d K':=by
 unfold callVW at h ⊢;split
 · exact ACall.mono' h hm
 · split
   · rename_i hσ;simp only[hσ] at h;exact⟨h.1,h.2.1,fun b=>hm _ _ (h.2.2 b)⟩
   · rename_i hx;simp only[hx] at h
 · split at h
   · rename_i h1 _;exact absurd rfl (h1 _ _ _)
   · rename_i h2;exact absurd rfl (h2 _)
   · exact h
theorem detW_mono{o:Nat→Option (Prop×AV×Sig)}{K K':AV→Sig→Prop}(hm:∀a s,K a s→K' a s)(h:detW o K):detW o K':=by
 intro g;have:=h g;split
 · rename_i ho;rw[ho] at this;exact⟨this.1,hm _ _ this.2⟩
 · rename_i ho;rw[ho] at this;exact this
theorem argW_mono{o:Option (List AV)}{K K':List AV→Prop}(hm:∀l,K l→K' l)(h:argW o K):argW o K':=by
 unfold argW at h ⊢;split
 · exact hm _ h
 · exact h
theorem stepW_mono{d:Nat}{op:IOp}{e:Nat→AV}{σ:Sig}{K K':AV→Sig→Prop}(hm:∀a s,K a s→K' a s)(h:stepW P d op e σ K):stepW P d op e σ K':=by
 cases op
 case new z=>exact detW_mono (o:=effO d (.new z) e σ) hm h
 case nil a b=>exact detW_mono (o:=effO d (.nil a b) e σ) hm h
 case kil a=>exact detW_mono (o:=effO d (.kil a) e σ) hm h
 case mkm=>exact detW_mono (o:=effO d .mkm e σ) hm h
 case bad=>exact detW_mono (o:=effO d .bad e σ) hm h
 all_goals first | exact argW_mono (fun l h=>ACall.mono' h hm) h | exact argW_mono (fun l h=>callVW_mono hm h) h | (change detW (effO d _ e σ) K at h;change detW (effO d _ e σ) K';exact detW_mono hm h)
theorem IStep.wp_mono{st:IStep}{K K':(Nat→AV)→Sig→Prop}{e:Nat→AV}{σ:Sig}(hm:∀a s,K a s→K' a s)(h:st.wp P K e σ):st.wp P K' e σ:=by
 obtain⟨d,g,op⟩:=st;cases g with
 | none=>exact stepW_mono (fun a s h=>hm _ _ h) h
 | some g=>
   obtain⟨g,b⟩:=g;show guardW _ _ _ _
   have h':guardW (e g) b (stepW P (d.getD 0) op e σ (contS e d K)) (K (putE e d (.tup [])) σ):=h;unfold guardW at h' ⊢;split
   · rename_i hb;simp only[hb] at h';split
     · rename_i hc;rw[if_pos hc] at h';exact stepW_mono (fun a s h=>hm _ _ h) h'
     · rename_i hc;rw[if_neg hc] at h';exact hm _ _ h'
   · rename_i hb;simp only[hb] at h';exact hm _ _ h'
   · rename_i hb hb2;split at h'
     · rename_i c hc;exact absurd hc (hb c)
     · rename_i hc;exact absurd hc hb2
     · exact h'
theorem stepsW_mono:∀{l:List IStep} {K K':(Nat→AV)→Sig→Prop} {e:Nat→AV} {σ:Sig},(∀a s,K a s→K' a s)→stepsW P l K e σ→stepsW P l K' e σ
 | [],_,_,_,_,hm,h=>hm _ _ h
 | st::r,_,_,_,_,hm,h=>IStep.wp_mono (fun _ _ h=>stepsW_mono hm h) h
theorem awp_mono:∀{ir:IR} {Q Q':Post} {e:Nat→AV} {σ:Sig},(∀x a s,Q x a s→Q' x a s)→awp P ir Q e σ→awp P ir Q' e σ
 | .skip,_,_,_,_,hm,h=>hm _ _ _ h
 | .ops l,_,_,_,_,hm,h=>stepsW_mono (fun _ _ h=>hm _ _ _ h) h
 | .seq a b,_,_,_,_,hm,h=>awp_mono (ir:=a) (fun x a s h=>by
    cases x
    · exact awp_mono (ir:=b) hm h
    · exact hm _ _ _ h
    · exact hm _ _ _ h) h
 | .cnd c a b,_,_,_,_,hm,h=>by
    have h':cndW (c.ev _) _ _:=h;show cndW (c.ev _) _ _
    unfold cndW at h' ⊢;split
    · rename_i t ht;simp only[ht] at h';split
      · rename_i hc;rw[if_pos hc] at h';exact awp_mono (ir:=a) hm h'
      · rename_i hc;rw[if_neg hc] at h';exact awp_mono (ir:=b) hm h'
    · rename_i ht;split at h'
      · rename_i c hc;exact absurd hc (ht c)
      · exact h'
 | .blk id b,_,_,_,_,hm,h=>awp_mono (ir:=b) (fun x a s h=>by
    cases x with
    | nor=>exact hm _ _ _ h
    | ret=>exact hm _ _ _ h
    | ex j=>
      show (match Nat.beq j id with | true=>_ | false=>_)
      have h':(match Nat.beq j id with | true=>_ | false=>_):=h;split
      · rename_i hb;rw[hb] at h';exact hm _ _ _ h'
      · rename_i hb;rw[hb] at h';exact hm _ _ _ h') h
 | .loop b,_,_,_,_,hm,⟨I,n,h0,hr⟩=>⟨I,n,h0,fun m e' σ' hI=>awp_mono (ir:=b) (fun x a s h=>by
    cases x with
    | nor=>exact h
    | ret=>exact hm _ _ _ h
    | ex j=>exact hm _ _ _ h) (hr m e' σ' hI)⟩
 | .scope b,_,_,_,_,hm,h=>awp_mono (ir:=b) hm h
 | .exit _,_,_,_,_,hm,h=>hm _ _ _ h
 | .ret,_,_,_,_,hm,h=>hm _ _ _ h
 | .rf f ps a b,_,_,e,_,hm,⟨g,lb,xs,I,h1,h2,h3,h4,h5,h6⟩=>⟨g,lb,xs,I,h1,h2,h3,h4,fun x rest σ' hx hI=>awp_mono (ir:=a) (fun x a s h=>by
    cases x with
    | nor=>exact awp_mono (ir:=b) (fun x a s h=>by
       cases x with
       | nor=>exact h
       | ret=>exact hm _ _ _ h
       | ex j=>exact hm _ _ _ h) h
    | ret=>exact h
    | ex j=>exact h) (h5 x rest σ' hx hI),fun σ' h=>hm _ _ _ (h6 σ' h)⟩
 | .frz x,_,_,e,_,hm,h=>by
    have h':frzW (x.ev e) e _ _:=h;show frzW (x.ev e) e _ _
    revert h'
    unfold frzW;cases x.ev e<;>simp only[imp_self]<;>first | exact hm _ _ _ | (split<;>first | exact fun h=>⟨h.1,h.2.1,hm _ _ _ h.2.2⟩ | exact fun h=>⟨h.1,hm _ _ _ h.2⟩ | exact id)
 | .mve x,_,_,e,_,hm,h=>by
    have h':mveW (x.ev e) e _ _:=h;show mveW (x.ev e) e _ _
    revert h'
    unfold mveW;cases x.ev e<;>simp only[imp_self];split
    · exact fun h=>⟨h.1,h.2.elim fun j hj=>⟨j,hj.1,hj.2.1,fun g=>hm _ _ _ (hj.2.2 g)⟩⟩
    · exact id
 | .alt a b,_,_,_,_,hm,h=>⟨awp_mono (ir:=a) hm h.1,awp_mono (ir:=b) hm h.2⟩
theorem w_loopK{Q:Post}{e:Nat→AV}{σ:Sig}{b:IR}{α:Type}(kE kS:List Nat)(C:α→Prop)(μ:α→Nat)(F:α→List (Nat×AV))(S:α→List (Nat×(Nat×Res)))(x0:α)(hC:C x0)(hF:slots (F x0) e)(hS:slots (S x0) σ)(hr:∀x,C x→ ∀e' σ',awp P b (loopK kE kS e σ C μ F S (μ x) Q) (updL (F x) (keepL kE e e')) (updL (S x) (keepL kS σ σ'))):awp P (.loop b) Q e σ:=by
 have refl:∀{β:Type} (k:List Nat) (e:Nat→β),kept k e e:=by
  intro β k e;induction k with
  | nil=>trivial
  | cons t r ih=>exact⟨rfl,ih⟩
 refine⟨fun n e' σ'=>∃y,C y∧μ y=n∧slots (F y) e'∧slots (S y) σ'∧kept kE e e'∧kept kS σ σ',μ x0,⟨x0,hC,rfl,hF,hS,refl _ _,refl _ _⟩,?_⟩;rintro n e' σ' ⟨y,h1,rfl,h3,h4,h5,h6⟩;have:=hr y h1 e' σ';rw[keepL_kept h5,keepL_kept h6,updL_slots h3,updL_slots h4] at this;refine awp_mono (fun x a s h=>?_) this;cases x with
 | nor=>obtain⟨z,k1,k2,k3,k4,k5,k6⟩:=h;exact⟨μ z,k2,z,k1,rfl,k3,k4,k5,k6⟩
 | ret=>exact h
 | ex j=>exact h
end
section
variable {P:Program} {K:(Nat→AV)→Sig→Prop} {Q:Post} {e:Nat→AV} {σ σ':Sig} {R:AV→Prop}
theorem q_seq(h:K e σ):seqQ K Q .nor e σ:=h
theorem q_seq_ex{i:Nat}(h:Q (.ex i) e σ):seqQ K Q (.ex i) e σ:=h
theorem q_seq_ret(h:Q .ret e σ):seqQ K Q .ret e σ:=h
theorem q_blk{i:Nat}(h:Q .nor e σ):blkQ i Q .nor e σ:=h
theorem q_blk_ret{i:Nat}(h:Q .ret e σ):blkQ i Q .ret e σ:=h
theorem q_blk_same{i:Nat}(h:Q .nor e σ):blkQ i Q (.ex i) e σ:=by show (match Nat.beq i i with | true=>Q .nor e σ | false=>Q (.ex i) e σ);rw[show Nat.beq i i=true by simp];exact h
theorem q_blk_ne{i j:Nat}(hb:Nat.beq j i=false)(h:Q (.ex j) e σ):blkQ i Q (.ex j) e σ:=by show (match Nat.beq j i with | true=>Q .nor e σ | false=>Q (.ex j) e σ);rw[hb];exact h
theorem q_loop_ex{α:Type}{kE kS:List Nat}{e0:Nat→AV}{σ0:Sig}{C:α→Prop}{μ:α→Nat}{F:α→List (Nat×AV)}{S:α→List (Nat×(Nat×Res))}{n i:Nat}(h:Q (.ex i) e σ):loopK kE kS e0 σ0 C μ F S n Q (.ex i) e σ:=h
theorem q_loop_ret{α:Type}{kE kS:List Nat}{e0:Nat→AV}{σ0:Sig}{C:α→Prop}{μ:α→Nat}{F:α→List (Nat×AV)}{S:α→List (Nat×(Nat×Res))}{n:Nat}(h:Q .ret e σ):loopK kE kS e0 σ0 C μ F S n Q .ret e σ:=h
theorem q_loop{α:Type}{kE kS:List Nat}{e0:Nat→AV}{σ0:Sig}{C:α→Prop}{μ:α→Nat}{F:α→List (Nat×AV)}{S:α→List (Nat×(Nat×Res))}{n:Nat}(y:α)(h1:C y)(h2:μ y<n)(h3:slots (F y) e)(h4:slots (S y) σ)(h5:kept kE e0 e)(h6:kept kS σ0 σ):loopK kE kS e0 σ0 C μ F S n Q .nor e σ:=⟨y,h1,h2,h3,h4,h5,h6⟩
theorem q_end{res:List (Nat×Option (Nat×Bool))}{p:Prop}{l:List AV}(h:resV e σ res=some (p,l))(hp:p)(hR:R (tupV l)):EndW res R .ret e σ:=by show endW _ _;rw[h];exact⟨hp,hR⟩
theorem q_end'{res:List (Nat×Option (Nat×Bool))}{p:Prop}{l:List AV}(h:resV e σ res=some (p,l))(hp:p)(hR:R (tupV l)):EndW res R .nor e σ:=by show endW _ _;rw[h];exact⟨hp,hR⟩
end
end Go.Abs
