/- A part of the proofs: contracts of functions. -/
import Derived.Test.YtioggblimkgioaaGreatSnd3
import Derived.Test.YtioggblimkgioaaGreatRows
import Derived.WalkKit
import Derived.ProofKit
import Derived.OpenShut
import Derived.ShutString
import Derived.ChangeOld
import Derived.SizedLaws
import Derived.Below
import Derived.Test.YtioggblimkgioaaGreatProg
import Derived.Test.YtioggblimkgioaaGreatA0
set_option linter.unusedVariables false
set_option linter.unusedSimpArgs false
set_option maxRecDepth 20000
set_option maxHeartbeats 4000000
namespace Go.Abs
open Go.RowKit
variable {P:Program}
theorem Ext.below{K K':Nat→Nat→Option Value}{w w':World}(h:Ext (fun _=>False) K w K' w'):Below w.heap.size w w':=
 ⟨h.os,h.tape,h.output,h.size,fun k hk=>h.block k hk id⟩
def K0(w:World)(b o:Nat):Option Value:=match w.cell? ⟨b,o,none⟩ with
 | some v=>match v.oneCell' with
   | true=>some v
   | false=>none
 | none=>none
theorem K0_ok(w:World):Kok (K0 w) w:=⟨fun b o v h=>by
 simp only[K0] at h;split at h
 · rename_i u hc;split at h
   · rename_i h1;cases h
     left
     unfold World.cell? at hc;cases hb:w.heap[b]? with
     | none=>simp[hb] at hc
     | some ob=> simp only[hb] at hc;cases ob<;>simp at hc;exact⟨_,_,_,rfl,by simpa using hc,h1⟩
   · cases h
 · cases h⟩
theorem K0_get{w:World}{b o:Nat}{v:Value}(h:w.cell? ⟨b,o,none⟩=some v)(h1:v.oneCell'=true):K0 w b o=some v:=by simp only[K0,h,h1]
def IsRow(k:IntKind)(w:World)(a:Option Addr)(len cap:Nat)(zs:List Int):Prop:=
 (a=none∧len=0∧cap=0∧zs=[])∨
 ∃b o,a=some ⟨b,o,none⟩∧len≤cap∧cap≤maxLen∧zs.length=cap∧(∀i,i<zs.length→w.cell? ⟨b,o+i,none⟩=some (.int k (zs.getD i 0)))∧ ∀n∈zs,(Lit.int k n).wf=true
theorem rows_of{w:World}{b:Nat}{k:IntKind}:∀{zs:List Int} {o:Nat},(∀i,i<zs.length→w.cell? ⟨b,o+i,none⟩=some (.int k (zs.getD i 0)))→RelRows (GS.pure (K0 w)) b o 1 (zs.map fun n=>[.int k n])
 | [],_,_=>trivial
 | z::zs,o,h=>by
   refine⟨rfl,⟨⟨.int k z,K0_get (by simpa using h 0 (by simp)) rfl,rfl,rfl⟩,trivial⟩,rows_of fun i hi=>?_⟩;have:=h (i+1) (by simpa using hi)
   simpa[Nat.add_assoc,Nat.add_comm 1 i] using this
theorem IsRow.rel{k:IntKind}{w:World}{a:Option Addr}{len cap:Nat}{zs:List Int}(h:IsRow k w a len cap zs):(zs.take len).length=len∧len≤maxLen∧Rel (GS.pure (K0 w)) (.slc 1 ((zs.take len).map fun n=>[.int k n]) .non) (.slice a len cap):=by
 rcases h with⟨rfl,rfl,rfl,rfl⟩ | ⟨b,o,rfl,hl,hm,hz,hc,hw⟩
 · exact⟨rfl,Nat.zero_le _,.inl ⟨.inl rfl,rfl⟩⟩
 · have hlen:(zs.take len).length=len:=by simp;omega
   refine⟨hlen,by omega,.inr ⟨b,o,cap,by rw[List.length_map,hlen],by rw[List.length_map,hlen];exact hl,rows_of fun i hi=>?_,trivial⟩⟩;rw[List.length_take] at hi;have h1:=hc i (by omega)
   simpa[List.getD_eq_getElem?_getD,List.getElem?_take,show i<len by omega] using h1
theorem spot_of{P:Program}{W:World}{t e:TypeId}{a:Addr}{len cap:Nat}(ht:P.underlying t=some (.slice e))(h:Value.okWide P W .any 0 t (.slice (some a) len cap)):a.spot=none:=by simp only[Value.okWide,ht,Cell.okWide,Cell.ok] at h;exact h.2.2.2.1
end Go.Abs
namespace Go.Proofs.YtioggblimkgioaaGreat
open Go.ChangeShapes Go.WideShapes Go.ChangeAt Go.RowKit Go.Abs
open Go.ChangeMaps (open_string shut_string)
theorem own:ownKnob Tryz.prog.godebug=none:=by kernel_rfl
theorem laidOut:laidOutB Tryz.prog=true:=by kernel_rfl
set_option maxRecDepth 100000 in
theorem open_nums{H:Type}{enc:TypeId×Value→H}{W:World}{base:Nat}{v:Value}{d:DataW H}{ps:List MemPlace}(hv:Value.okWide Tryz.prog W .any base 22 v)(h:DataW.Trod enc Tryz.prog W 0 (fun _=>true) true 22 v d ps)(hw:(DataW.weights Tryz.prog 22 d).all (· ≤reachBytes)=true):
  ∃a len cap zs,v= .slice a len cap∧IsRow .i64 W a len cap zs∧len<2^48:=by
 obtain⟨a,len,cap,rfl⟩:=okWide_slice Tryz.underlying22 hv;obtain⟨fuel,hf⟩:=h;rcases open_ints Tryz.underlying22 Tryz.underlying3 (by kernel_rfl) hf with⟨hcs,_⟩ | ⟨x,l,c,zs,hcs,_,hl,hm,hz,hd,hcell,hwz⟩
 · simp[Value.cells] at hcs;obtain⟨rfl,rfl,rfl⟩:=hcs;exact⟨none,0,0,[],rfl,.inl ⟨rfl,rfl,rfl,rfl⟩,by omega⟩
 · simp[Value.cells] at hcs;obtain⟨rfl,rfl,rfl⟩:=hcs;have hs:=spot_of Tryz.underlying22 hv;obtain⟨b,o,sp⟩:=x;dsimp only at hs;subst hs;have hz':zs.length=cap:=by simpa using hz
   refine⟨_,len,cap,zs,rfl,.inr ⟨b,o,rfl,hl,hm,hz',fun i hi=>?_,hwz⟩,?_⟩
   · have e:(⟨b,o,none⟩:Addr).add i=⟨b,o+i,none⟩:=by
      by_cases h0:i=0
      · subst h0;rfl
      · simp[Addr.add,h0]
     rw[←e];exact hcell i hi
   · have hd':d= .slice (lits .i64 (zs.take len)) (lits .i64 (zs.drop len)):=congrArg Prod.fst hd;subst hd';simp only[DataW.weights,Tryz.underlying22,List.all_cons,Bool.and_eq_true,decide_eq_true_eq] at hw;have h8:Tryz.prog.bytesOf 3=8:=by kernel_rfl
     have h1:=hw.1;simp only[lits,List.length_map,List.length_take,List.length_drop,hz'] at h1;rw[h8] at h1;have hm:min len cap=len:=Nat.min_eq_left hl;rw[hm] at h1;have hr:reachBytes=140737488351232:=rfl;rw[hr] at h1;omega
end Go.Proofs.YtioggblimkgioaaGreat
namespace Go.Abs
open Go.Proofs
variable {P:Program}
abbrev iR(xs:List Int):List (List AV):=xs.map fun n=>[.int .i64 n]
theorem w_ixM{K:(Nat→AV)→Sig→Prop}{e:Nat→AV}{σ:Sig}{α:Type}{f:α→List AV}{l:List α}{d sz:Nat}{t:Tag}{x i:IOpd}{r:List IStep}{k:IntKind}{n:Int}(hx:x.ev e= .slc sz (l.map f) t)(hi:i.ev e= .int k n)(h:0≤n∧n<l.length)(hk:∀y,l[n.toNat]?=some y→stepsW P r K (upd e d (.pin (f y))) σ):stepsW P (⟨some d,none,.ixA sz x i⟩::r) K e σ:=by
 refine w_val (v:= .pin ((l.map f).getD n.toNat [])) (p:=sz=sz∧0≤n∧n<(l.map f).length) (by show ixAO sz (x.ev e) (i.ev e)=_;rw[hx,hi];rfl) ⟨rfl,h.1,by simpa using h.2⟩ ?_;have hlt:n.toNat<l.length:=by omega
 have:(l.map f).getD n.toNat []=f l[n.toNat]:=by rw[List.getD_eq_getElem?_getD,List.getElem?_map,List.getElem?_eq_getElem hlt];rfl
 rw[this];exact hk _ (List.getElem?_eq_getElem hlt)
theorem w_ixP{K:(Nat→AV)→Sig→Prop}{e:Nat→AV}{σ:Sig}{α:Type}{f:α→List AV}{l:List α}{pre post:List α}{y:α}{d sz:Nat}{t:Tag}{x i:IOpd}{r:List IStep}(hl:l=pre++y::post)(hx:x.ev e= .slc sz (l.map f) t)(hi:i.ev e= .int .i64 pre.length)(hk:stepsW P r K (upd e d (.pin (f y))) σ):stepsW P (⟨some d,none,.ixA sz x i⟩::r) K e σ:=by
 subst hl;refine w_val (v:= .pin (((pre++y::post).map f).getD ((pre.length:Int)).toNat [])) (p:=sz=sz∧0≤(pre.length:Int)∧(pre.length:Int)<((pre++y::post).map f).length) (by show ixAO sz (x.ev e) (i.ev e)=_;rw[hx,hi];rfl) ⟨rfl,by omega,by simp;omega⟩ ?_;have:((pre++y::post).map f).getD ((pre.length:Int)).toNat []=f y:=by rw[List.getD_eq_getElem?_getD,Int.toNat_natCast,List.getElem?_map];simp
 rw[this];exact hk
def BoxS(g:Nat)(w:Int):Sig:=sg [(1000,(g,.row [.int .u64 w]))]
def BoxR(g:Nat)(V:AV→Prop):AV→Sig→Prop:=fun av σ'=>∃w',V av∧σ' 1000=(g,.row [.int .u64 w'])
theorem ACall.box{f:Nat}{args0 args:List AV}{V:AV→Prop}{σ:Sig}{d j g:Nat}{w:Int}{Q:AV→Sig→Prop}(h:RawC P f (.ref 1000 g 0::args0) (BoxS g w) (BoxR g V))(hr:renOK [(1000,j)]=true)(hσ:σ j=(g,.row [.int .u64 w]))(ha:args0=renL [(j,1000)] args)(hQ:∀av w',V av→Q (ren [(1000,j)] av) (upd σ j (g,.row [.int .u64 w']))):ACall P f (.ref j g 0::args) σ d Q:=by
 subst ha;refine ACall.lift (l0:=[(1000,(g,.row [.int .u64 w]))]) h [(1000,j)] none hr ?_ ?_ ⟨⟨_,by rw[hσ]⟩,trivial⟩ ?_
 · show _=ren _ _::_
   have:lk (flipL [(1000,j)]) j=some 1000:=by simp[flipL,lk]
   simp only[ren,this];rfl
 · simp only[pull,hσ,renR];rfl
 · rintro av σ0' ⟨w',hV,hs⟩;have:=hQ av w' hV;have e:=push_one (ρ:=outs d none++[(1000,j)]) (σ:=σ) (b:=j) (r:=[]) hs;rw[show (outs d none++[(1000,j)])=[(1000,j)] from rfl] at e ⊢;rw[e];exact this
end Go.Abs
namespace Go.Abs
theorem wrap_u64(n:Int):0≤IntKind.u64.wrap n∧IntKind.u64.wrap n<18446744073709551616:=by simp[IntKind.wrap,IntKind.bits,IntKind.signed];omega
theorem wrap_u64_id(n:Int)(h:0≤n)(h2:n<18446744073709551616):IntKind.u64.wrap n=n:=by simp[IntKind.wrap,IntKind.bits,IntKind.signed];omega
end Go.Abs
namespace Go.Abs
variable {P:Program}
theorem w_lenM{K:(Nat→AV)→Sig→Prop}{e:Nat→AV}{σ:Sig}{α:Type}{f:α→List AV}{l:List α}{d sz:Nat}{t:Tag}{x:IOpd}{r:List IStep}(hx:x.ev e= .slc sz (l.map f) t)(hk:stepsW P r K (upd e d (.int .i64 l.length)) σ):stepsW P (⟨some d,none,.len false x⟩::r) K e σ:=by
 refine w_val (v:= .int .i64 (l.map f).length) (p:=True) (by show lenO false (x.ev e)=_;rw[hx];rfl) trivial ?_;rw[List.length_map];exact hk
theorem w_slM{K:(Nat→AV)→Sig→Prop}{e:Nat→AV}{σ:Sig}{α:Type}{f:α→List AV}{l:List α}{d sz:Nat}{t:Tag}{x:IOpd}{lo hi:Option IOpd}{a b:Int}{r:List IStep}(hx:x.ev e= .slc sz (l.map f) t)(ha:boundO e 0 lo=some a)(hb:boundO e l.length hi=some b)(h:0≤a∧a≤b∧b≤l.length)(hk:stepsW P r K (upd e d (.slc sz (((l.drop a.toNat).take (b-a).toNat).map f) .non)) σ):stepsW P (⟨some d,none,.slS sz x lo hi none⟩::r) K e σ:=by
 refine w_val (v:= .slc sz (((l.map f).drop a.toNat).take (b-a).toNat) .non) (p:=sz=sz∧0≤a∧a≤b∧b≤(l.map f).length) ?_ ⟨rfl,h.1,h.2.1,by simpa using h.2.2⟩ ?_
 · show slSO sz e (x.ev e) lo hi none=_
   rw[hx];simp only[slSO,ha,List.length_map,hb]
 · rw[←List.map_drop,←List.map_take];exact hk
theorem b_dt{A B p:Prop}[Decidable p](hp:p)(h:A):brW (decide p) A B:=by rw[decide_eq_true hp];exact h
theorem b_df{A B p:Prop}[Decidable p](hp:¬p)(h:B):brW (decide p) A B:=by rw[decide_eq_false hp];exact h
theorem b_nt{A B p:Prop}[Decidable p](hp:p)(h:B):brW (!decide p) A B:=by rw[decide_eq_true hp];exact h
theorem b_nf{A B p:Prop}[Decidable p](hp:¬p)(h:A):brW (!decide p) A B:=by rw[decide_eq_false hp];exact h
def SR{α:Type}(V:α→AV→Prop)(L:α→List (Nat×(Nat×Res))):AV→Sig→Prop:=fun av σ'=>∃x,V x av∧slots (L x) σ'
def lkS(a:Nat):List (Nat×(Nat×Res))→Option (Nat×Res)
 | []=>none
 | (b,x)::r=>match Nat.beq b a with
   | true=>some x
   | false=>lkS a r
def pushV(ρ:List (Nat×Nat))(L:List (Nat×(Nat×Res))):List (Nat×Nat)→Sig→Sig
 | [],σ=>σ
 | (a,b)::r,σ=>match lkS a L with
   | some x=>upd (pushV ρ L r σ) b (x.1,renR ρ x.2)
   | none=>pushV ρ L r σ
def covers(L:List (Nat×(Nat×Res))):List (Nat×Nat)→Bool
 | []=>true
 | (a,_)::r=>match lkS a L with
   | some _=>covers L r
   | none=>false
theorem lkS_slots{σ0:Sig}{a:Nat}{x:Nat×Res}:∀{L:List (Nat×(Nat×Res))},slots L σ0→lkS a L=some x→σ0 a=x
 | (b,y)::r,⟨h1,h2⟩,h=>by
   simp only[lkS] at h;split at h
   · rename_i hb;cases h;rw[←nbeq.1 hb];exact h1
   · exact lkS_slots h2 h
theorem push_slots{ρ:List (Nat×Nat)}{σ0 σ:Sig}{L:List (Nat×(Nat×Res))}(h:slots L σ0):∀{l:List (Nat×Nat)},covers L l=true→push ρ σ0 l σ=pushV ρ L l σ
 | [],_=>rfl
 | (a,b)::r,hc=>by
   simp only[covers] at hc;split at hc
   · rename_i x hx;simp only[push,pushV,hx];rw[push_slots h hc,lkS_slots h hx]
   · cases hc
theorem ACall.liftS{f:Nat}{args0 args:List AV}{l0:List (Nat×(Nat×Res))}{σ:Sig}{α:Type}{V:α→AV→Prop}{L:α→List (Nat×(Nat×Res))}{d:Nat}{Q:AV→Sig→Prop}(h:RawC P f args0 (sg l0) (SR V L))(ρi:List (Nat×Nat))(s:Option Nat)(hr:renOK (outs d s++ρi)=true)(ha:args0=renL (flipL ρi) args)(h0:l0=pull (flipL ρi) σ ρi)(hl:liveL σ ρi)(hc:∀x,covers (L x) (outs d s++ρi)=true)(hQ:∀x av,V x av→Q (ren (outs d s++ρi) av) (pushV (outs d s++ρi) (L x) (outs d s++ρi) σ)):ACall P f args σ d Q:=
 ACall.lift h ρi s hr ha h0 hl fun av σ0' ⟨x,hV,hs⟩=>by rw[push_slots hs (hc x)];exact hQ x av hV
theorem map_snoc{α:Type}{f:α→List AV}{l:List α}{x:α}:(l++[x]).map f=l.map f++[f x]:=by simp
end Go.Abs
namespace Go.Abs
theorem len_snoc{α:Type}{l:List α}{x:α}:(l++[x]).length=l.length+1:=by simp
structure Guest where
 name:ByteArray
 rank:Int
 honour:Int
 never:Int
 maybe:Int
 deriving DecidableEq
structure Dish where
 turn:Int
 parts:Int
 cost:Int
 deriving DecidableEq
structure Rule where
 kind:Int
 a:Int
 b:Int
 weight:Int
 deriving DecidableEq
structure Bond where
 kind:Int
 a:Int
 b:Int
 deriving DecidableEq
abbrev Guest.row(g:Guest):List AV:=[.str g.name,.int .i64 g.rank,.int .i64 g.honour,.int .i64 g.never,.int .i64 g.maybe]
abbrev Dish.row(g:Dish):List AV:=[.int .i64 g.turn,.int .i64 g.parts,.int .i64 g.cost]
abbrev Rule.row(g:Rule):List AV:=[.int .i64 g.kind,.int .i64 g.a,.int .i64 g.b,.int .i64 g.weight]
abbrev Bond.row(g:Bond):List AV:=[.int .i64 g.kind,.int .i64 g.a,.int .i64 g.b]
abbrev gR(l:List Guest):List (List AV):=l.map fun g=>[.str g.name,.int .i64 g.rank,.int .i64 g.honour,.int .i64 g.never,.int .i64 g.maybe]
abbrev rR(l:List Rule):List (List AV):=l.map fun g=>[.int .i64 g.kind,.int .i64 g.a,.int .i64 g.b,.int .i64 g.weight]
def inB(n a b:Int):Bool:=decide (a≤n∧n≤b)
theorem inB_t{n a b:Int}:inB n a b=true↔a≤n∧n≤b:=by simp[inB]
theorem inB_f{n a b:Int}:inB n a b=false↔n<a∨b<n:=by simp[inB];omega
def letB(c:UInt8):Bool:=decide (97≤(c.toNat:Int)∧(c.toNat:Int)≤122)
def namedB(s:ByteArray):Bool:=inB s.size 1 8 && s.data.toList.all letB
end Go.Abs
namespace Go.Abs
theorem slots_nil{β:Type}{e:Nat→β}:slots [] e:=trivial
theorem slots_cons{β:Type}{e:Nat→β}{i:Nat}{v:β}{r:List (Nat×β)}(h:e i=v)(h2:slots r e):slots ((i,v)::r) e:=⟨h,h2⟩
theorem kept_nil{β:Type}{e e':Nat→β}:kept [] e e':=trivial
theorem kept_cons{β:Type}{e e':Nat→β}{i:Nat}{r:List Nat}(h:e' i=e i)(h2:kept r e e'):kept (i::r) e e':=⟨h,h2⟩
end Go.Abs
namespace Go.Abs
variable {P:Program}
theorem ACall.weak{f:Nat}{args args':List AV}{σ:Sig}{d:Nat}{Q:AV→Sig→Prop}(hw:∀G vals,RelL G args vals→RelL G args' vals)(h:ACall P f args' σ d Q):ACall P f args σ d Q:=
 ⟨h.1,fun Y T G w vals a b c r=>h.2 Y T G w vals a b c (hw G vals r)⟩
theorem RawC.weak{f:Nat}{args args':List AV}{σ:Sig}{R:AV→Sig→Prop}(hw:∀G vals,RelL G args vals→RelL G args' vals)(h:RawC P f args' σ R):RawC P f args σ R:=
 ⟨h.1,fun Y T G w vals a b c r=>h.2 Y T G w vals a b c (hw G vals r)⟩
theorem Sub.nil{sz:Nat}{t:Tag}:Sub .nsl (.slc sz [] t):=fun G v h=> .inl ⟨.inl h,rfl⟩
theorem Sub.refl(a:AV):Sub a a:=fun _ _ h=>h
def SubL:List AV→List AV→Prop
 | [],[]=>True
 | a::r,b::s=>Sub a b∧SubL r s
 | _,_=>False
theorem SubL.rel{G:GS}:∀{l m:List AV} {vals:List Value},SubL l m→RelL G l vals→RelL G m vals
 | [],[],_,_,h=>h
 | a::r,b::s,_,⟨h1,h2⟩,⟨v,t,h3,h4,h5⟩=>⟨v,t,h3,h1 G v h4,SubL.rel h2 h5⟩
abbrev llR(ls:List (List Int)):List (List AV):=ls.map fun l=>[.slc 1 (iR l) .non]
def NowV(a:AV)(l:List Int):Prop:=(a= .nsl∧l=[])∨(a= .slc 1 (iR l) .non∧l≠[])
end Go.Abs
namespace Go.Abs
variable {P:Program}
theorem w_appS{K:(Nat→AV)→Sig→Prop}{e:Nat→AV}{σ σ':Sig}{d sz bytes i:Nat}{x y:IOpd}{r:List IStep}{p q:Prop}{es ys zs:List (List AV)}(hx:baseO sz σ (x.ev e)=some (p,es,σ'))(hy:rowsO sz (y.ev e)=some (q,ys))(hz:es++ys=zs)(hp:p∧q)(hb:zs.length*bytes≤140737488355328)(hk:∀g,stepsW P r K (upd e d (.slc sz zs (.own i g))) (newS σ' i g [])):stepsW P (⟨some d,none,.app sz bytes x y i⟩::r) K e σ:=by
 refine w_det (p:=p∧q∧(es.length+ys.length)*bytes≤140737488355328) (v:=fun g=> .slc sz (es++ys) (.own i g)) (σ':=fun g=>newS σ' i g []) (fun g=>?_) ⟨hp.1,hp.2,?_⟩ fun g=>?_
 · show (match baseO sz σ (x.ev e),rowsO sz (y.ev e) with
    | some (p,es,σ'),some (q,ys)=>some (p∧q∧(es.length+ys.length)*bytes≤140737488355328,AV.slc sz (es++ys) (.own i g),newS σ' i g [])
    | _,_=>none)=_
   rw[hx,hy]
 · rw[←hz,List.length_append] at hb;exact hb
 · rw[hz];exact hk g
theorem app_one{α:Type}{f:α→List AV}{l:List α}{z:α}{r:List AV}(h:f z=r):l.map f++[r]=(l++[z]).map f:=by rw[←h];simp
theorem app_map{α:Type}{f:α→List AV}{l m:List α}:l.map f++m.map f=(l++m).map f:=by simp
theorem app_nil{ys:List (List AV)}:[]++ys=ys:=rfl
end Go.Abs
namespace Go.Abs
theorem int_eq{a b:Int}(h:a=b):AV.int .i64 a=AV.int .i64 b:=by rw[h]
end Go.Abs
namespace Go.Abs
theorem b_ht{A B:Prop}{c:Bool}(h:c=true)(hA:A):brW c A B:=by rw[h];exact hA
theorem b_hf{A B:Prop}{c:Bool}(h:c=false)(hB:B):brW c A B:=by rw[h];exact hB
theorem b_hnt{A B:Prop}{c:Bool}(h:c=true)(hB:B):brW (!c) A B:=by rw[h];exact hB
theorem b_hnf{A B:Prop}{c:Bool}(h:c=false)(hA:A):brW (!c) A B:=by rw[h];exact hA
theorem g_ht{A B:Bool→Prop}{c b:Bool}(h:c=true)(hk:grW true A B b):grW c A B b:=by rw[h];exact hk
theorem g_hf{A B:Bool→Prop}{c b:Bool}(h:c=false)(hk:grW false A B b):grW c A B b:=by rw[h];exact hk
theorem g_hnt{A B:Bool→Prop}{c b:Bool}(h:c=true)(hk:grW false A B b):grW (!c) A B b:=by rw[h];exact hk
theorem g_hnf{A B:Bool→Prop}{c b:Bool}(h:c=false)(hk:grW true A B b):grW (!c) A B b:=by rw[h];exact hk
theorem g_hd{A B:Bool→Prop}{p:Prop}[Decidable p]{b:Bool}(h:p)(hk:grW true A B b):grW (decide p) A B b:=by rw[decide_eq_true h];exact hk
theorem g_hnd{A B:Bool→Prop}{p:Prop}[Decidable p]{b:Bool}(h:¬p)(hk:grW false A B b):grW (decide p) A B b:=by rw[decide_eq_false h];exact hk
end Go.Abs
namespace Go.Abs
variable {P:Program}
theorem SubL.nil:SubL [] []:=trivial
theorem SubL.cons{a b:AV}{r s:List AV}(h:Sub a b)(hr:SubL r s):SubL (a::r) (b::s):=⟨h,hr⟩
end Go.Abs
namespace Go.Abs
theorem b_nb{A B:Prop}{c:Bool}(h1:c=false→A)(h2:c=true→B):brW (!c) A B:=by
 cases c
 · exact h1 rfl
 · exact h2 rfl
theorem g_nbt{A B:Bool→Prop}{c:Bool}(h1:c=false→A true)(h2:c=true→B false):grW (!c) A B true:=by
 cases c
 · exact h1 rfl
 · exact h2 rfl
theorem g_nbf{A B:Bool→Prop}{c:Bool}(h1:c=false→B true)(h2:c=true→A false):grW (!c) A B false:=by
 cases c
 · exact h1 rfl
 · exact h2 rfl
end Go.Abs
namespace Go.Abs
variable {P:Program}
theorem w_frzR{Q:Post}{e:Nat→AV}{σ:Sig}{t i g:Nat}{c:List AV}(hx:e t= .ref i g 0)(hσ:σ i=(g,.row c))(hs:c.all AV.scal=true)(hk:Q .nor (upd (frzE i g c e) t (.pin (normL c))) (frzS i g c σ)):awp P (.frz (.t t)) Q e σ:=by
 have he:frzE i g c e t= .pin (normL c):=by simp[frzE,hx,frzA]
 rw[←upd_same he] at hk;show frzW (e t) e σ _
 rw[hx];show (match σ i with|(g',.row c)=>g=g'∧c.all AV.scal=true∧Q .nor (frzE i g c e) (frzS i g c σ) | _=>False)
 rw[hσ];exact⟨rfl,hs,hk⟩
theorem chunk1:∀(xs:List Int),chunk 1 xs.length (normL (xs.map (AV.int .i64)))=iR xs
 | []=>rfl
 | x::xs=>by have:=chunk1 xs;simp only[List.length_cons,List.map_cons,normL,chunk,List.map_cons];simp only[normL] at this;rw[show List.drop 1 (AV.norm (AV.int .i64 x)::List.map AV.norm (List.map (AV.int .i64) xs))=List.map AV.norm (List.map (AV.int .i64) xs) from rfl,this];rfl
theorem w_frzI{Q:Post}{e:Nat→AV}{σ:Sig}{t i g n:Nat}{xs:List Int}(hx:e t= .msl i g n 1)(hσ:σ i=(g,.row (xs.map (AV.int .i64))))(hn:xs.length=n)(hk:Q .nor (upd (frzE i g (xs.map (AV.int .i64)) e) t (.slc 1 (iR xs) .non)) (frzS i g (xs.map (AV.int .i64)) σ)):awp P (.frz (.t t)) Q e σ:=by
 subst hn;have he:frzE i g (xs.map (AV.int .i64)) e t= .slc 1 (iR xs) .non:=by simp[frzE,hx,frzA,chunk1]
 rw[←upd_same he] at hk;show frzW (e t) e σ _
 rw[hx];show (match σ i with|(g',.row c)=>g=g'∧c.all AV.scal=true∧Q .nor (frzE i g c e) (frzS i g c σ) | _=>False)
 rw[hσ];exact⟨rfl,by simp[AV.scal],hk⟩
theorem setL_one{α:Type}(c:List α)(k:Nat)(x:α):setL c k [x]=c.set k x:=rfl
theorem w_stI{K:(Nat→AV)→Sig→Prop}{e:Nat→AV}{σ:Sig}{x v:IOpd}{r:List IStep}{i g off:Nat}{a:Int}{xs:List Int}(hx:x.ev e= .ref i g off)(hv:v.ev e= .int .i64 a)(hσ:σ i=(g,.row (xs.map (AV.int .i64))))(ho:off<xs.length)(hk:stepsW P r K e (upd σ i (g,.row ((xs.set off a).map (AV.int .i64))))):stepsW P (⟨none,none,.st 1 x v⟩::r) K e σ:=by
 refine w_det0 (p:=g=g∧1=1∧off+1≤(xs.map (AV.int .i64)).length) (v:= .junk) (σ':=upd σ i (g,.row (setL (xs.map (AV.int .i64)) off [.int .i64 a]))) (fun _=>?_) ⟨rfl,rfl,by simp;omega⟩ ?_
 · show stO 1 σ (v.ev e) (x.ev e)=_
   rw[hx,hv];simp only[stO,cellsO,hσ]
 · rw[setL_one,←List.map_set];exact hk
theorem w_mksI{K:(Nat→AV)→Sig→Prop}{e:Nat→AV}{σ:Sig}{d:Nat}{l:IOpd}{r:List IStep}{n:Nat}(hl:l.ev e= .int .i64 n)(hn:n≤1000000)(hk:∀g,stepsW P r K (upd e d (.msl d g n 1)) (newS σ d g ((List.replicate n (0:Int)).map (AV.int .i64)))):stepsW P (⟨some d,none,.mks 1 8 [.int .i64 0] l l⟩::r) K e σ:=by
 refine w_det (p:=0≤(n:Int)∧(n:Int)=n∧(n:Int)*8≤140737488355328∧(n:Int)≤9223372036854775807) (v:=fun g=> .msl d g n 1) (σ':=fun g=>newS σ d g (List.replicate n [AV.int .i64 0]).flatten) (fun g=>?_) ⟨by omega,rfl,by omega,by omega⟩ fun g=>?_
 · show (match l.ev e,l.ev e with
    | .int _ n,.int _ c=>some (0≤n∧c=n∧n*(8:Nat)≤140737488355328∧n≤9223372036854775807,AV.msl d g n.toNat 1,newS σ d g (List.replicate n.toNat [AV.int .i64 0]).flatten)
    | _,_=>none)=_
   rw[hl];rfl
 · have:∀n:Nat,(List.replicate n [AV.int .i64 0]).flatten=(List.replicate n (0:Int)).map (AV.int .i64):=by
    intro n;induction n with
    | zero=>rfl
    | succ n ih=>simp[List.replicate_succ,ih]
   rw[this];exact hk g
theorem w_yield{K:(Nat→AV)→Sig→Prop}{e:Nat→AV}{σ:Sig}{d l:Nat}{x:IOpd}{args:List IOpd}{av y:List AV}{rest:List (List AV)}{r:List IStep}(hx:x.ev e= .clo (.yield l) [] [])(h:evO e args=some av)(hσ:σ YS=(0,.yld l (some (y::rest))))(hy:stripL av=y)(hk:∀b:Bool,stepsW P r K (upd e d (.bool b)) (upd σ YS (0,.yld l (yNext rest b)))):stepsW P (⟨some d,none,.callV x args⟩::r) K e σ:=by
 show argW (evO e args) _
 rw[h];show callVW P (x.ev e) _ _ _ _
 rw[hx];show (match σ YS with|(0,.yld l' (some (x::rest)))=>l'=l∧stripL av=x∧ ∀b:Bool,contS e (some d) (stepsW P r K) (.bool b) (upd σ YS (0,.yld l (yNext rest b))) | _=>False)
 rw[hσ];exact⟨rfl,hy,hk⟩
def rndK{α β:Type}(kS:List Nat)(σ0:Sig)(C:List β→α→Prop)(S:α→List (Nat×(Nat×Res)))(rest:List β)(Q:Post)(e0:Nat→AV):Post
 | .nor,_,σ=>∃y,C rest y∧slots (S y) σ∧kept kS σ0 σ
 | x,_,σ=>Q x e0 σ
theorem q_rnd{α β:Type}{kS:List Nat}{σ0:Sig}{C:List β→α→Prop}{S:α→List (Nat×(Nat×Res))}{rest:List β}{Q:Post}{e0 e:Nat→AV}{σ:Sig}(y:α)(h1:C rest y)(h2:slots (S y) σ)(h3:kept kS σ0 σ):rndK kS σ0 C S rest Q e0 .nor e σ:=⟨y,h1,h2,h3⟩
theorem q_rnd_ret{α β:Type}{kS:List Nat}{σ0:Sig}{C:List β→α→Prop}{S:α→List (Nat×(Nat×Res))}{rest:List β}{Q:Post}{e0 e:Nat→AV}{σ:Sig}(h:Q .ret e0 σ):rndK kS σ0 C S rest Q e0 .ret e σ:=h
theorem q_rnd_ex{α β:Type}{kS:List Nat}{σ0:Sig}{C:List β→α→Prop}{S:α→List (Nat×(Nat×Res))}{rest:List β}{Q:Post}{e0 e:Nat→AV}{σ:Sig}{i:Nat}(h:Q (.ex i) e0 σ):rndK kS σ0 C S rest Q e0 (.ex i) e σ:=h
theorem q_asg{K:(Nat→AV)→Sig→Prop}{e:Nat→AV}{σ:Sig}(h:K e σ):asgQ K .nor e σ:=h
theorem w_rfM{Q:Post}{e:Nat→AV}{σ:Sig}{f:IOpd}{ps:List Nat}{a b:IR}{α β:Type}{g:Nat}{lb:List AV}(enc:β→List AV)(xs:List β)(hf:f.ev e= .clo (.func g) [] lb)(hit:ItC P g (stripL lb) (xs.map enc))(hlen:∀x,(enc x).length=ps.length)(kS:List Nat)(C:List β→α→Prop)(S:α→List (Nat×(Nat×Res)))(y0:α)(hC:C xs y0)(hS:slots (S y0) σ)(hr:∀x rest y,C (x::rest) y→ ∀σ',awp P a (asgQ (awp P b (rndK kS σ C S rest Q e))) (setE e ps (enc x)) (updL (S y) (keepL kS σ σ')))(hend:∀y,C [] y→ ∀σ',Q .nor e (updL (S y) (keepL kS σ σ'))):awp P (.rf f ps a b) Q e σ:=by
 have refl:∀{β:Type} (k:List Nat) (e:Nat→β),kept k e e:=by
  intro β k e;induction k with
  | nil=>trivial
  | cons t r ih=>exact⟨rfl,ih⟩
 refine⟨g,lb,xs.map enc,fun l σ'=>∃rest y,l=rest.map enc∧C rest y∧slots (S y) σ'∧kept kS σ σ',hf,hit,?_,⟨xs,y0,rfl,hC,hS,refl _ _⟩,?_,?_⟩
 · intro x hx;obtain⟨z,_,rfl⟩:=List.mem_map.1 hx;exact hlen z
 · rintro x rest σ' _ ⟨l,y,hl,h1,h2,h3⟩;cases l with
   | nil=>cases hl
   | cons z l=>
     simp only[List.map_cons,List.cons.injEq] at hl;obtain⟨rfl,rfl⟩:=hl;have:=hr z l y h1 σ';rw[keepL_kept h3,updL_slots h2] at this;refine awp_mono (fun ax e2 σ2 h=>?_) this;cases ax with
     | nor=>
       refine awp_mono (ir:=b) (fun ax e3 σ3 h=>?_) h;cases ax with
       | nor=>obtain⟨y',k1,k2,k3⟩:=h;exact⟨l,y',rfl,k1,k2,k3⟩
       | ret=>exact h
       | ex j=>exact h
     | ret=>exact h
     | ex j=>exact h
 · rintro σ' ⟨l,y,hl,h1,h2,h3⟩;cases l with
   | cons z l=>cases hl
   | nil=> have:=hend y h1 σ';rw[keepL_kept h3,updL_slots h2] at this;exact this
end Go.Abs
namespace Go.Abs
variable {P:Program}
end Go.Abs
namespace Go.Abs
variable {P:Program}
theorem acall_id{f:Nat}{args:List AV}{σ:Sig}{d:Nat}{Q:AV→Sig→Prop}(h:ACall P f args σ d Q):ACall P f args σ d Q:=h
theorem w_g0{K:(Nat→AV)→Sig→Prop}{e:Nat→AV}{σ:Sig}{g:Nat}{b c:Bool}{op:IOp}{r:List IStep}(h:e g= .bool c)(hk:grW c (fun c=>stepsW P (⟨none,none,op⟩::r) K (upd e g (.bool c)) σ) (fun c=>stepsW P r K (upd e g (.bool c)) σ) b):
  stepsW P (⟨none,some (g,b),op⟩::r) K e σ:=by
 have he:=upd_same h;show guardW (e g) b _ _
 rw[h];cases c<;>cases b<;>simp only[grW,←he] at hk<;>exact hk
theorem w_gu0{K:(Nat→AV)→Sig→Prop}{e:Nat→AV}{σ:Sig}{g:Nat}{b:Bool}{op:IOp}{r:List IStep}(h:e g= .tup [])(hk:stepsW P r K e σ):
  stepsW P (⟨none,some (g,b),op⟩::r) K e σ:=by
 show guardW (e g) b _ _
 rw[h];exact hk
theorem g_hdn{A B:Bool→Prop}{p:Prop}[Decidable p]{b:Bool}(h:p)(hk:grW false A B b):grW (!decide p) A B b:=by rw[decide_eq_true h];exact hk
theorem g_hndn{A B:Bool→Prop}{p:Prop}[Decidable p]{b:Bool}(h:¬p)(hk:grW true A B b):grW (!decide p) A B b:=by rw[decide_eq_false h];exact hk
end Go.Abs
namespace Go.Abs
theorem b_nT{A B:Prop}(h:B):brW (!true) A B:=h
theorem b_nF{A B:Prop}(h:A):brW (!false) A B:=h
theorem g_nT{A B:Bool→Prop}{b:Bool}(h:grW false A B b):grW (!true) A B b:=h
theorem g_nF{A B:Bool→Prop}{b:Bool}(h:grW true A B b):grW (!false) A B b:=h
theorem w_alt{P:Program}{Q:Post}{e:Nat→AV}{σ:Sig}{a b:IR}(h1:awp P a Q e σ)(h2:awp P b Q e σ):awp P (.alt a b) Q e σ:=⟨h1,h2⟩
class Rd (g:Prop) (a:outParam Prop):Prop where
 p:a→g
class Rt (g:Prop) (p q a b:outParam Prop):Prop where
 p:(p→a)→(q→b)→g
section
variable {P:Program} {Q:Post} {K:(Nat→AV)→Sig→Prop} {e:Nat→AV} {σ:Sig}
instance {l:List IStep}:Rd (awp P (.ops l) Q e σ) (stepsW P l (Q .nor) e σ):=⟨w_ops⟩
instance:Rd (stepsW P [] K e σ) (K e σ):=⟨w_nil⟩
instance {a b:IR}:Rd (awp P (.seq a b) Q e σ) (awp P a (seqQ (awp P b Q) Q) e σ):=⟨w_seq⟩
instance:Rd (seqQ K Q .nor e σ) (K e σ):=⟨q_seq⟩
instance {i:Nat} {b:IR}:Rd (awp P (.blk i b) Q e σ) (awp P b (blkQ i Q) e σ):=⟨w_blk⟩
instance:Rd (awp P .ret Q e σ) (Q .ret e σ):=⟨w_ret⟩
instance:Rd (awp P .skip Q e σ) (Q .nor e σ):=⟨w_skip⟩
instance {i:Nat}:Rd (awp P (.exit i) Q e σ) (Q (.ex i) e σ):=⟨w_exit⟩
instance {b:IR}:Rd (awp P (.scope b) Q e σ) (awp P b Q e σ):=⟨w_scope⟩
instance {A B:Prop}:Rd (brW true A B) A:=⟨b_t⟩
instance {A B:Prop}:Rd (brW false A B) B:=⟨b_f⟩
instance {A B:Bool→Prop}:Rd (grW true A B true) (A true):=⟨g_tt⟩
instance {A B:Bool→Prop}:Rd (grW true A B false) (B true):=⟨g_tf⟩
instance {A B:Bool→Prop}:Rd (grW false A B true) (B false):=⟨g_ft⟩
instance {A B:Bool→Prop}:Rd (grW false A B false) (A false):=⟨g_ff⟩
instance {A B:Prop}:Rd (brW (!true) A B) B:=⟨b_nT⟩
instance {A B:Prop}:Rd (brW (!false) A B) A:=⟨b_nF⟩
instance {A B:Bool→Prop} {b:Bool}:Rd (grW (!true) A B b) (grW false A B b):=⟨g_nT⟩
instance {A B:Bool→Prop} {b:Bool}:Rd (grW (!false) A B b) (grW true A B b):=⟨g_nF⟩
instance {i:Nat}:Rd (seqQ K Q (.ex i) e σ) (Q (.ex i) e σ):=⟨q_seq_ex⟩
instance:Rd (seqQ K Q .ret e σ) (Q .ret e σ):=⟨q_seq_ret⟩
instance {i:Nat}:Rd (blkQ i Q .nor e σ) (Q .nor e σ):=⟨q_blk⟩
instance {i:Nat}:Rd (blkQ i Q .ret e σ) (Q .ret e σ):=⟨q_blk_ret⟩
instance {i:Nat}:Rd (blkQ i Q (.ex i) e σ) (Q .nor e σ):=⟨q_blk_same⟩
instance {α:Type} {kE kS:List Nat} {e0:Nat→AV} {σ0:Sig} {C:α→Prop} {μ:α→Nat} {F:α→List (Nat×AV)} {S:α→List (Nat×Nat×Res)} {n i:Nat}:Rd (loopK kE kS e0 σ0 C μ F S n Q (.ex i) e σ) (Q (.ex i) e σ):=⟨q_loop_ex⟩
instance {α:Type} {kE kS:List Nat} {e0:Nat→AV} {σ0:Sig} {C:α→Prop} {μ:α→Nat} {F:α→List (Nat×AV)} {S:α→List (Nat×Nat×Res)} {n:Nat}:Rd (loopK kE kS e0 σ0 C μ F S n Q .ret e σ) (Q .ret e σ):=⟨q_loop_ret⟩
instance {d:Nat} {v:AV}:Rd (contS e (some d) K v σ) (K (upd e d v) σ):=⟨w_cont⟩
instance {v:AV}:Rd (contS e none K v σ) (K e σ):=⟨w_cont0⟩
instance:Rd (asgQ K .nor e σ) (K e σ):=⟨q_asg⟩
instance {α β:Type} {kS:List Nat} {σ0:Sig} {C:List β→α→Prop} {S:α→List (Nat×(Nat×Res))} {rest:List β} {e0:Nat→AV}:Rd (rndK kS σ0 C S rest Q e0 .ret e σ) (Q .ret e0 σ):=⟨q_rnd_ret⟩
instance {α β:Type} {kS:List Nat} {σ0:Sig} {C:List β→α→Prop} {S:α→List (Nat×(Nat×Res))} {rest:List β} {e0:Nat→AV} {i:Nat}:Rd (rndK kS σ0 C S rest Q e0 (.ex i) e σ) (Q (.ex i) e0 σ):=⟨q_rnd_ex⟩
instance {A B p:Prop} [Decidable p]:Rt (brW (decide p) A B) p (¬p) A B:=⟨b_d⟩
instance {A B p:Prop} [Decidable p]:Rt (brW (!decide p) A B) (¬p) p A B:=⟨b_n⟩
instance {A B:Bool→Prop} {p:Prop} [Decidable p]:Rt (grW (decide p) A B true) p (¬p) (A true) (B false):=⟨g_dt⟩
instance {A B:Bool→Prop} {p:Prop} [Decidable p]:Rt (grW (decide p) A B false) p (¬p) (B true) (A false):=⟨g_df⟩
instance {A B:Bool→Prop} {p:Prop} [Decidable p]:Rt (grW (!decide p) A B true) (¬p) p (A true) (B false):=⟨g_nt⟩
instance {A B:Bool→Prop} {p:Prop} [Decidable p]:Rt (grW (!decide p) A B false) (¬p) p (B true) (A false):=⟨g_nf⟩
instance (priority:=low) {A B:Prop} {c:Bool}:Rt (brW (!c) A B) (c=false) (c=true) A B:=⟨b_nb⟩
instance (priority:=low) {A B:Bool→Prop} {c:Bool}:Rt (grW (!c) A B true) (c=false) (c=true) (A true) (B false):=⟨g_nbt⟩
instance (priority:=low) {A B:Bool→Prop} {c:Bool}:Rt (grW (!c) A B false) (c=false) (c=true) (B true) (A false):=⟨g_nbf⟩
instance (priority:=10) {A B:Prop} {c:Bool}:Rt (brW c A B) (c=true) (c=false) A B:=⟨b_b⟩
instance (priority:=10) {A B:Bool→Prop} {c:Bool}:Rt (grW c A B true) (c=true) (c=false) (A true) (B false):=⟨g_bt⟩
instance (priority:=10) {A B:Bool→Prop} {c:Bool}:Rt (grW c A B false) (c=true) (c=false) (B true) (A false):=⟨g_bf⟩
theorem sd{p:Prop}(h:p:=by ((repeat' (with_reducible (first|exact trivial | apply And.intro)))<;>first|(with_reducible rfl) | omega|(unfold inI;omega)|(exact Nat.le_of_ble_eq_true rfl)|(simp;done)|(simp;omega)|(simp at*;omega) | assumption|rfl)):p:=h
theorem zI{α:Type}{f:α→List AV}{l:List α}{d sz:Nat}{t:Tag}{x i:IOpd}{r:List IStep}{k:IntKind}{n:Int}(hk:∀y,l[n.toNat]?=some y→stepsW P r K (upd e d (.pin (f y))) σ)(hx:x.ev e= .slc sz (l.map f) t:=by with_unfolding_all exact rfl)(hi:i.ev e= .int k n:=by with_unfolding_all exact rfl)(h:0≤n∧n<l.length:=by with_unfolding_all exact sd):stepsW P (⟨some d,none,.ixA sz x i⟩::r) K e σ:=w_ixM hx hi h hk
theorem zL{α:Type}{f:α→List AV}{l:List α}{d sz:Nat}{t:Tag}{x:IOpd}{r:List IStep}(hk:stepsW P r K (upd e d (.int .i64 l.length)) σ)(hx:x.ev e= .slc sz (l.map f) t:=by with_unfolding_all exact rfl):stepsW P (⟨some d,none,.len false x⟩::r) K e σ:=w_lenM hx hk
theorem zS{α:Type}{f:α→List AV}{l:List α}{d sz:Nat}{t:Tag}{x:IOpd}{lo hi:Option IOpd}{a b:Int}{r:List IStep}(hk:stepsW P r K (upd e d (.slc sz (((l.drop a.toNat).take (b-a).toNat).map f) .non)) σ)(hx:x.ev e= .slc sz (l.map f) t:=by with_unfolding_all exact rfl)(ha:boundO e 0 lo=some a:=by with_unfolding_all exact rfl)(hb:boundO e l.length hi=some b:=by with_unfolding_all exact rfl)(h:0≤a∧a≤b∧b≤l.length:=by with_unfolding_all exact sd):stepsW P (⟨some d,none,.slS sz x lo hi none⟩::r) K e σ:=w_slM hx ha hb h hk
theorem zA{σ':Sig}{d sz bytes i:Nat}{x y:IOpd}{r:List IStep}{p q:Prop}{es ys zs:List (List AV)}(hk:∀g,stepsW P r K (upd e d (.slc sz zs (.own i g))) (newS σ' i g []))(hx:baseO sz σ (x.ev e)=some (p,es,σ'):=by with_unfolding_all exact rfl)(hy:rowsO sz (y.ev e)=some (q,ys):=by with_unfolding_all exact rfl)(hz:es++ys=zs:=by with_unfolding_all (first|exact app_one (z:=Guest.mk _ _ _ _ _) rfl|exact app_one (z:=Dish.mk _ _ _) rfl|exact app_one (z:=Rule.mk _ _ _ _) rfl|exact app_one (z:=Bond.mk _ _ _) rfl|exact app_one rfl|exact app_map|exact app_nil|exact rfl))(hp:p∧q:=by with_unfolding_all exact sd)(hb:zs.length*bytes≤140737488355328:=by with_unfolding_all exact sd):stepsW P (⟨some d,none,.app sz bytes x y i⟩::r) K e σ:=w_appS hx hy hz hp hb hk
theorem zV{d:Nat}{op:IOp}{r:List IStep}{p:Prop}{v:AV}(hk:stepsW P r K (upd e d v) σ)(h:valO op e σ=some (p,v):=by with_unfolding_all exact rfl)(hp:p:=by with_unfolding_all exact sd):stepsW P (⟨some d,none,op⟩::r) K e σ:=w_val h hp hk
theorem zC{c:IOpd}{a b:IR}{t:Bool}(hk:brW t (awp P a Q e σ) (awp P b Q e σ))(h:c.ev e= .bool t:=by with_unfolding_all exact rfl):awp P (.cnd c a b) Q e σ:=w_c h hk
theorem zG{d g:Nat}{b c:Bool}{op:IOp}{r:List IStep}(hk:grW c (fun c=>stepsW P (⟨some d,none,op⟩::r) K (upd e g (.bool c)) σ) (fun c=>stepsW P r K (upd (upd e g (.bool c)) d (.tup [])) σ) b)(h:e g= .bool c:=by with_unfolding_all exact rfl):stepsW P (⟨some d,some (g,b),op⟩::r) K e σ:=w_g h hk
theorem zU{d g:Nat}{b:Bool}{op:IOp}{r:List IStep}(hk:stepsW P r K (upd e d (.tup [])) σ)(h:e g= .tup []:=by with_unfolding_all exact rfl):stepsW P (⟨some d,some (g,b),op⟩::r) K e σ:=w_gu h hk
theorem zG0{g:Nat}{b c:Bool}{op:IOp}{r:List IStep}(hk:grW c (fun c=>stepsW P (⟨none,none,op⟩::r) K (upd e g (.bool c)) σ) (fun c=>stepsW P r K (upd e g (.bool c)) σ) b)(h:e g= .bool c:=by with_unfolding_all exact rfl):stepsW P (⟨none,some (g,b),op⟩::r) K e σ:=w_g0 h hk
theorem zU0{g:Nat}{b:Bool}{op:IOp}{r:List IStep}(hk:stepsW P r K e σ)(h:e g= .tup []:=by with_unfolding_all exact rfl):stepsW P (⟨none,some (g,b),op⟩::r) K e σ:=w_gu0 h hk
theorem zF{d f:Nat}{args:List IOpd}{l:List AV}{r:List IStep}(hk:ACall P f l σ d (contS e (some d) (stepsW P r K)))(h:evO e args=some l:=by with_unfolding_all exact rfl):stepsW P (⟨some d,none,.callF f args⟩::r) K e σ:=w_call h hk
theorem zF0{f:Nat}{args:List IOpd}{l:List AV}{r:List IStep}(hk:ACall P f l σ 0 (contS e none (stepsW P r K)))(h:evO e args=some l:=by with_unfolding_all exact rfl):stepsW P (⟨none,none,.callF f args⟩::r) K e σ:=w_call0 h hk
theorem zX{d f:Nat}{x:IOpd}{args:List IOpd}{l a b:List AV}{r:List IStep}(hk:ACall P f (a++l++b) σ d (contS e (some d) (stepsW P r K)))(hx:x.ev e= .clo (.func f) a b:=by with_unfolding_all exact rfl)(h:evO e args=some l:=by with_unfolding_all exact rfl):stepsW P (⟨some d,none,.callV x args⟩::r) K e σ:=w_callV hx h hk
theorem zX0{f:Nat}{x:IOpd}{args:List IOpd}{l a b:List AV}{r:List IStep}(hk:ACall P f (a++l++b) σ 0 (contS e none (stepsW P r K)))(hx:x.ev e= .clo (.func f) a b:=by with_unfolding_all exact rfl)(h:evO e args=some l:=by with_unfolding_all exact rfl):stepsW P (⟨none,none,.callV x args⟩::r) K e σ:=w_callV0 hx h hk
theorem zD{d:Nat}{op:IOp}{r:List IStep}{p:Prop}{v:Nat→AV}{σ':Nat→Sig}(hk:∀g,stepsW P r K (upd e d (v g)) (σ' g))(h:∀g,effO d op e σ g=some (p,v g,σ' g):=by with_unfolding_all exact fun _=>rfl)(hp:p:=by with_unfolding_all exact sd):stepsW P (⟨some d,none,op⟩::r) K e σ:=w_det h hp hk
theorem zD0{op:IOp}{r:List IStep}{p:Prop}{v:AV}{σ':Sig}(hk:stepsW P r K e σ')(h:∀g,effO 0 op e σ g=some (p,v,σ'):=by with_unfolding_all exact fun _=>rfl)(hp:p:=by with_unfolding_all exact sd):stepsW P (⟨none,none,op⟩::r) K e σ:=w_det0 h hp hk
theorem zN{i j:Nat}(hk:Q (.ex j) e σ)(h:Nat.beq j i=false:=by with_unfolding_all exact rfl):blkQ i Q (.ex j) e σ:=q_blk_ne h hk
theorem z1{A B p:Prop}[Decidable p](hA:A)(hp:p:=by first | omega|with_reducible rfl):brW (decide p) A B:=b_dt hp hA
theorem z2{A B p:Prop}[Decidable p](hA:B)(hp:¬p:=by omega):brW (decide p) A B:=b_df hp hA
theorem z3{A B p:Prop}[Decidable p](hA:B)(hp:p:=by first | omega|with_reducible rfl):brW (!decide p) A B:=b_nt hp hA
theorem z4{A B p:Prop}[Decidable p](hA:A)(hp:¬p:=by omega):brW (!decide p) A B:=b_nf hp hA
theorem z5{A B:Prop}{c:Bool}(hA:A)(h:c=true:=by assumption):brW c A B:=b_ht h hA
theorem z6{A B:Prop}{c:Bool}(hA:B)(h:c=false:=by assumption):brW c A B:=b_hf h hA
theorem z7{A B:Prop}{c:Bool}(hA:B)(h:c=true:=by assumption):brW (!c) A B:=b_hnt h hA
theorem z8{A B:Prop}{c:Bool}(hA:A)(h:c=false:=by assumption):brW (!c) A B:=b_hnf h hA
theorem y1{A B:Bool→Prop}{c b:Bool}(hk:grW true A B b)(h:c=true:=by assumption):grW c A B b:=g_ht h hk
theorem y2{A B:Bool→Prop}{c b:Bool}(hk:grW false A B b)(h:c=false:=by assumption):grW c A B b:=g_hf h hk
theorem y3{A B:Bool→Prop}{c b:Bool}(hk:grW false A B b)(h:c=true:=by assumption):grW (!c) A B b:=g_hnt h hk
theorem y4{A B:Bool→Prop}{c b:Bool}(hk:grW true A B b)(h:c=false:=by assumption):grW (!c) A B b:=g_hnf h hk
theorem y5{A B:Bool→Prop}{p:Prop}[Decidable p]{b:Bool}(hk:grW true A B b)(h:p:=by first | omega|with_reducible rfl):grW (decide p) A B b:=g_hd h hk
theorem y6{A B:Bool→Prop}{p:Prop}[Decidable p]{b:Bool}(hk:grW false A B b)(h:¬p:=by omega):grW (decide p) A B b:=g_hnd h hk
theorem y7{A B:Bool→Prop}{p:Prop}[Decidable p]{b:Bool}(hk:grW false A B b)(h:p:=by first | omega|with_reducible rfl):grW (!decide p) A B b:=g_hdn h hk
theorem y8{A B:Bool→Prop}{p:Prop}[Decidable p]{b:Bool}(hk:grW true A B b)(h:¬p:=by omega):grW (!decide p) A B b:=g_hndn h hk
theorem zE{R:AV→Sig→Prop}{res:List (Nat×Option (Nat×Bool))}{p:Prop}{l:List AV}(hR:R (untag (tupV l)) σ)(h:resV e σ res=some (p,l):=by with_unfolding_all exact rfl)(hp:p:=by with_unfolding_all exact sd):EndS res (fun a s=>∃a',Sub a a'∧R a' s) .ret e σ:=q_ends h hp hR
theorem zE0{R:AV→Sig→Prop}{res:List (Nat×Option (Nat×Bool))}{p:Prop}{l:List AV}(hR:R (untag (tupV l)) σ)(h:resV e σ res=some (p,l):=by with_unfolding_all exact rfl)(hp:p:=by with_unfolding_all exact sd):EndS res (fun a s=>∃a',Sub a a'∧R a' s) .nor e σ:=q_endn h hp hR
theorem zO{R:AV→Sig→Prop}{res:List (Nat×Option (Nat×Bool))}{p:Prop}{l:List AV}(hR:R (tupV l) σ)(h:resV e σ res=some (p,l):=by with_unfolding_all exact rfl)(hp:p:=by with_unfolding_all exact sd):EndS res (fun a s=>∃a',Sub a a'∧R a' s) .ret e σ:=q_endo h hp hR
theorem zQ{α:Type}{kE kS:List Nat}{e0:Nat→AV}{σ0:Sig}{C:α→Prop}{μ:α→Nat}{F:α→List (Nat×AV)}{S:α→List (Nat×Nat×Res)}{n:Nat}(y:α)(h1:C y)(h2:μ y<n)(h3:slots (F y) e:=by exact aS)(h4:slots (S y) σ:=by exact aS)(h5:kept kE e0 e:=by exact aK)(h6:kept kS σ0 σ:=by exact aK):loopK kE kS e0 σ0 C μ F S n Q .nor e σ:=q_loop y h1 h2 h3 h4 h5 h6
theorem zQi{d l:Nat}{x:IOpd}{args:List IOpd}{av y:List AV}{rest:List (List AV)}{r:List IStep}(hk:∀b,stepsW P r K (upd e d (.bool b)) (upd σ YS (0,.yld l (yNext rest b))))(hx:x.ev e= .clo (.yield l) [] []:=by with_unfolding_all exact rfl)(h:evO e args=some av:=by with_unfolding_all exact rfl)(hσ:σ YS=(0,.yld l (some (y::rest))):=by with_unfolding_all exact rfl)(hy:stripL av=y:=by with_unfolding_all exact rfl):stepsW P (⟨some d,none,.callV x args⟩::r) K e σ:=w_yield hx h hσ hy hk
end
end Go.Abs
namespace Go.Abs
open Go.RowKit
variable {P:Program}
theorem add_plain(b o i:Nat):(⟨b,o,none⟩:Addr).add i=⟨b,o+i,none⟩:=by
 by_cases h0:i=0
 · subst h0;rfl
 · simp[Addr.add,h0]
theorem cells_get{w:World}{base b o n:Nat}{cs:List Value}(h:w.cells? base ⟨b,o,none⟩ n=some cs):cs.length=n∧ ∀i v,cs[i]?=some v→w.cell? ⟨b,o+i,none⟩=some v:=by
 unfold World.cells? at h;split at h
 · have hl:=mapM_some_length h;simp at hl;refine⟨hl,fun i v hv=>?_⟩;have hi:i<n:=by rw[←hl];exact (List.getElem?_eq_some_iff.1 hv).1
   have:=mapM_some_get h i i (by simp[hi]);rw[add_plain] at this;rw[this,hv]
 · cases h
theorem relRow_of{w:World}{b:Nat}:∀{row:List AV} {vs:List Value} {o:Nat},(∀i v,vs[i]?=some v→w.cell? ⟨b,o+i,none⟩=some v)→(∀v∈vs,v.oneCell'=true)→RelL (GS.pure (K0 w)) row vs→RelRow (GS.pure (K0 w)) b o row
 | [],_,_,_,_,_=>trivial
 | a::row,vs,o,h1,h2,h3=>by
   obtain⟨v,r,rfl,hv,hr⟩:=h3;refine⟨⟨v,K0_get (by simpa using h1 0 v rfl) (h2 v (by simp)),h2 v (by simp),hv⟩,relRow_of (fun i u hu=>?_) (fun u hu=>h2 u (by simp[hu])) hr⟩;have:=h1 (i+1) u (by simpa using hu)
   simpa[Nat.add_assoc,Nat.add_comm 1 i] using this
structure RowOf (P:Program) (e:TypeId) (sz:Nat) (α:Type) where
 row:α→List AV
 vals:α→List Value
 cells:P.cellsOf e=sz
 len:∀x,(row x).length=sz
 rel:∀x G,RelL G (row x) (vals x)
 one:∀x,∀v∈vals x,v.oneCell'=true
 read:∀{H:Type} {enc:TypeId×Value→H} {w:World} {base:Nat} {spare:Nat→Bool} {held:Bool} {fuel:Nat} {cs:List Value} {y:DataW H×List MemPlace},DataW.trod enc P w base spare held fuel e cs=some y→ ∃x,cs=vals x
theorem RowOf.rows{e:TypeId}{sz:Nat}{α:Type}(T:RowOf P e sz α){w:World}{b:Nat}:∀{xs:List α} {o:Nat},(∀i x,xs[i]?=some x→ ∀j v,(T.vals x)[j]?=some v→w.cell? ⟨b,o+i*sz+j,none⟩=some v)→RelRows (GS.pure (K0 w)) b o sz (xs.map T.row)
 | [],_,_=>trivial
 | x::xs,o,h=>by refine⟨T.len x,relRow_of (fun i v hv=>by simpa using h 0 x rfl i v hv) (T.one x) (T.rel x _),T.rows fun i y hy j v hv=>?_⟩;have:=h (i+1) y (by simpa using hy) j v hv;rw[Nat.succ_mul] at this;rw[←this];congr 2;omega
theorem RowOf.open{t e:TypeId}{sz:Nat}{α:Type}(T:RowOf P e sz α){H:Type}{enc:TypeId×Value→H}{w:World}{base:Nat}{spare:Nat→Bool}{held:Bool}{fuel:Nat}{v:Value}{y:DataW H×List MemPlace}(ht:P.underlying t=some (.slice e))(hv:∀a len cap,v= .slice (some a) len cap→a.spot=none)(h:DataW.trod enc P w base spare held fuel t [v]=some y):∃xs:List α,xs.length≤maxLen∧Rel (GS.pure (K0 w)) (.slc sz (xs.map T.row) .non) v:=by
 rcases DataW.trod_slice ht h with⟨hc,_⟩ | ⟨a,len,cap,elems,rest,n,_,hcs,_,_,hl,hm,hlen,hel,_⟩
 · obtain rfl:v= .slice none 0 0:=by simpa using hc
   exact⟨[],Nat.zero_le _,.inl ⟨.inl rfl,rfl⟩⟩
 · obtain rfl:v= .slice (some a) len cap:=by simpa using hcs
   have hs:=hv a len cap rfl;obtain⟨b,o,sp⟩:=a;dsimp only at hs;subst hs;have each:∀i,i<len→ ∃x:α,w.cells? base ⟨b,o+i*sz,none⟩ sz=some (T.vals x):=by intro i hi;have h1:=hel i hi;rw[T.cells,add_plain] at h1;have h2:elems[i]?=some elems[i]:=List.getElem?_eq_getElem (by omega);rw[h2,Option.bind_eq_some_iff] at h1;obtain⟨cs,h3,h4⟩:=h1;obtain⟨x,rfl⟩:=T.read h4;exact⟨x,h3⟩
   let f:Fin len→α:=fun i=>Classical.choose (each i i.2)
   have hf:∀i:Fin len,w.cells? base ⟨b,o+i*sz,none⟩ sz=some (T.vals (f i)):=fun i=>Classical.choose_spec (each i i.2);have hlx:(List.ofFn f).length=len:=by simp
   refine⟨List.ofFn f,by rw[hlx];omega,.inr ⟨b,o,cap,by rw[List.length_map,hlx],by rw[List.length_map,hlx];exact hl,T.rows fun i x hx j u hu=>?_,trivial⟩⟩;obtain⟨hi,hx⟩:=List.getElem?_eq_some_iff.1 hx;rw[List.getElem_ofFn] at hx;subst hx;exact (cells_get (hf ⟨i,by simpa using hi⟩)).2 j u hu
end Go.Abs
namespace Go.Proofs.YtioggblimkgioaaGreat
open Go.ChangeShapes Go.WideShapes Go.ChangeAt Go.RowKit Go.Abs
theorem walk_law{f:Nat}{args:List AV}(h:Fn0 Tryz.prog f args (fun v=>v= .bool true)){w:World}{vals:List Value}(hr:RelL (GS.pure (K0 w)) args vals):
  Calls Tryz.prog f vals.toArray w fun e w'=>e= .returned (.bool true)∧Below w.heap.size w w':=
 (h.calls (K0_ok w) hr).mono fun e w' ⟨v,av,K',h1,h4,h5,h6⟩=>by subst h1;subst h5;exact⟨by rw[show v= .bool true from h4],h6.below⟩
end Go.Proofs.YtioggblimkgioaaGreat
namespace Go.Abs
open Go.Proofs
structure Wd where
 name:ByteArray
 fam:Int
 deriving DecidableEq
structure Dl where
 kind:Int
 bag:Int
 other:Int
 wood:Int
 count:Int
 deriving DecidableEq
structure Gm where
 ws:List Wd
 ds:List Dl
abbrev Wd.row(w:Wd):List AV:=[.str w.name,.int .i64 w.fam]
abbrev Dl.row(d:Dl):List AV:=[.int .i64 d.kind,.int .i64 d.bag,.int .i64 d.other,.int .i64 d.wood,.int .i64 d.count]
abbrev wR(l:List Wd):List (List AV):=l.map fun w=>[.str w.name,.int .i64 w.fam]
abbrev dlR(l:List Dl):List (List AV):=l.map fun d=>[.int .i64 d.kind,.int .i64 d.bag,.int .i64 d.other,.int .i64 d.wood,.int .i64 d.count]
abbrev gmA(g:Gm):AV:= .agg [.slc 2 (wR g.ws) .non,.slc 5 (dlR g.ds) .non]
def wsErr:List Wd→List Wd→Int
 | _,[]=>0
 | pre,w::post=>if namedB w.name=true then (if pre.any (fun x=>decide (x.name=w.name))=true then 9 else if inB w.fam 0 9=true then wsErr (pre++[w]) post else 2) else 3
structure Tb where
 bags:List Int
 mixed:Int
 cens:Int
 tried:List Bool
def tb0:Tb:=⟨[0,0,0,0],0,0,[false,false,false,false,false,false]⟩
def atI(l:List Int)(i:Int):Int:=l.getD i.toNat 0
def formD(d:Dl):Bool:=
 if d.kind=1∨d.kind=6 then decide (d.bag=0) && decide (d.other=0) && decide (d.count=0)
 else if d.kind=2 then decide (d.other=0)
 else if d.kind=3 then decide (d.wood=0) && decide (d.count=0)
 else decide (d.other=0) && decide (d.wood=0)
def trialE(n:Nat)(d:Dl)(t:Tb):Int:=if inB d.wood 0 (n-1)=true then (if t.tried.getD d.wood.toNat false=true then 9 else 0) else 7
def mixE(n:Nat)(d:Dl)(t:Tb):Int:=if inB d.bag 0 3=true then (if inB d.wood 0 (n-1)=true then (if inB d.count 1 12=true then (if 12<t.mixed+d.count then 8 else 0) else 2) else 7) else 2
def pourE(d:Dl):Int:=if inB d.bag 0 3=true∧inB d.other 0 3=true then (if d.bag=d.other then 12 else 0) else 2
def asideE(d:Dl)(t:Tb):Int:=if inB d.bag 0 3=true∧inB d.count 1 12=true then (if atI t.bags d.bag<d.count then 6 else 0) else 2
def passE(d:Dl)(t:Tb):Int:=if asideE d t=0 then (if 9<t.cens+d.count then 8 else 0) else asideE d t
def placeE(n:Nat)(d:Dl)(t:Tb):Int:=if inB d.wood 0 (n-1)=true then (if 9<t.cens+1 then 8 else 0) else 7
def dealE(n:Nat)(d:Dl)(t:Tb):Int:=
 if d.kind=1 then trialE n d t else if d.kind=2 then mixE n d t else if d.kind=3 then pourE d else if d.kind=4 then asideE d t else if d.kind=5 then passE d t else placeE n d t
def setI(l:List Int)(i v:Int):List Int:=l.set i.toNat v
def dealT(d:Dl)(t:Tb):Tb:=
 if d.kind=1 then {t with tried:=t.tried.set d.wood.toNat true }
 else if d.kind=2 then {t with mixed:=t.mixed+d.count,bags:=setI t.bags d.bag (atI t.bags d.bag+d.count) }
 else if d.kind=3 then {t with bags:=setI (setI t.bags d.other (atI t.bags d.other+atI t.bags d.bag)) d.bag 0 }
 else if d.kind=4 then {t with bags:=setI t.bags d.bag (atI t.bags d.bag-d.count) }
 else if d.kind=5 then {t with bags:=setI t.bags d.bag (atI t.bags d.bag-d.count),cens:=t.cens+d.count }
 else {t with cens:=t.cens+1 }
def dlErr(n:Nat)(d:Dl)(t:Tb):Int:=if inB d.kind 1 6=true then (if formD d=true then dealE n d t else 3) else 4
def dsErr(n:Nat):Tb→List Dl→Int
 | _,[]=>0
 | t,d::r=>if dlErr n d t=0 then dsErr n (dealT d t) r else dlErr n d t
def dsTab:Tb→List Dl→Tb
 | t,[]=>t
 | t,d::r=>dsTab (dealT d t) r
def gmErr(g:Gm):Int:=
 if g.ws=[] then 6 else if 6<g.ws.length then 8 else if wsErr [] g.ws=0 then (if 24<g.ds.length then 8 else if dsErr g.ws.length tb0 g.ds=0 then (if (dsTab tb0 g.ds).cens=0 then 6 else 0) else dsErr g.ws.length tb0 g.ds) else wsErr [] g.ws
def bgAt(B:List Int)(i j:Int):Int:=B.getD (i.toNat*6+j.toNat) 0
def bgAdd(B:List Int)(i j x:Int):List Int:=B.set (i.toNat*6+j.toNat) (bgAt B i j+x)
def bgPour(B:List Int)(i k:Int):List Int:=(List.range 24).map fun y=>if y/6=k.toNat then B.getD y 0+B.getD (i.toNat*6+y%6) 0 else if y/6=i.toNat then 0 else B.getD y 0
def mixedB(d:Dl)(B:List Int):List Int:=if d.kind=2 then bgAdd B d.bag d.wood d.count else if d.kind=3 then bgPour B d.bag d.other else B
def drawB(B:List Int)(i j:Int):List Int:=bgAdd B i j (-1)
def bg0:List Int:=List.replicate 24 0
def bgSum(B:List Int)(i:Int)(f:Int→Int):Int:=(List.range 6).foldr (fun (w:Nat) s=>f w+s) 0
def bgSize(B:List Int)(i:Int):Int:=bgSum B i fun w=>bgAt B i w
def drawsB(d:Dl):Bool:=decide (d.kind=4) || decide (d.kind=5)
def cnt:List Dl→List Int→List Int→Int
 | [],_,[]=>1
 | [],_,_::_=>0
 | d::r,B,c=>
   if d.kind=4 then bgSum B d.bag fun w=>bgAt B d.bag w*cnt r (drawB B d.bag w) c
   else if d.kind=5 then (match c with
    | []=>0
    | x::c=>if inB x 0 5=true then bgAt B d.bag x*cnt r (drawB B d.bag x) c else 0)
   else if d.kind=6 then (match c with
    | []=>0
    | x::c=>if x=d.wood then cnt r B c else 0)
   else cnt r (mixedB d B) c
def allL(n:Nat):Nat→List (List Int)
 | 0=>[[]]
 | k+1=>(List.range n).flatMap fun (w:Nat)=>(allL n k).map fun l=>(w:Int)::l
abbrev rA(g:Rule):AV:= .agg [.int .i64 g.kind,.int .i64 g.a,.int .i64 g.b,.int .i64 g.weight]
abbrev pA(gs:List Guest)(rs:List Rule):AV:= .agg [.slc 5 (gR gs) .non,.slc 4 (rR rs) .non]
def ir158:IFn:= ⟨19,[(4,none)],(sO [oM 4 (kI 0)] (.seq (sO [oM 6 0,oN 7 6,oM 8 (kI 0)] (.blk 0 (.loop (sO [oB 9 .lss 8 7] (.seq (.cnd 9 .skip (.exit 0)) (.seq (.blk 1 (sO [oM 10 8,oM 5 10] (sO [oM 11 1,oM 12 0,oM 13 5,oA 14 1 12 13,oL 15 14,oB 16 .eql 11 15] (.cnd 16 (sO [oM 17 5,oM 4 17] .ret) .skip)))) (.ops [oB 18 .add 8 (kI 1),oM 8 18]))))))) (sO [oo 4 (.mov (.k (.int .i64 (-1))))] .ret)))⟩
def ir175:IFn:= ⟨9,[(4,none)],(sO [oM 4 (kB false)] (sO [oM 5 0,oM 6 1,oC 7 158 [5,6],oB 8 .geq 7 (kI 0),oM 4 8] .ret))⟩
def idxF'(g:Int):Nat→List Int→Int
 | _,[]=> -1
 | s,x::r=>if x=g then s else idxF' g (s+1) r
abbrev idxI(l:List Int)(g:Int):Int:=idxF' g 0 l
theorem index_c(l:List Int)(g:Int)(hl:l.length<1000000):FV 158 [.slc 1 (iR l) .non,.int .i64 g] (.int .i64 (idxI l g)):=by
 refine wk ir158 Tryz.func158 ?_;unfold ir158
 repeat' (first|refine aR ?_|with_reducible refine zI fun y hy=>?_|refine aX ?_|with_reducible intro _|with_reducible refine zJ ?_ fun y hy=>?_|refine aP ?_ ?_)
 refine w_loopK [0,1,7] [] (fun x:List Int×List Int=>l=x.1++x.2∧idxI l g=idxF' g x.1.length x.2) (fun x=>x.2.length) (fun x=>[(8,.int .i64 x.1.length)]) (fun _=>[]) ([],l) ⟨rfl,rfl⟩ ⟨rfl,trivial⟩ trivial ?_;rintro⟨pre,post⟩ ⟨hl,hb⟩ e σ;dsimp only at hl hb ⊢;have hlen:=congrArg List.length hl;cases post with
 | nil=>
   simp only[List.append_nil,List.length_append,List.length_nil] at hlen
   repeat' (first|refine aR ?_|with_reducible refine zI fun y hy=>?_|refine aX ?_|with_reducible intro _|with_reducible refine zJ ?_ fun y hy=>?_|refine aP ?_ ?_)
   rw[hb];rfl
 | cons x post=>
   simp only[List.length_append,List.length_cons] at hlen;simp only[idxF'] at hb
   repeat' (first|refine aR ?_|(refine w_ixP hl rfl rfl ?_)|with_reducible refine zI fun y hy=>?_|refine aX ?_|with_reducible intro _|with_reducible refine zJ ?_ fun y hy=>?_|refine aP ?_ ?_)
   · rename_i h;rw[if_pos h.symm] at hb;rw[hb];rfl
   · rename_i h;rw[if_neg (fun h'=>h h'.symm)] at hb;refine zQ (pre++[x],post) ?_ ?_
     · exact⟨by rw[hl];simp,by rw[hb,len_snoc]⟩
     · simp
theorem contains_c(l:List Int)(g:Int)(hl:l.length<1000000):FV 175 [.slc 1 (iR l) .non,.int .i64 g] (.bool (decide (0≤idxI l g))):=by
 refine wk ir175 Tryz.func175 ?_;unfold ir175
 repeat' (first|refine aR ?_|((with_reducible refine aC ?_);first|refine aV (index_c l g hl) ?_)|refine aX ?_|with_reducible intro _|refine aP ?_ ?_)
 rfl
def ir21:IFn:= ⟨26,[(4,none)],(sO [oM 4 (kB false)] (.seq (sO [oM 6 0,oN 7 6,oM 8 1,oN 9 8,oB 10 .neq 7 9] (.cnd 10 (sO [oM 4 (kB false)] .ret) .skip)) (.seq (sO [oM 5 (kI 0)] (.blk 0 (.loop (.seq (sO [oM 11 5,oM 12 0,oN 13 12,oB 14 .lss 11 13] (.cnd 14 .skip (.exit 0))) (.seq (.blk 1 (sO [oM 17 0,oM 18 5,oA 19 1 17 18,oL 20 19,oM 21 1,oM 22 5,oA 23 1 21 22,oL 24 23,oB 25 .neq 20 24] (.cnd 25 (sO [oM 4 (kB false)] .ret) .skip))) (.ops [oM 15 5,oB 16 .add 15 (kI 1),oM 5 16])))))) (sO [oM 4 (kB true)] .ret))))⟩
def ir169:IFn:= ⟨8,[(2,none)],(sO [oo 2 (.nil 1 2)] (.seq (sO [oM 3 0,oo 4 (.eqn .slice false 3 (.k .nsl))] (.cnd 4 (sO [oo 2 (.nil 1 2)] .ret) .skip)) (sO [oo 5 (.bsl 1 [] []),oM 6 0,oo 7 (.app 1 8 5 6 2),oM 2 7] .ret)))⟩
def hint169(P:Program):Hint:={site:=[(7,2)],nils:=[(2,1)],frz:=[],mve:=[],wr:=[] }
theorem eq_c(a b:List Int)(h:a.length<2^62):FV 21 [.slc 1 (iR a) .non,.slc 1 (iR b) .non] (.bool (decide (a=b))):=by
 refine wk ir21 Tryz.func21 ?_;unfold ir21
 repeat' (first|refine aR ?_|with_reducible refine zI fun y hy=>?_|refine aX ?_|with_reducible intro _|with_reducible refine zJ ?_ fun y hy=>?_|refine aP ?_ ?_)
 · rename_i h1;exact congrArg AV.bool (by simp;intro h;rw[h] at h1;exact h1 rfl)
 rename_i h1;refine w_loopK [0,1] [] (fun x:List Int×List Int×List Int=>a=x.1++x.2.1∧b=x.1++x.2.2∧x.2.1.length=x.2.2.length) (fun x=>x.2.1.length) (fun x=>[(5,.int .i64 x.1.length)]) (fun _=>[]) ([],a,b) ⟨rfl,rfl,by dsimp only;omega⟩ ⟨rfl,trivial⟩ trivial ?_;rintro⟨pre,pa,pb⟩ ⟨ha,hb,hl⟩ e σ;dsimp only at ha hb hl ⊢;have hlen:=congrArg List.length ha;cases pa with
 | nil=>
   cases pb with
   | cons _ _=>simp at hl
   | nil=>
     simp only[List.append_nil,List.length_append,List.length_nil] at hlen
     repeat' (first|refine aR ?_|with_reducible refine zI fun y hy=>?_|refine aX ?_|with_reducible intro _|with_reducible refine zJ ?_ fun y hy=>?_|refine aP ?_ ?_)
     exact congrArg AV.bool (by simp[ha,hb])
 | cons x pa=>
   cases pb with
   | nil=>simp at hl
   | cons y pb=>
     simp only[List.length_append,List.length_cons] at hlen
     repeat' (first|refine aR ?_|(first|refine w_ixP ha rfl rfl ?_|refine w_ixP hb rfl rfl ?_)|with_reducible refine zI fun y hy=>?_|refine aX ?_|with_reducible intro _|with_reducible refine zJ ?_ fun y hy=>?_|refine aP ?_ ?_)
     · rename_i h2;exact congrArg AV.bool (by simp[ha,hb];intro h;exact absurd h h2)
     · rename_i h2;obtain rfl:=Decidable.not_not.1 h2;refine zQ (pre++[x],pa,pb) ?_ ?_
       · exact⟨by rw[ha];simp,by rw[hb];simp,by simpa using hl⟩
       · simp
theorem clone_c(l:List Int)(a:AV)(ha:NowV a l)(h:l.length<2^40):FV 169 [a] (.slc 1 (iR l) .non):=by
 rcases ha with⟨rfl,rfl⟩ | ⟨rfl,hne⟩
 · refine RawC.walk (H:=hint169 Tryz.prog) ir169 Tryz.func169 rfl rfl rfl ?_;unfold ir169
   repeat' (first|refine aR ?_|refine aX ?_|with_reducible intro _|refine aP ?_ ?_)
   exact rfl
 · have hne':(iR l)≠[]:=by simpa using hne
   have hL:(iR l).length=l.length:=by simp
   refine RawC.walk (H:=hint169 Tryz.prog) ir169 Tryz.func169 rfl rfl rfl ?_;unfold ir169
   repeat' (first|refine aR ?_|refine aX ?_|with_reducible intro _|refine aP ?_ ?_)
   exact rfl
theorem cloneO_c(l:List Int)(a:AV)(ha:NowV a l)(h:l.length<2^40):RawC Tryz.prog 169 [a] (sg []) (SR (fun g:Nat=>fun v=>v= .slc 1 (iR l) (.own 2 g)) (fun g=>[(2,(g,.row []))])):=by
 rcases ha with⟨rfl,rfl⟩ | ⟨rfl,hne⟩
 · refine RawC.walk (H:=hint169 Tryz.prog) ir169 Tryz.func169 rfl rfl rfl ?_;unfold ir169
   repeat' (first
    | with_reducible (first|refine Rd.p ?_|refine w_alt ?_ ?_|refine zO ?_|refine zE0 ?_)
    | with_reducible (first|refine zI fun y hy=>?_|refine zL ?_|refine zS ?_|refine zA fun _=>?_|refine zV ?_|refine zC ?_|refine zG ?_|refine zU ?_|refine zG0 ?_|refine zU0 ?_|refine zF ?_)
    | with_reducible (first|refine zX ?_|refine zD fun _=>?_|refine zD0 ?_|refine zN ?_|refine zF0 ?_|refine zX0 ?_|refine z1 ?_|refine z2 ?_|refine z3 ?_|refine z4 ?_|refine z5 ?_|refine z6 ?_|refine z7 ?_|refine z8 ?_|refine y1 ?_|refine y2 ?_|refine y3 ?_|refine y4 ?_|refine y5 ?_|refine y6 ?_|refine y7 ?_|refine y8 ?_|refine Rt.p (fun _=>?_) fun _=>?_)
    | ((with_reducible apply w_ixM);(focus exact rfl);(focus exact rfl);case' hk=>intro y hy)|((with_reducible (first | apply w_val | apply q_ends));(focus exact rfl)))
   exact⟨_,rfl,rfl,trivial⟩
 · have hne':(iR l)≠[]:=by simpa using hne
   have hL:(iR l).length=l.length:=by simp
   refine RawC.walk (H:=hint169 Tryz.prog) ir169 Tryz.func169 rfl rfl rfl ?_;unfold ir169
   repeat' (first
    | with_reducible (first|refine Rd.p ?_|refine w_alt ?_ ?_|refine zO ?_|refine zE0 ?_)
    | with_reducible (first|refine zI fun y hy=>?_|refine zL ?_|refine zS ?_|refine zA fun _=>?_|refine zV ?_|refine zC ?_|refine zG ?_|refine zU ?_|refine zG0 ?_|refine zU0 ?_|refine zF ?_)
    | with_reducible (first|refine zX ?_|refine zD fun _=>?_|refine zD0 ?_|refine zN ?_|refine zF0 ?_|refine zX0 ?_|refine z1 ?_|refine z2 ?_|refine z3 ?_|refine z4 ?_|refine z5 ?_|refine z6 ?_|refine z7 ?_|refine z8 ?_|refine y1 ?_|refine y2 ?_|refine y3 ?_|refine y4 ?_|refine y5 ?_|refine y6 ?_|refine y7 ?_|refine y8 ?_|refine Rt.p (fun _=>?_) fun _=>?_)
    | ((with_reducible apply w_ixM);(focus exact rfl);(focus exact rfl);case' hk=>intro y hy)|((with_reducible (first | apply w_val | apply q_ends));(focus exact rfl)))
   exact⟨_,rfl,rfl,trivial⟩
section
variable {P:Program}
theorem ACall.liftYS{f:Nat}{args0 args:List AV}{l0:List (Nat×(Nat×Res))}{σ:Sig}{α:Type}{V:α→AV→Prop}{L:α→List (Nat×(Nat×Res))}{d:Nat}{Q:AV→Sig→Prop}(h:RawC P f args0 (sg l0) (SR V L))(ρi:List (Nat×Nat))(s:Option Nat)(hr:renOK (outs d s++ρi)=true){l:Nat}{xs:Option (List (List AV))}(hy:σ YS=(0,.yld l xs))(ha:args0=renL (flipL ρi) args)(h0:l0=pull (flipL ρi) σ ρi++[(YS,(0,.yld l xs))])(hl:liveL σ ρi)(hc:∀x,covers (L x) (outs d s++ρi)=true)(Y':α→Nat×Res)(hcy:∀x,lkS YS (L x)=some (Y' x))(hQ:∀x av,V x av→Q (ren (outs d s++ρi) av) (pushV (outs d s++ρi) (L x) (outs d s++ρi) (upd σ YS (Y' x)))):ACall P f args σ d Q:=
 ACall.liftY h ρi s hr hy ha h0 hl fun av σ0' ⟨x,hV,hs⟩=>by rw[lkS_slots hs (hcy x),push_slots hs (hc x)];exact hQ x av hV
end
end Go.Abs
namespace Go.Abs
theorem nodup_len:∀(n:Nat) (l:List Int),l.Nodup→(∀x∈l,0≤x∧x<n)→l.length≤n
 | 0,l,_,h=>by
   cases l with
   | nil=>simp
   | cons x l=>have:=h x (by simp);omega
 | n+1,l,hn,h=>by
   by_cases hm:(n:Int)∈l
   · have h1:=nodup_len n (l.erase (n:Int)) (hn.erase _) fun x hx=>by have h2:=(hn.mem_erase_iff).1 hx;have h3:=h x h2.2;have:=h2.1;omega
     have:=List.length_erase_of_mem hm;omega
   · have h1:=nodup_len n l hn fun x hx=>by have h3:=h x hx;have:x≠n:=fun e=>hm (e▸hx);omega
     omega
structure isPerm (n:Nat) (l:List Int):Prop where
 len:l.length=n
 nd:l.Nodup
 bd:∀x∈l,0≤x∧x<n
theorem isPerm.all{n:Nat}{l:List Int}(h:isPerm n l){g:Int}(hg:0≤g∧g<n):g∈l:=by
 refine Decidable.byContradiction fun hc=>?_;have:=nodup_len n (g::l) (List.nodup_cons.2 ⟨hc,h.nd⟩) fun x hx=>by
  rcases List.mem_cons.1 hx with rfl | hx
  · exact hg
  · exact h.bd x hx
 have h2:=h.len;simp at this;omega
end Go.Abs
namespace Go.Abs
section
variable {P:Program}
theorem w_ldI{K:(Nat→AV)→Sig→Prop}{e:Nat→AV}{σ:Sig}{x:IOpd}{d:Nat}{r:List IStep}{i g off:Nat}{xs:List Int}(hx:x.ev e= .ref i g off)(hσ:σ i=(g,.row (xs.map (AV.int .i64))))(ho:off<xs.length)(hk:stepsW P r K (upd e d (.int .i64 (xs.getD off 0))) σ):stepsW P (⟨some d,none,.ld 1 false x⟩::r) K e σ:=by
 refine w_val (p:=g=g∧True) (v:= .int .i64 (xs.getD off 0)) ?_ ⟨rfl,trivial⟩ hk;show ldO 1 false σ (x.ev e)=_
 rw[hx];simp only[ldO,hσ,partO,List.getElem?_map,List.getElem?_eq_getElem ho,Option.map_some,List.getD_eq_getElem?_getD,Option.getD_some];rfl
theorem w_ldC{K:(Nat→AV)→Sig→Prop}{e:Nat→AV}{σ:Sig}{x:IOpd}{d:Nat}{r:List IStep}{i g off:Nat}{pre post:List AV}{c:AV}(hx:x.ev e= .ref i g off)(hσ:σ i=(g,.row (pre++c::post)))(ho:off=pre.length)(hc:forceA c=some c)(hk:stepsW P r K (upd e d c) σ):stepsW P (⟨some d,none,.ld 1 false x⟩::r) K e σ:=by
 refine w_val (p:=g=g∧True) (v:=c) ?_ ⟨rfl,trivial⟩ hk;show ldO 1 false σ (x.ev e)=_
 rw[hx];subst ho;have:(pre++c::post)[pre.length]?=some c:=by simp
 simp only[ldO,hσ,partO,this,hc,liftV,okV]
theorem w_stC{K:(Nat→AV)→Sig→Prop}{e:Nat→AV}{σ:Sig}{x v:IOpd}{r:List IStep}{i g off:Nat}{pre post:List AV}{c c':AV}(hx:x.ev e= .ref i g off)(hσ:σ i=(g,.row (pre++c::post)))(ho:off=pre.length)(hv:cellsO 1 (v.ev e)=some (1=1,[c']))(hk:stepsW P r K e (upd σ i (g,.row (pre++c'::post)))):stepsW P (⟨none,none,.st 1 x v⟩::r) K e σ:=by
 subst ho;refine w_det0 (p:=g=g∧1=1∧pre.length+1≤(pre++c::post).length) (v:= .junk) (σ':=upd σ i (g,.row (setL (pre++c::post) pre.length [c']))) (fun _=>?_) ⟨rfl,rfl,by simp⟩ ?_
 · show stO 1 σ (v.ev e) (x.ev e)=_
   rw[hx];simp only[stO,hv,hσ]
 · have:setL (pre++c::post) pre.length [c']=pre++c'::post:=by rw[setL_one,List.set_append_right _ _ (Nat.le_refl _)];simp
   rw[this];exact hk
theorem w_mksL{K:(Nat→AV)→Sig→Prop}{e:Nat→AV}{σ:Sig}{d:Nat}{l:IOpd}{r:List IStep}{n:Nat}(hl:l.ev e= .int .i64 n)(hn:n≤1000000)(hk:∀g,stepsW P r K (upd e d (.msl d g n 1)) (newS σ d g (List.replicate n AV.nsl))):stepsW P (⟨some d,none,.mks 1 24 [.nsl] l l⟩::r) K e σ:=by
 refine w_det (p:=0≤(n:Int)∧(n:Int)=n∧(n:Int)*24≤140737488355328∧(n:Int)≤9223372036854775807) (v:=fun g=> .msl d g n 1) (σ':=fun g=>newS σ d g (List.replicate n [AV.nsl]).flatten) (fun g=>?_) ⟨by omega,rfl,by omega,by omega⟩ fun g=>?_
 · show (match l.ev e,l.ev e with
    | .int _ n,.int _ c=>some (0≤n∧c=n∧n*(24:Nat)≤140737488355328∧n≤9223372036854775807,AV.msl d g n.toNat 1,newS σ d g (List.replicate n.toNat [AV.nsl]).flatten)
    | _,_=>none)=_
   rw[hl];rfl
 · have:∀n:Nat,(List.replicate n [AV.nsl]).flatten=List.replicate n AV.nsl:=by
    intro n;induction n with
    | zero=>rfl
    | succ n ih=>simp[List.replicate_succ,ih]
   rw[this];exact hk g
end
end Go.Abs
namespace Go.Abs
open Go.Proofs
variable {P:Program}
theorem slots_iff{β:Type}{e:Nat→β}:∀{l:List (Nat×β)},slots l e↔ ∀p∈l,e p.1=p.2
 | []=>by simp[slots]
 | (i,v)::r=>by simp[slots,slots_iff (l:=r)]
def rowZ(n:Nat)(f:Nat→Int):List AV:=(List.range n).map fun y=>AV.int .i64 (f y)
def rowsS(b n:Nat)(hs:Nat→Nat)(f:Nat→Nat→Int):List (Nat×(Nat×Res)):=(List.range b).map fun k=>(5000+k,(hs k,Res.row (rowZ n (f k))))
theorem w_ldAt{K:(Nat→AV)→Sig→Prop}{e:Nat→AV}{σ:Sig}{x:IOpd}{d:Nat}{r:List IStep}{i g off:Nat}{c:List AV}{v:AV}(hx:x.ev e= .ref i g off)(hσ:σ i=(g,.row c))(hc:c[off]?=some v)(hv:forceA v=some v)(hk:stepsW P r K (upd e d v) σ):stepsW P (⟨some d,none,.ld 1 false x⟩::r) K e σ:=by
 refine w_val (p:=g=g∧True) (v:=v) ?_ ⟨rfl,trivial⟩ hk;show ldO 1 false σ (x.ev e)=_
 rw[hx];simp only[ldO,hσ,partO,hc,hv,liftV,okV]
theorem mvL_map(i g j h:Nat):∀l:List AV,mvL i g j h l=l.map (mvA i g j h)
 | []=>rfl
 | a::l=>by rw[mvL,mvL_map i g j h l];rfl
theorem mvL_row(i g j h n:Nat)(f:Nat→Int):mvL i g j h (rowZ n f)=rowZ n f:=by rw[mvL_map,rowZ,List.map_map];rfl
theorem mvS_keep{i g j h k x:Nat}{σ:Sig}{c:List AV}(hs:σ k=(x,.row c))(h1:k≠j)(h2:k≠i)(hc:mvL i g j h c=c):mvS i g j h σ k=(x,.row c):=by simp[mvS,h1,h2,hs,mvR,hc]
theorem mvS_at{i g j h:Nat}{σ:Sig}{c:List AV}(hs:σ i=(g,.row c))(hc:mvL i g j h c=c):mvS i g j h σ j=(h,.row c):=by simp[mvS,hs,mvR,hc]
theorem mvE_keep{i g j h t:Nat}{e:Nat→AV}{a:AV}(he:e t=a)(ha:mvA i g j h a=a):mvE i g j h e t=a:=by simp[mvE,he,ha]
def cellR(n:Nat)(hs:Nat→Nat)(k:Nat):AV:= .msl (5000+k) (hs k) n 1
def cellsR(n a:Nat)(hs:Nat→Nat):List AV:=(List.range a).map (cellR n hs)
theorem cellsR_len(n a:Nat)(hs:Nat→Nat):(cellsR n a hs).length=a:=by simp[cellsR]
theorem cellsR_get{n a:Nat}(hs:Nat→Nat){k:Nat}(h:k<a):(cellsR n a hs)[k]?=some (.msl (5000+k) (hs k) n 1):=by simp[cellsR,List.getElem?_range h,cellR]
def ir161:IFn:= ⟨15,[(6,none)],(sO [oM 6 (kB false)] (sO [oM 7 1,oM 8 0,oB 9 .leq 7 8,oM 10 9,⟨(some 11),(some (10,true)),(.mov 0)⟩,⟨(some 12),(some (10,true)),(.mov 2)⟩,⟨(some 13),(some (10,true)),(.bin .leq 11 12)⟩,oo 14 (.pick 10 13 (kB false)),oM 6 14] .ret))⟩
def ir160:IFn:= ⟨22,[(2,none)],(sO [oM 2 (kB false)] (.seq (sO [oM 5 0,oo 6 (.cvSB 5),oN 7 6,oM 8 (kI 0)] (.blk 0 (.loop (sO [oB 9 .lss 8 7] (.seq (.cnd 9 .skip (.exit 0)) (.seq (.blk 1 (sO [oA 10 1 6 8,oL 11 10,oM 4 11] (sO [oM 12 4,oo 13 (.bin .lss 12 (.k (.int .u8 97))),oM 14 13,⟨(some 15),(some (14,false)),(.mov 4)⟩,⟨(some 16),(some (14,false)),(.bin .gtr 15 (.k (.int .u8 122)))⟩,oo 17 (.pick 14 (kB true) 16)] (.cnd 17 (sO [oM 2 (kB false)] .ret) .skip)))) (.ops [oB 18 .add 8 (kI 1),oM 8 18]))))))) (sO [oM 19 0,oo 20 (.len true 19),oC 21 161 [20,(kI 1),(kI 8)],oM 2 21] .ret)))⟩
def ir163:IFn:= ⟨29,[(2,none)],(sO [oo 1 (.box 5 0),oM 2 (kB false)] (sO [oo 4 (.ld 5 true 1),oo 3 (.new [z0,z0,z0,z0,z0]),oS 5 3 4] (sO [oF 5 0 3,oS 1 5 (kI 0)] (.seq (sO [oF 6 0 1,oL 7 6] (.blk 0 (.seq (sO [oB 9 .eql 7 (kI 1),oM 8 9] (.cnd 8 .skip (.ops [oB 10 .eql 7 (kI 6),oM 8 10]))) (.cnd 8 (.ops [oF 11 3 3,oS 1 11 (kI 0)]) (sO [oB 13 .eql 7 (kI 2),oM 12 13] (.cnd 12 (.ops [oF 14 1 3,oS 1 14 (kI 0),oF 15 3 3,oS 1 15 (kI 0),oF 16 4 3,oS 1 16 (kI 0)]) (sO [oB 18 .eql 7 (kI 3),oM 17 18] (.cnd 17 (.ops [oF 19 1 3,oS 1 19 (kI 0),oF 20 2 3,oS 1 20 (kI 0)]) (.seq (sO [oB 22 .eql 7 (kI 4),oM 21 22] (.cnd 21 .skip (.ops [oB 23 .eql 7 (kI 5),oM 21 23]))) (.cnd 21 (.ops [oF 24 1 3,oS 1 24 (kI 0),oF 25 4 3,oS 1 25 (kI 0)]) .skip)))))))))) (sO [oo 26 (.ld 5 true 3),oo 27 (.bld [z0,z0,z0,z0,z0] []),oo 28 (.eqn (.flat [.i,.i,.i,.i,.i]) false 26 27),oM 2 28] .ret)))))⟩
def ir217:IFn:= ⟨14,[(4,none)],(sO [oo 3 (.box 5 1),oM 4 (kI 0)] (.seq (sO [oF 5 3 3,oL 6 5,oM 7 0,oo 8 (.nck 7),oF 9 0 8,oL 10 9,oB 11 .sub 10 (kI 1),oC 12 161 [6,(kI 0),11],oo 13 (.not 12)] (.cnd 13 (sO [oM 4 (kI 7)] .ret) .skip)) (sO [oM 4 (kI 0)] .ret)))⟩
def ir218:IFn:= ⟨18,[(4,none)],(sO [oM 4 (kI 0)] (.seq (sO [oM 5 0,oo 6 (.nck 5),oF 7 2 6,oL 8 7,oM 9 1,oB 10 .add 8 9,oo 11 (.nck 5),oF 12 2 11,oS 1 12 10] (sO [oM 13 0,oo 14 (.nck 13),oF 15 2 14,oL 16 15,oB 17 .gtr 16 (kI 9)] (.cnd 17 (sO [oM 4 (kI 8)] .ret) .skip))) (sO [oM 4 (kI 0)] .ret)))⟩
def ir202:IFn:= ⟨25,[(4,none)],(sO [oo 3 (.box 5 1),oM 4 (kI 0)] (.seq (sO [oM 6 0,oo 7 (.ld 5 true 3),oC 8 217 [6,7],oM 5 8] (sO [oM 9 5,oB 10 .neq 9 (kI 0)] (.cnd 10 (sO [oM 11 5,oM 4 11] .ret) .skip))) (.seq (sO [oM 12 0,oF 13 3 3,oL 14 13,oo 15 (.nck 12),oF 16 3 15,oo 17 (.ixAr 6 1 16 14),oL 18 17] (.cnd 18 (sO [oM 4 (kI 9)] .ret) .skip)) (sO [oM 19 0,oF 20 3 3,oL 21 20,oo 22 (.nck 19),oF 23 3 22,oo 24 (.ixAr 6 1 23 21),oS 1 24 (kB true)] (sO [oM 4 (kI 0)] .ret)))))⟩
def ir203:IFn:= ⟨47,[(4,none)],(sO [oo 3 (.box 5 1),oM 4 (kI 0)] (.seq (sO [oF 6 1 3,oL 7 6,oC 8 161 [7,(kI 0),(kI 3)],oo 9 (.not 8)] (.cnd 9 (sO [oM 4 (kI 2)] .ret) .skip)) (.seq (sO [oM 10 0,oo 11 (.ld 5 true 3),oC 12 217 [10,11],oM 5 12] (sO [oM 13 5,oB 14 .neq 13 (kI 0)] (.cnd 14 (sO [oM 15 5,oM 4 15] .ret) .skip))) (.seq (sO [oF 16 4 3,oL 17 16,oC 18 161 [17,(kI 1),(kI 12)],oo 19 (.not 18)] (.cnd 19 (sO [oM 4 (kI 2)] .ret) .skip)) (.seq (sO [oM 20 0,oo 21 (.nck 20),oF 22 1 21,oL 23 22,oF 24 4 3,oL 25 24,oB 26 .add 23 25,oo 27 (.nck 20),oF 28 1 27,oS 1 28 26] (sO [oM 29 0,oo 30 (.nck 29),oF 31 1 30,oL 32 31,oB 33 .gtr 32 (kI 12)] (.cnd 33 (sO [oM 4 (kI 8)] .ret) .skip))) (sO [oM 34 0,oF 35 1 3,oL 36 35,oo 37 (.nck 34),oF 38 9 37,oo 39 (.ixAr 4 1 38 36),oL 40 39,oF 41 4 3,oL 42 41,oB 43 .add 40 42,oo 44 (.nck 34),oF 45 9 44,oo 46 (.ixAr 4 1 45 36),oS 1 46 43] (sO [oM 4 (kI 0)] .ret)))))))⟩
def ir204:IFn:= ⟨44,[(4,none)],(sO [oo 3 (.box 5 1),oM 4 (kI 0)] (.seq (.blk 0 (.seq (sO [oF 6 1 3,oL 7 6,oC 8 161 [7,(kI 0),(kI 3)],oo 9 (.not 8),oM 5 9] (.cnd 5 .skip (.ops [oF 10 2 3,oL 11 10,oC 12 161 [11,(kI 0),(kI 3)],oo 13 (.not 12),oM 5 13]))) (.cnd 5 (sO [oM 4 (kI 2)] .ret) (sO [oF 15 1 3,oL 16 15,oF 17 2 3,oL 18 17,oB 19 .eql 16 18,oM 14 19] (.cnd 14 (sO [oM 4 (kI 12)] .ret) .skip))))) (sO [oM 20 0,oF 21 2 3,oL 22 21,oo 23 (.nck 20),oF 24 9 23,oo 25 (.ixAr 4 1 24 22),oL 26 25,oM 27 0,oF 28 1 3,oL 29 28,oo 30 (.nck 27),oF 31 9 30,oo 32 (.ixAr 4 1 31 29),oL 33 32,oB 34 .add 26 33,oo 35 (.nck 20),oF 36 9 35,oo 37 (.ixAr 4 1 36 22),oS 1 37 34] (sO [oM 38 0,oF 39 1 3,oL 40 39,oo 41 (.nck 38),oF 42 9 41,oo 43 (.ixAr 4 1 42 40),oS 1 43 (kI 0)] (sO [oM 4 (kI 0)] .ret)))))⟩
def ir205:IFn:= ⟨38,[(4,none)],(sO [oo 3 (.box 5 1),oM 4 (kI 0)] (.seq (.blk 0 (.seq (sO [oF 6 1 3,oL 7 6,oC 8 161 [7,(kI 0),(kI 3)],oo 9 (.not 8),oM 5 9] (.cnd 5 .skip (.ops [oF 10 4 3,oL 11 10,oC 12 161 [11,(kI 1),(kI 12)],oo 13 (.not 12),oM 5 13]))) (.cnd 5 (sO [oM 4 (kI 2)] .ret) (sO [oM 15 0,oF 16 1 3,oL 17 16,oo 18 (.nck 15),oF 19 9 18,oo 20 (.ixAr 4 1 19 17),oL 21 20,oF 22 4 3,oL 23 22,oB 24 .lss 21 23,oM 14 24] (.cnd 14 (sO [oM 4 (kI 6)] .ret) .skip))))) (sO [oM 25 0,oF 26 1 3,oL 27 26,oo 28 (.nck 25),oF 29 9 28,oo 30 (.ixAr 4 1 29 27),oL 31 30,oF 32 4 3,oL 33 32,oB 34 .sub 31 33,oo 35 (.nck 25),oF 36 9 35,oo 37 (.ixAr 4 1 36 27),oS 1 37 34] (sO [oM 4 (kI 0)] .ret))))⟩
def ir206:IFn:= ⟨16,[(4,none)],(sO [oo 3 (.box 5 1),oM 4 (kI 0)] (.seq (sO [oM 6 0,oo 7 (.ld 5 true 3),oC 8 205 [6,7],oM 5 8] (sO [oM 9 5,oB 10 .neq 9 (kI 0)] (.cnd 10 (sO [oM 11 5,oM 4 11] .ret) .skip))) (sO [oM 12 0,oF 13 4 3,oL 14 13,oC 15 218 [12,14],oM 4 15] .ret)))⟩
def ir207:IFn:= ⟨14,[(4,none)],(sO [oo 3 (.box 5 1),oM 4 (kI 0)] (.seq (sO [oM 6 0,oo 7 (.ld 5 true 3),oC 8 217 [6,7],oM 5 8] (sO [oM 9 5,oB 10 .neq 9 (kI 0)] (.cnd 10 (sO [oM 11 5,oM 4 11] .ret) .skip))) (sO [oM 12 0,oC 13 218 [12,(kI 1)],oM 4 13] .ret)))⟩
theorem gin_c(n a b:Int):FV 161 [.int .i64 n,.int .i64 a,.int .i64 b] (.bool (inB n a b)):=by
 by_cases h1:a≤n
 · by_cases h2:n≤b
   · have:inB n a b=true:=inB_t.2 ⟨h1,h2⟩;rw[this];refine wk ir161 Tryz.func161 ?_;unfold ir161
     repeat' (first|refine aR ?_|refine aX ?_|with_reducible intro _|refine aP ?_ ?_)
     rw[decide_eq_true h2];rfl
   · have:inB n a b=false:=inB_f.2 (by omega);rw[this];refine wk ir161 Tryz.func161 ?_;unfold ir161
     repeat' (first|refine aR ?_|refine aX ?_|with_reducible intro _|refine aP ?_ ?_)
     rw[decide_eq_false h2];rfl
 · have:inB n a b=false:=inB_f.2 (by omega);rw[this];refine wk ir161 Tryz.func161 ?_;unfold ir161
   repeat' (first|refine aR ?_|refine aX ?_|with_reducible intro _|refine aP ?_ ?_)
   all_goals first|rfl|(exfalso;omega)
def ckRow(n:Nat)(t:Tb):List AV:= .int .i64 n:: .int .i64 t.mixed:: .int .i64 t.cens::(t.tried.map AV.bool++t.bags.map (AV.int .i64))
structure tbOK (t:Tb):Prop where
 b:t.bags.length=4
 r:t.tried.length=6
 m:0≤t.mixed∧t.mixed≤12
 c:0≤t.cens∧t.cens≤9
 nn:∀x∈t.bags,0≤x
 s:t.bags.sum≤t.mixed
theorem sum_setI:∀(l:List Int) (i:Nat) (v:Int),i<l.length→(l.set i v).sum=l.sum-l.getD i 0+v
 | a::r,0,v,_=>by simp;omega
 | a::r,i+1,v,h=>by have ih:=sum_setI r i v (by simpa using h);simp only[List.set_cons_succ,List.sum_cons,List.getD_cons_succ];rw[ih];omega
 | [],i,v,h=>by simp at h
theorem sum_nn:∀{l:List Int},(∀x∈l,0≤x)→0≤l.sum
 | [],_=>by simp
 | a::r,h=>by have:=sum_nn (l:=r) fun x hx=>h x (by simp[hx]);have:=h a (by simp);simp only[List.sum_cons];omega
theorem le_sum:∀{l:List Int},(∀x∈l,0≤x)→ ∀x∈l,x≤l.sum
 | a::r,h,x,hx=>by
   have h1:=sum_nn (l:=r) fun x hx=>h x (by simp[hx]);have h2:=h a (by simp);simp only[List.sum_cons];rcases List.mem_cons.1 hx with rfl | hx
   · omega
   · have:=le_sum (l:=r) (fun x hx=>h x (by simp[hx])) x hx;omega
theorem mem_setI{l:List Int}{i:Int}{v x:Int}(h:x∈setI l i v):x∈l∨x=v:=List.mem_or_eq_of_mem_set h
theorem tbOK.at{t:Tb}(h:tbOK t){b:Int}(hb:b.toNat<4):0≤atI t.bags b∧atI t.bags b≤12:=by
 have hl:=h.b;have hm:atI t.bags b∈t.bags:=by unfold atI;rw[List.getD_eq_getElem?_getD,List.getElem?_eq_getElem (by omega)];exact List.getElem_mem _
 have:=le_sum h.nn _ hm;have:=h.nn _ hm;have:=h.s;have:=h.m;omega
theorem tbOK.set{t:Tb}(h:tbOK t){b v m c:Int}(hb:b.toNat<4)(hv:0≤v)(hm:0≤m∧m≤12)(hc:0≤c∧c≤9)(hs:t.bags.sum-atI t.bags b+v≤m):tbOK {t with bags:=setI t.bags b v,mixed:=m,cens:=c }:=by
 refine⟨by show (List.set _ _ _).length=4;rw[List.length_set];exact h.b,h.r,hm,hc,fun x hx=>?_,?_⟩
 · rcases mem_setI hx with hx|rfl
   · exact h.nn x hx
   · exact hv
 · have:=sum_setI t.bags b.toNat v (by rw[h.b];exact hb);show (t.bags.set b.toNat v).sum≤m
   rw[this];exact hs
theorem ck_tried{n:Nat}{t:Tb}{w:Nat}(h:t.tried.length=6)(hw:w<6):(ckRow n t)[3+w]?=some (.bool (t.tried.getD w false)):=by unfold ckRow;rw[show 3+w=w+1+1+1 by omega,List.getElem?_cons_succ,List.getElem?_cons_succ,List.getElem?_cons_succ,List.getElem?_append_left (by simp;omega),List.getElem?_map,List.getElem?_eq_getElem (by omega)];simp[List.getD_eq_getElem?_getD,List.getElem?_eq_getElem (show w<t.tried.length by omega)]
theorem ck_bags{n:Nat}{t:Tb}{w:Nat}(h:t.tried.length=6)(hb:t.bags.length=4)(hw:w<4):(ckRow n t)[9+w]?=some (.int .i64 (t.bags.getD w 0)):=by unfold ckRow;rw[show 9+w=(6+w)+1+1+1 by omega,List.getElem?_cons_succ,List.getElem?_cons_succ,List.getElem?_cons_succ,List.getElem?_append_right (by simp;omega),List.length_map,h,Nat.add_sub_cancel_left,List.getElem?_map,List.getElem?_eq_getElem (by omega)];simp[List.getD_eq_getElem?_getD,List.getElem?_eq_getElem (show w<t.bags.length by omega)]
theorem ck_setT{n:Nat}{t:Tb}{w:Nat}{b:Bool}(h:t.tried.length=6)(hw:w<6):(ckRow n t).set (3+w) (.bool b)=ckRow n {t with tried:=t.tried.set w b }:=by unfold ckRow;rw[show 3+w=w+1+1+1 by omega,List.set_cons_succ,List.set_cons_succ,List.set_cons_succ,List.set_append_left _ _ (by simp;omega),←List.map_set]
theorem ck_setB{n:Nat}{t:Tb}{w:Nat}{v:Int}(h:t.tried.length=6):(ckRow n t).set (9+w) (.int .i64 v)=ckRow n {t with bags:=t.bags.set w v }:=by unfold ckRow;rw[show 9+w=(6+w)+1+1+1 by omega,List.set_cons_succ,List.set_cons_succ,List.set_cons_succ,List.set_append_right _ _ (by simp;omega),List.length_map,h,Nat.add_sub_cancel_left,←List.map_set]
theorem ck_len{n:Nat}{t:Tb}(h:t.tried.length=6)(hb:t.bags.length=4):(ckRow n t).length=13:=by unfold ckRow;simp[h,hb]
section
variable {P:Program} {K:(Nat→AV)→Sig→Prop} {e:Nat→AV} {σ:Sig} {x v:IOpd} {r:List IStep}
theorem w_stAt{i g off:Nat}{c:List AV}{a:AV}(hx:x.ev e= .ref i g off)(hσ:σ i=(g,.row c))(hv:cellsO 1 (v.ev e)=some (1=1,[a]))(ho:off<c.length)(hk:stepsW P r K e (upd σ i (g,.row (c.set off a)))):stepsW P (⟨none,none,.st 1 x v⟩::r) K e σ:=by
 refine w_det0 (p:=g=g∧1=1∧off+1≤c.length) (v:= .junk) (σ':=upd σ i (g,.row (setL c off [a]))) (fun _=>?_) ⟨rfl,rfl,by omega⟩ ?_
 · show stO 1 σ (v.ev e) (x.ev e)=_
   rw[hx];simp only[stO,hv,hσ]
 · rw[setL_one];exact hk
variable {n:Nat} {t:Tb} {g i:Nat}
theorem w_ckLT{d w off:Nat}(hx:x.ev e= .ref i g off)(ho:off=3+w)(hσ:σ i=(g,.row (ckRow n t)))(h:t.tried.length=6)(hw:w<6)(hk:stepsW P r K (upd e d (.bool (t.tried.getD w false))) σ):stepsW P (⟨some d,none,.ld 1 false x⟩::r) K e σ:=w_ldAt hx hσ (by rw[ho];exact ck_tried h hw) rfl hk
theorem w_ckLB{d w off:Nat}{b:Int}(hx:x.ev e= .ref i g off)(ho:off=9+w)(hσ:σ i=(g,.row (ckRow n t)))(h:t.tried.length=6)(hb:t.bags.length=4)(hw:w<4)(hbv:t.bags.getD w 0=b)(hk:stepsW P r K (upd e d (.int .i64 b)) σ):stepsW P (⟨some d,none,.ld 1 false x⟩::r) K e σ:=w_ldAt hx hσ (by rw[ho,←hbv];exact ck_bags h hb hw) rfl hk
theorem w_ckST{w off:Nat}{b:Bool}(hx:x.ev e= .ref i g off)(ho:off=3+w)(hv:v.ev e= .bool b)(hσ:σ i=(g,.row (ckRow n t)))(h:t.tried.length=6)(hb:t.bags.length=4)(hw:w<6)(hk:stepsW P r K e (upd σ i (g,.row (ckRow n {t with tried:=t.tried.set w b })))):stepsW P (⟨none,none,.st 1 x v⟩::r) K e σ:=by
 refine w_stAt (a:= .bool b) hx hσ (by rw[hv];rfl) (by rw[ck_len h hb];omega) ?_;rw[ho,ck_setT h hw];exact hk
theorem w_ckSB{w off:Nat}{b:Int}(hx:x.ev e= .ref i g off)(ho:off=9+w)(hv:v.ev e= .int .i64 b)(hσ:σ i=(g,.row (ckRow n t)))(h:t.tried.length=6)(hb:t.bags.length=4)(hw:w<4)(hk:stepsW P r K e (upd σ i (g,.row (ckRow n {t with bags:=t.bags.set w b })))):stepsW P (⟨none,none,.st 1 x v⟩::r) K e σ:=by
 refine w_stAt (a:= .int .i64 b) hx hσ (by rw[hv];rfl) (by rw[ck_len h hb];omega) ?_;rw[ho,ck_setB h];exact hk
theorem w_ckSN{off:Nat}{b:Int}(hx:x.ev e= .ref i g off)(ho:off=1)(hv:v.ev e= .int .i64 b)(hσ:σ i=(g,.row (ckRow n t)))(hk:stepsW P r K e (upd σ i (g,.row (ckRow n {t with mixed:=b })))):stepsW P (⟨none,none,.st 1 x v⟩::r) K e σ:=by
 subst ho;exact w_stAt (a:= .int .i64 b) hx hσ (by rw[hv];rfl) (by unfold ckRow;simp) hk
theorem w_ckSC{off:Nat}{b:Int}(hx:x.ev e= .ref i g off)(ho:off=2)(hv:v.ev e= .int .i64 b)(hσ:σ i=(g,.row (ckRow n t)))(hk:stepsW P r K e (upd σ i (g,.row (ckRow n {t with cens:=b })))):stepsW P (⟨none,none,.st 1 x v⟩::r) K e σ:=by
 subst ho;exact w_stAt (a:= .int .i64 b) hx hσ (by rw[hv];rfl) (by unfold ckRow;simp) hk
end
abbrev ckS(g n:Nat)(t:Tb):List (Nat×(Nat×Res)):=[(1000,(g,.row (ckRow n t)))]
abbrev dlA(d:Dl):AV:= .agg (Dl.row d)
theorem renL_app2(ρ:List (Nat×Nat)):∀l m:List AV,renL ρ (l++m)=renL ρ l++renL ρ m
 | [],m=>rfl
 | a::l,m=>by rw[List.cons_append,renL,renL,renL_app2 ρ l m];rfl
theorem renL_ck(ρ:List (Nat×Nat))(n:Nat)(t:Tb):renL ρ (ckRow n t)=ckRow n t:=by
 unfold ckRow;have h1:∀l:List Bool,renL ρ (l.map AV.bool)=l.map AV.bool:=by
  intro l;induction l with
  | nil=>rfl
  | cons a r ih=>rw[List.map_cons,renL,ih];rfl
 have h2:∀l:List Int,renL ρ (l.map (AV.int .i64))=l.map (AV.int .i64):=by
  intro l;induction l with
  | nil=>rfl
  | cons a r ih=>rw[List.map_cons,renL,ih];rfl
 rw[renL,renL,renL,renL_app2,h1,h2];rfl
theorem ACall.ck{P:Program}{f:Nat}{args0 args:List AV}{V:Tb→AV→Prop}{σ:Sig}{d j g n:Nat}{t:Tb}{Q:AV→Sig→Prop}(h:RawC P f (.ref 1000 g 0::args0) (sg (ckS g n t)) (SR V (ckS g n)))(hr:renOK [(1000,j)]=true)(hσ:σ j=(g,.row (ckRow n t)))(ha:args0=renL [(j,1000)] args)(hQ:∀av t',V t' av→Q (ren [(1000,j)] av) (upd σ j (g,.row (ckRow n t')))):ACall P f (.ref j g 0::args) σ d Q:=by
 subst ha;refine ACall.lift (l0:=ckS g n t) h [(1000,j)] none hr ?_ ?_ ⟨⟨_,by rw[hσ]⟩,trivial⟩ ?_
 · show _=ren _ _::_
   have:lk (flipL [(1000,j)]) j=some 1000:=by simp[flipL,lk]
   simp only[ren,this];rfl
 · simp only[pull,hσ,renR,renL_ck]
 · rintro av σ0' ⟨t',hV,hs,_⟩;have:=hQ av t' hV;have e:=push_one (ρ:=outs d none++[(1000,j)]) (σ:=σ) (b:=j) (r:=[]) hs;rw[show (outs d none++[(1000,j)])=[(1000,j)] from rfl] at e ⊢;rw[e];simp only[renR,renL_ck];exact this
theorem ckwood_c(g n:Nat)(d:Dl)(t:Tb)(hn:n<1000):RawC Tryz.prog 217 [.ref 1000 g 0,dlA d] (sg (ckS g n t)) (SR (fun t' v=>v= .int .i64 (if inB d.wood 0 (n-1)=true then 0 else 7)∧t=t') (ckS g n)):=by
 have h:=gin_c d.wood 0 (n-1);cases hb:inB d.wood 0 (n-1) with
 | true=>
   rw[hb] at h;refine wk ir217 Tryz.func217 ?_;unfold ir217
   repeat' (first|refine aR ?_|((with_reducible refine aC ?_);first|refine aV h ?_)|refine aX ?_|with_reducible intro _|refine aP ?_ ?_)
   exact⟨t,⟨rfl,rfl⟩,rfl,trivial⟩
 | false=>
   rw[hb] at h;refine wk ir217 Tryz.func217 ?_;unfold ir217
   repeat' (first|refine aR ?_|((with_reducible refine aC ?_);first|refine aV h ?_)|refine aX ?_|with_reducible intro _|refine aP ?_ ?_)
   exact⟨t,⟨rfl,rfl⟩,rfl,trivial⟩
theorem ckmore_c(g n:Nat)(m:Int)(t:Tb)(hn:n<1000)(h:tbOK t)(hm:0≤m∧m≤1000):RawC Tryz.prog 218 [.ref 1000 g 0,.int .i64 m] (sg (ckS g n t)) (SR (fun t' v=>v= .int .i64 (if 9<t.cens+m then 8 else 0)∧{t with cens:=t.cens+m }=t') (ckS g n)):=by
 have hc:=h.c;by_cases h9:9<t.cens+m
 · rw[if_pos h9];refine wk ir218 Tryz.func218 ?_;unfold ir218
   repeat' (first|refine aR ?_|(refine w_ckSC rfl rfl rfl rfl ?_)|refine aX ?_|with_reducible intro _|refine aP ?_ ?_)
   all_goals first|(exfalso;omega)|exact⟨_,⟨rfl,rfl⟩,rfl,trivial⟩
 · rw[if_neg h9];refine wk ir218 Tryz.func218 ?_;unfold ir218
   repeat' (first|refine aR ?_|(refine w_ckSC rfl rfl rfl rfl ?_)|refine aX ?_|with_reducible intro _|refine aP ?_ ?_)
   all_goals first|(exfalso;omega)|exact⟨_,⟨rfl,rfl⟩,rfl,trivial⟩
theorem inB_ex{n a b:Int}(h:inB n a b=true):a≤n∧n≤b:=inB_t.1 h
theorem cktrial_c(g n:Nat)(d:Dl)(t:Tb)(hn:n≤6)(h:tbOK t):RawC Tryz.prog 202 [.ref 1000 g 0,dlA d] (sg (ckS g n t)) (SR (fun t' v=>v= .int .i64 (trialE n d t)∧(trialE n d t=0→{t with tried:=t.tried.set d.wood.toNat true }=t')) (ckS g n)):=by
 have hw:=ckwood_c g n d t (by omega);have hr:=h.r;have hb4:=h.b;unfold trialE;cases hb:inB d.wood 0 (n-1) with
 | false=>
   rw[hb] at hw;simp only[Bool.false_eq_true,if_false] at hw ⊢;refine wk ir202 Tryz.func202 ?_;unfold ir202
   repeat' (first|refine aR ?_|((with_reducible refine aC ?_);first|(refine ACall.ck hw rfl rfl rfl ?_;rintro _ _ ⟨rfl,rfl⟩))|refine aX ?_|with_reducible intro _|refine aP ?_ ?_)
   exact⟨t,⟨rfl,fun h=>by cases h⟩,rfl,trivial⟩
 | true=>
   rw[hb] at hw;obtain⟨w1,w2⟩:=inB_ex hb;have hlt:d.wood.toNat<6:=by omega
   have e2:3+d.wood.toNat*1=3+d.wood.toNat:=by omega
   simp only[if_true] at hw ⊢;cases ht:t.tried.getD d.wood.toNat false with
   | true=>
     simp only[if_true];refine wk ir202 Tryz.func202 ?_;unfold ir202
     repeat' (first|refine aR ?_|(refine w_ckLT rfl e2 rfl hr hlt ?_;rw[ht])|((with_reducible refine aC ?_);first|(refine ACall.ck hw rfl rfl rfl ?_;rintro _ _ ⟨rfl,rfl⟩))|refine aX ?_|with_reducible intro _|refine aP ?_ ?_)
     all_goals first|(exfalso;omega)|exact⟨t,⟨rfl,fun h=>by cases h⟩,rfl,trivial⟩
   | false=>
     simp only[Bool.false_eq_true,if_false];refine wk ir202 Tryz.func202 ?_;unfold ir202
     repeat' (first|refine aR ?_|(first|(refine w_ckLT rfl e2 rfl hr hlt ?_;rw[ht])|refine w_ckST rfl e2 rfl rfl hr hb4 hlt ?_)|((with_reducible refine aC ?_);first|(refine ACall.ck hw rfl rfl rfl ?_;rintro _ _ ⟨rfl,rfl⟩))|refine aX ?_|with_reducible intro _|refine aP ?_ ?_)
     all_goals first|(exfalso;omega)|exact⟨_,⟨rfl,fun _=>rfl⟩,rfl,trivial⟩
theorem bag_bd{t:Tb}(h:tbOK t){b:Nat}(hb:b<4):0≤t.bags.getD b 0∧t.bags.getD b 0≤12:=h.at (b:=(b:Int)) hb
theorem ckmix_c(g n:Nat)(d:Dl)(t:Tb)(hn:n≤6)(h:tbOK t):RawC Tryz.prog 203 [.ref 1000 g 0,dlA d] (sg (ckS g n t)) (SR (fun t' v=>v= .int .i64 (mixE n d t)∧(mixE n d t=0→{t with mixed:=t.mixed+d.count,bags:=setI t.bags d.bag (atI t.bags d.bag+d.count) }=t')) (ckS g n)):=by
 have hw:=ckwood_c g n d t (by omega);have hr:=h.r;have hb4:=h.b;have hm:=h.m;have hi1:=gin_c d.bag 0 3;have hi2:=gin_c d.count 1 12;unfold mixE;cases hb:inB d.bag 0 3 with
 | false=>
   rw[hb] at hi1;simp only[Bool.false_eq_true,if_false];refine wk ir203 Tryz.func203 ?_;unfold ir203
   repeat' (first|refine aR ?_|((with_reducible refine aC ?_);first|refine aV hi1 ?_)|refine aX ?_|with_reducible intro _|refine aP ?_ ?_)
   exact⟨t,⟨rfl,fun h=>by cases h⟩,rfl,trivial⟩
 | true=>
 rw[hb] at hi1;obtain⟨b1,b2⟩:=inB_ex hb;simp only[if_true];cases hwd:inB d.wood 0 (n-1) with
 | false=>
   rw[hwd] at hw;simp only[Bool.false_eq_true,if_false] at hw ⊢;refine wk ir203 Tryz.func203 ?_;unfold ir203
   repeat' (first|refine aR ?_|((with_reducible refine aC ?_);first|refine aV hi1 ?_|(refine ACall.ck hw rfl rfl rfl ?_;rintro _ _ ⟨rfl,rfl⟩))|refine aX ?_|with_reducible intro _|refine aP ?_ ?_)
   exact⟨t,⟨rfl,fun h=>by cases h⟩,rfl,trivial⟩
 | true=>
 rw[hwd] at hw;simp only[if_true] at hw ⊢;cases hct:inB d.count 1 12 with
 | false=>
   rw[hct] at hi2;simp only[Bool.false_eq_true,if_false];refine wk ir203 Tryz.func203 ?_;unfold ir203
   repeat' (first|refine aR ?_|((with_reducible refine aC ?_);first|refine aV hi1 ?_|refine aV hi2 ?_|(refine ACall.ck hw rfl rfl rfl ?_;rintro _ _ ⟨rfl,rfl⟩))|refine aX ?_|with_reducible intro _|refine aP ?_ ?_)
   all_goals first|(exfalso;omega)|exact⟨t,⟨rfl,fun h=>by cases h⟩,rfl,trivial⟩
 | true=>
 rw[hct] at hi2;simp only[if_true];obtain⟨c1,c2⟩:=inB_ex hct;have hbd:=bag_bd h (b:=d.bag.toNat) (by omega);have e9:9+d.bag.toNat*1=9+d.bag.toNat:=by omega
 by_cases h12:12<t.mixed+d.count
 · rw[if_pos h12];refine wk ir203 Tryz.func203 ?_;unfold ir203
   repeat' (first|refine aR ?_|(first|refine w_ckSN rfl rfl rfl rfl ?_)|((with_reducible refine aC ?_);first|refine aV hi1 ?_|refine aV hi2 ?_|(refine ACall.ck hw rfl rfl rfl ?_;rintro _ _ ⟨rfl,rfl⟩))|refine aX ?_|with_reducible intro _|refine aP ?_ ?_)
   all_goals first|(exfalso;omega)|exact⟨_,⟨rfl,fun h=>by cases h⟩,rfl,trivial⟩
 · rw[if_neg h12];refine wk ir203 Tryz.func203 ?_;unfold ir203
   repeat' (first|refine aR ?_|(first|refine w_ckSN rfl rfl rfl rfl ?_|refine w_ckLB (b:=t.bags.getD d.bag.toNat 0) rfl e9 rfl hr hb4 (by omega) rfl ?_|refine w_ckSB rfl e9 rfl rfl hr hb4 (by omega) ?_)|((with_reducible refine aC ?_);first|refine aV hi1 ?_|refine aV hi2 ?_|(refine ACall.ck hw rfl rfl rfl ?_;rintro _ _ ⟨rfl,rfl⟩))|refine aX ?_|with_reducible intro _|refine aP ?_ ?_)
   all_goals first|(exfalso;omega)|exact⟨_,⟨rfl,fun _=>rfl⟩,rfl,trivial⟩
theorem ckaside_c(g n:Nat)(d:Dl)(t:Tb)(hn:n≤6)(h:tbOK t):RawC Tryz.prog 205 [.ref 1000 g 0,dlA d] (sg (ckS g n t)) (SR (fun t' v=>v= .int .i64 (asideE d t)∧(asideE d t=0→{t with bags:=setI t.bags d.bag (atI t.bags d.bag-d.count) }=t')) (ckS g n)):=by
 have hr:=h.r;have hb4:=h.b;have hi1:=gin_c d.bag 0 3;have hi2:=gin_c d.count 1 12;unfold asideE;cases hb:inB d.bag 0 3 with
 | false=>
   rw[hb] at hi1;simp only[Bool.false_eq_true,false_and,if_false];refine wk ir205 Tryz.func205 ?_;unfold ir205
   repeat' (first|refine aR ?_|((with_reducible refine aC ?_);first|refine aV hi1 ?_)|refine aX ?_|with_reducible intro _|refine aP ?_ ?_)
   exact⟨t,⟨rfl,fun h=>by cases h⟩,rfl,trivial⟩
 | true=>
 rw[hb] at hi1;obtain⟨b1,b2⟩:=inB_ex hb;cases hct:inB d.count 1 12 with
 | false=>
   rw[hct] at hi2;simp only[Bool.false_eq_true,and_false,if_false];refine wk ir205 Tryz.func205 ?_;unfold ir205
   repeat' (first|refine aR ?_|((with_reducible refine aC ?_);first|refine aV hi1 ?_|refine aV hi2 ?_)|refine aX ?_|with_reducible intro _|refine aP ?_ ?_)
   all_goals first|(exfalso;omega)|exact⟨t,⟨rfl,fun h=>by cases h⟩,rfl,trivial⟩
 | true=>
 rw[hct] at hi2;simp only[and_self,if_true];obtain⟨c1,c2⟩:=inB_ex hct;have hbd:=bag_bd h (b:=d.bag.toNat) (by omega);have e9:9+d.bag.toNat*1=9+d.bag.toNat:=by omega
 have hat:atI t.bags d.bag=t.bags.getD d.bag.toNat 0:=rfl;by_cases h12:atI t.bags d.bag<d.count
 · rw[if_pos h12];refine wk ir205 Tryz.func205 ?_;unfold ir205
   repeat' (first|refine aR ?_|(first|refine w_ckLB (b:=t.bags.getD d.bag.toNat 0) rfl e9 rfl hr hb4 (by omega) rfl ?_)|((with_reducible refine aC ?_);first|refine aV hi1 ?_|refine aV hi2 ?_)|refine aX ?_|with_reducible intro _|refine aP ?_ ?_)
   all_goals first|(exfalso;omega)|exact⟨_,⟨rfl,fun h=>by cases h⟩,rfl,trivial⟩
 · rw[if_neg h12];refine wk ir205 Tryz.func205 ?_;unfold ir205
   repeat' (first|refine aR ?_|(first|refine w_ckLB (b:=t.bags.getD d.bag.toNat 0) rfl e9 rfl hr hb4 (by omega) rfl ?_|refine w_ckSB rfl e9 rfl rfl hr hb4 (by omega) ?_)|((with_reducible refine aC ?_);first|refine aV hi1 ?_|refine aV hi2 ?_)|refine aX ?_|with_reducible intro _|refine aP ?_ ?_)
   all_goals first|(exfalso;omega)|exact⟨_,⟨rfl,fun _=>rfl⟩,rfl,trivial⟩
theorem ckpass_c(g n:Nat)(d:Dl)(t:Tb)(hn:n≤6)(h:tbOK t):RawC Tryz.prog 206 [.ref 1000 g 0,dlA d] (sg (ckS g n t)) (SR (fun t' v=>v= .int .i64 (passE d t)∧(passE d t=0→{t with bags:=setI t.bags d.bag (atI t.bags d.bag-d.count),cens:=t.cens+d.count }=t')) (ckS g n)):=by
 have ha:=ckaside_c g n d t hn h;unfold passE;by_cases h0:asideE d t=0
 case neg=>
  rw[if_neg h0];generalize asideE d t=A at*;refine wk ir206 Tryz.func206 ?_;unfold ir206
  repeat' (first|refine aR ?_|with_reducible refine zI fun y hy=>?_|((with_reducible refine aC ?_);first|(refine ACall.ck ha rfl rfl rfl ?_;rintro _ t1 ⟨rfl,_⟩))|refine aX ?_|with_reducible intro _|with_reducible refine zJ ?_ fun y hy=>?_|refine aP ?_ ?_)
  all_goals first|(exfalso;omega)|exact⟨t1,⟨rfl,fun h=>absurd h h0⟩,rfl,trivial⟩
 have hct:inB d.count 1 12=true∧inB d.bag 0 3=true∧ ¬atI t.bags d.bag<d.count:=by
  unfold asideE at h0;split at h0
  · rename_i h1;split at h0
    · cases h0
    · rename_i h2;exact⟨h1.2,h1.1,h2⟩
  · cases h0
 obtain⟨c1,c2⟩:=inB_ex hct.1;obtain⟨b1,b2⟩:=inB_ex hct.2.1;have hbd:=bag_bd h (b:=d.bag.toNat) (by omega);have hat:atI t.bags d.bag=t.bags.getD d.bag.toNat 0:=rfl;rw[if_pos h0];rw[h0] at ha;have ht1:tbOK {t with bags:=setI t.bags d.bag (atI t.bags d.bag-d.count) }:=h.set (by omega) (by have:=hct.2.2;omega) h.m h.c (by have:=h.s;omega);have hm:=ckmore_c g n d.count _ (by omega) ht1 (by omega);refine wk ir206 Tryz.func206 ?_;unfold ir206
 repeat' (first|refine aR ?_|with_reducible refine zI fun y hy=>?_|((with_reducible refine aC ?_);first|(refine ACall.ck ha rfl rfl rfl ?_;rintro _ t1 ⟨rfl,ht⟩;obtain rfl:=ht rfl)|(refine ACall.ck hm rfl rfl rfl ?_;rintro _ t2 ⟨rfl,rfl⟩))|refine aX ?_|with_reducible intro _|with_reducible refine zJ ?_ fun y hy=>?_|refine aP ?_ ?_)
 all_goals first|(exfalso;omega)|exact⟨_,⟨rfl,fun _=>rfl⟩,rfl,trivial⟩
theorem ckplace_c(g n:Nat)(d:Dl)(t:Tb)(hn:n≤6)(h:tbOK t):RawC Tryz.prog 207 [.ref 1000 g 0,dlA d] (sg (ckS g n t)) (SR (fun t' v=>v= .int .i64 (placeE n d t)∧(placeE n d t=0→{t with cens:=t.cens+1 }=t')) (ckS g n)):=by
 have hw:=ckwood_c g n d t (by omega);unfold placeE;cases hb:inB d.wood 0 (n-1) with
 | false=>
   rw[hb] at hw;simp only[Bool.false_eq_true,if_false] at hw ⊢;refine wk ir207 Tryz.func207 ?_;unfold ir207
   repeat' (first|refine aR ?_|((with_reducible refine aC ?_);first|(refine ACall.ck hw rfl rfl rfl ?_;rintro _ _ ⟨rfl,rfl⟩))|refine aX ?_|with_reducible intro _|refine aP ?_ ?_)
   exact⟨t,⟨rfl,fun h=>by cases h⟩,rfl,trivial⟩
 | true=>
   rw[hb] at hw;simp only[if_true] at hw ⊢;have hm:=ckmore_c g n 1 t (by omega) h (by omega);refine wk ir207 Tryz.func207 ?_;unfold ir207
   repeat' (first|refine aR ?_|((with_reducible refine aC ?_);first|(refine ACall.ck hw rfl rfl rfl ?_;rintro _ _ ⟨rfl,rfl⟩)|(refine ACall.ck hm rfl rfl rfl ?_;rintro _ t2 ⟨rfl,rfl⟩))|refine aX ?_|with_reducible intro _|refine aP ?_ ?_)
   all_goals first|(exfalso;omega)|exact⟨_,⟨rfl,fun _=>rfl⟩,rfl,trivial⟩
theorem ckpour_c(g n:Nat)(d:Dl)(t:Tb)(hn:n≤6)(h:tbOK t):RawC Tryz.prog 204 [.ref 1000 g 0,dlA d] (sg (ckS g n t)) (SR (fun t' v=>v= .int .i64 (pourE d)∧(pourE d=0→{t with bags:=setI (setI t.bags d.other (atI t.bags d.other+atI t.bags d.bag)) d.bag 0 }=t')) (ckS g n)):=by
 have hr:=h.r;have hb4:=h.b;have hi1:=gin_c d.bag 0 3;have hi2:=gin_c d.other 0 3;unfold pourE;cases hb:inB d.bag 0 3 with
 | false=>
   rw[hb] at hi1;simp only[Bool.false_eq_true,false_and,if_false];refine wk ir204 Tryz.func204 ?_;unfold ir204
   repeat' (first|refine aR ?_|((with_reducible refine aC ?_);first|refine aV hi1 ?_)|refine aX ?_|with_reducible intro _|refine aP ?_ ?_)
   exact⟨t,⟨rfl,fun h=>by cases h⟩,rfl,trivial⟩
 | true=>
 rw[hb] at hi1;obtain⟨b1,b2⟩:=inB_ex hb;cases hct:inB d.other 0 3 with
 | false=>
   rw[hct] at hi2;simp only[Bool.false_eq_true,and_false,if_false];refine wk ir204 Tryz.func204 ?_;unfold ir204
   repeat' (first|refine aR ?_|((with_reducible refine aC ?_);first|refine aV hi1 ?_|refine aV hi2 ?_)|refine aX ?_|with_reducible intro _|refine aP ?_ ?_)
   all_goals first|(exfalso;omega)|exact⟨t,⟨rfl,fun h=>by cases h⟩,rfl,trivial⟩
 | true=>
 rw[hct] at hi2;simp only[and_self,if_true];obtain⟨c1,c2⟩:=inB_ex hct;have hbd:=bag_bd h (b:=d.bag.toNat) (by omega);have hod:=bag_bd h (b:=d.other.toNat) (by omega);have e9:9+d.bag.toNat*1=9+d.bag.toNat:=by omega
 have e8:9+d.other.toNat*1=9+d.other.toNat:=by omega
 by_cases h12:d.bag=d.other
 · rw[if_pos h12];refine wk ir204 Tryz.func204 ?_;unfold ir204
   repeat' (first|refine aR ?_|((with_reducible refine aC ?_);first|refine aV hi1 ?_|refine aV hi2 ?_)|refine aX ?_|with_reducible intro _|refine aP ?_ ?_)
   all_goals first|(exfalso;omega)|exact⟨_,⟨rfl,fun h=>by cases h⟩,rfl,trivial⟩
 · rw[if_neg h12];refine wk ir204 Tryz.func204 ?_;unfold ir204
   repeat' (first|refine aR ?_|(first|refine w_ckLB (b:=t.bags.getD d.bag.toNat 0) rfl e9 rfl hr hb4 (by omega) rfl ?_|refine w_ckLB (b:=t.bags.getD d.other.toNat 0) rfl e8 rfl hr hb4 (by omega) rfl ?_|refine w_ckSB rfl e8 rfl rfl hr hb4 (by omega) ?_|refine w_ckSB rfl e9 rfl rfl hr (by show (List.set _ _ _).length=4;rw[List.length_set];exact hb4) (by omega) ?_)|((with_reducible refine aC ?_);first|refine aV hi1 ?_|refine aV hi2 ?_)|refine aX ?_|with_reducible intro _|refine aP ?_ ?_)
   all_goals first|(exfalso;omega)|exact⟨_,⟨rfl,fun _=>rfl⟩,rfl,trivial⟩
theorem tb0_ok:tbOK tb0:=⟨rfl,rfl,by decide,by decide,(by decide),by decide⟩
theorem aside_0{d:Dl}{t:Tb}(h0:asideE d t=0):inB d.count 1 12=true∧inB d.bag 0 3=true∧ ¬atI t.bags d.bag<d.count:=by
 unfold asideE at h0;split at h0
 · rename_i h1;split at h0
   · cases h0
   · rename_i h2;exact⟨h1.2,h1.1,h2⟩
 · cases h0
theorem dealT_ok{n:Nat}{d:Dl}{t:Tb}(hk:inB d.kind 1 6=true)(h:tbOK t)(h0:dealE n d t=0):tbOK (dealT d t):=by
 obtain⟨k1,k2⟩:=inB_ex hk;have hm:=h.m;have hs:=h.s;have hc:=h.c;unfold dealE at h0;unfold dealT;by_cases e1:d.kind=1
 · rw[if_pos e1];exact⟨h.b,by show (List.set _ _ _).length=6;rw[List.length_set];exact h.r,h.m,h.c,h.nn,h.s⟩
 rw[if_neg e1] at h0 ⊢;by_cases e2:d.kind=2
 · rw[if_pos e2] at h0 ⊢;unfold mixE at h0;split at h0
   · rename_i h1;split at h0
     · split at h0
       · rename_i h3;split at h0
         · cases h0
         · obtain⟨b1,b2⟩:=inB_ex h1;obtain⟨c1,c2⟩:=inB_ex h3;have:=h.at (b:=d.bag) (by omega);exact h.set (by omega) (by omega) (by omega) h.c (by omega)
       · cases h0
     · cases h0
   · cases h0
 rw[if_neg e2] at h0 ⊢;by_cases e3:d.kind=3
 · rw[if_pos e3] at h0 ⊢;unfold pourE at h0;split at h0
   · rename_i h1;split at h0
     · cases h0
     · rename_i h2;obtain⟨b1,b2⟩:=inB_ex h1.1;obtain⟨c1,c2⟩:=inB_ex h1.2;have p1:=h.at (b:=d.bag) (by omega);have p2:=h.at (b:=d.other) (by omega);have hl:=h.b;have q1:=sum_setI t.bags d.other.toNat (atI t.bags d.other+atI t.bags d.bag) (by omega);have q2:=sum_setI (t.bags.set d.other.toNat (atI t.bags d.other+atI t.bags d.bag)) d.bag.toNat 0 (by rw[List.length_set];omega);have q3:(t.bags.set d.other.toNat (atI t.bags d.other+atI t.bags d.bag)).getD d.bag.toNat 0=t.bags.getD d.bag.toNat 0:=by rw[List.getD_eq_getElem?_getD,List.getElem?_set_ne (by omega),←List.getD_eq_getElem?_getD]
       refine⟨by show (List.set (List.set _ _ _) _ _).length=4;rw[List.length_set,List.length_set];exact h.b,h.r,h.m,h.c,fun x hx=>?_,?_⟩
       · rcases mem_setI hx with hx|rfl
         · rcases mem_setI hx with hx|rfl
           · exact h.nn x hx
           · omega
         · omega
       · show ((t.bags.set d.other.toNat (atI t.bags d.other+atI t.bags d.bag)).set d.bag.toNat 0).sum≤t.mixed
         rw[q2,q3,q1];have r1:atI t.bags d.other=t.bags.getD d.other.toNat 0:=rfl;have r2:atI t.bags d.bag=t.bags.getD d.bag.toNat 0:=rfl;omega
   · cases h0
 rw[if_neg e3] at h0 ⊢;by_cases e4:d.kind=4
 · rw[if_pos e4] at h0 ⊢;obtain⟨a1,a2,a3⟩:=aside_0 h0;obtain⟨b1,b2⟩:=inB_ex a1;obtain⟨c1,c2⟩:=inB_ex a2;have:=h.at (b:=d.bag) (by omega);exact h.set (by omega) (by omega) h.m h.c (by omega)
 rw[if_neg e4] at h0 ⊢;by_cases e5:d.kind=5
 · rw[if_pos e5] at h0 ⊢;unfold passE at h0;split at h0
   · rename_i h1;split at h0
     · cases h0
     · obtain⟨a1,a2,a3⟩:=aside_0 h1;obtain⟨b1,b2⟩:=inB_ex a1;obtain⟨c1,c2⟩:=inB_ex a2;have:=h.at (b:=d.bag) (by omega);exact h.set (by omega) (by omega) h.m (by omega) (by omega)
   · contradiction
 rw[if_neg e5] at h0 ⊢;unfold placeE at h0;split at h0
 · split at h0
   · cases h0
   · exact⟨h.b,h.r,h.m,by show 0≤t.cens+1∧t.cens+1≤9;omega,h.nn,h.s⟩
 · cases h0
abbrev Wt:=List (List Int×Int)
def sumW:Wt→(List Int→Int)→Int
 | [],_=>0
 | x::r,V=>x.2*V x.1+sumW r V
def addW:Wt→List Int→Int→Wt
 | [],B,n=>[(B,n)]
 | (C,m)::r,B,n=>if B=C then (C,m+n)::r else (C,m)::addW r B n
theorem sumW_add(V:List Int→Int)(B:List Int)(n:Int):∀W:Wt,sumW (addW W B n) V=sumW W V+n*V B
 | []=>by simp[addW,sumW]
 | (C,m)::r=>by
   rw[addW];by_cases h:B=C
   · subst h;rw[if_pos rfl];simp only[sumW];rw[Int.add_mul];omega
   · rw[if_neg h];simp only[sumW];rw[sumW_add V B n r];omega
theorem sumW_app(V:List Int→Int):∀W U:Wt,sumW (W++U) V=sumW W V+sumW U V
 | [],U=>by simp[sumW]
 | x::r,U=>by rw[List.cons_append,sumW,sumW,sumW_app V r U];omega
theorem sumW_erase(V:List Int→Int):∀{W:Wt} {j:Nat} {a:List Int×Int},W[j]?=some a→sumW W V=a.2*V a.1+sumW (W.eraseIdx j) V
 | [],j,a,h=>by simp at h
 | x::r,0,a,h=>by
   obtain rfl:x=a:=by simpa using h
   rfl
 | x::r,j+1,a,h=>by have ih:=sumW_erase V (W:=r) (j:=j) (a:=a) (by simpa using h);rw[List.eraseIdx_cons_succ,sumW,sumW,ih];omega
def bgOK(B:List Int):Prop:=B.length=24∧ ∀v∈B,0≤v
structure WtOK (W:Wt):Prop where
 nd:(W.map (·.1)).Nodup
 pos:∀x∈W,0<x.2
 ok:∀x∈W,bgOK x.1
theorem addW_keys(B:List Int)(n:Int):∀(W:Wt) (C:List Int),C∈(addW W B n).map (·.1)↔C∈W.map (·.1)∨C=B
 | [],C=>by simp[addW]
 | (D,m)::r,C=>by
   rw[addW];by_cases h:B=D
   · subst h;rw[if_pos rfl];simp only[List.map_cons,List.mem_cons]
     constructor
     · exact .inl
     · rintro (h|rfl)
       · exact h
       · exact .inl rfl
   · rw[if_neg h];simp only[List.map_cons,List.mem_cons,addW_keys B n r C]
     constructor
     · rintro (h | h | h)
       · exact .inl (.inl h)
       · exact .inl (.inr h)
       · exact .inr h
     · rintro ((h | h) | h)
       · exact .inl h
       · exact .inr (.inl h)
       · exact .inr (.inr h)
theorem addW_nd(B:List Int)(n:Int):∀W:Wt,(W.map (·.1)).Nodup→((addW W B n).map (·.1)).Nodup
 | [],_=>by simp[addW]
 | (D,m)::r,h=>by
   rw[addW];by_cases e:B=D
   · subst e;rw[if_pos rfl];exact h
   · rw[if_neg e];obtain⟨h1,h2⟩:=List.nodup_cons.1 h;refine List.nodup_cons.2 ⟨fun hm=>?_,addW_nd B n r h2⟩;rcases (addW_keys B n r D).1 hm with hm | hm
     · exact h1 hm
     · exact e hm.symm
theorem addW_mem{B:List Int}{n:Int}:∀{W:Wt} {x:List Int×Int},x∈addW W B n→x∈W∨(x.1=B∧(x.2=n∨ ∃m,(B,m)∈W∧x.2=m+n))
 | [],x,h=>by
   obtain rfl:x=(B,n):=by simpa[addW] using h
   exact .inr ⟨rfl,.inl rfl⟩
 | (D,m)::r,x,h=>by
   rw[addW] at h;by_cases e:B=D
   · subst e;rw[if_pos rfl] at h;rcases List.mem_cons.1 h with rfl | h
     · exact .inr ⟨rfl,.inr ⟨m,by simp,rfl⟩⟩
     · exact .inl (by simp[h])
   · rw[if_neg e] at h;rcases List.mem_cons.1 h with rfl | h
     · exact .inl (by simp)
     · rcases addW_mem h with h | ⟨h1,h2 | ⟨k,h3,h4⟩⟩
       · exact .inl (by simp[h])
       · exact .inr ⟨h1,.inl h2⟩
       · exact .inr ⟨h1,.inr ⟨k,by simp[h3],h4⟩⟩
theorem WtOK.nil:WtOK []:=⟨List.nodup_nil,(fun x h=>by cases h),fun x h=>by cases h⟩
theorem WtOK.add{W:Wt}(h:WtOK W){B:List Int}{n:Int}(hn:0<n)(hB:bgOK B):WtOK (addW W B n):=by
 refine⟨addW_nd B n W h.nd,fun x hx=>?_,fun x hx=>?_⟩
 · rcases addW_mem hx with hx | ⟨_,h2 | ⟨m,h3,h4⟩⟩
   · exact h.pos x hx
   · omega
   · have:=h.pos _ h3;dsimp only at this;omega
 · rcases addW_mem hx with hx | ⟨h1,_⟩
   · exact h.ok x hx
   · rw[h1];exact hB
theorem sumW_nn{V:List Int→Int}:∀{W:Wt},(∀x∈W,0<x.2)→(∀x∈W,0≤V x.1)→0≤sumW W V
 | [],_,_=>Int.le_refl _
 | x::r,h1,h2=>by have a:=sumW_nn (W:=r) (V:=V) (fun y hy=>h1 y (by simp[hy])) (fun y hy=>h2 y (by simp[hy]));have b:=Int.mul_nonneg (Int.le_of_lt (h1 x (by simp))) (h2 x (by simp));rw[sumW];omega
theorem sumW_le{V U:List Int→Int}:∀{W:Wt},(∀x∈W,0<x.2)→(∀x∈W,V x.1≤U x.1)→sumW W V≤sumW W U
 | [],_,_=>Int.le_refl _
 | x::r,h1,h2=>by have a:=sumW_le (W:=r) (V:=V) (U:=U) (fun y hy=>h1 y (by simp[hy])) (fun y hy=>h2 y (by simp[hy]));have b:=Int.mul_le_mul_of_nonneg_left (h2 x (by simp)) (Int.le_of_lt (h1 x (by simp)));rw[sumW,sumW];omega
theorem sumW_congr{V U:List Int→Int}:∀{W:Wt},(∀x∈W,V x.1=U x.1)→sumW W V=sumW W U
 | [],_=>rfl
 | x::r,h=>by rw[sumW,sumW,h x (by simp),sumW_congr fun y hy=>h y (by simp[hy])]
theorem sumW_mem{V:List Int→Int}:∀{W:Wt},(∀x∈W,0<x.2)→(∀x∈W,0≤V x.1)→ ∀x∈W,x.2*V x.1≤sumW W V
 | y::r,h1,h2,x,hx=>by
   have a:=sumW_nn (W:=r) (V:=V) (fun z hz=>h1 z (by simp[hz])) (fun z hz=>h2 z (by simp[hz]));have b:=Int.mul_nonneg (Int.le_of_lt (h1 y (by simp))) (h2 y (by simp));rw[sumW];rcases List.mem_cons.1 hx with rfl | hx
   · omega
   · have:=sumW_mem (W:=r) (V:=V) (fun z hz=>h1 z (by simp[hz])) (fun z hz=>h2 z (by simp[hz])) x hx;omega
theorem sumW_nil{W:Wt}(h:∀x∈W,0<x.2):W=[]↔sumW W (fun _=>1)=0:=by
 constructor
 · rintro rfl;rfl
 · intro h0;cases W with
   | nil=>rfl
   | cons x r=>
     have:=sumW_mem (V:=fun _=>1) h (fun _ _=>by decide) x (by simp);have:=h x (by simp);try dsimp only at*
     omega
abbrev bgV(B:List Int):AV:= .agg (B.map (AV.int .i64))
abbrev bgK:KK:= .flat (List.replicate 24 .i)
theorem eqAg_ints:∀(xs ys:List Int),xs.length=ys.length→eqAg (List.replicate xs.length .i) (xs.map (AV.int .i64)) (ys.map (AV.int .i64))=some (decide (xs=ys))
 | [],[],_=>rfl
 | x::xs,y::ys,h=>by
   have ih:=eqAg_ints xs ys (by simpa using h);show (match eqAg (List.replicate xs.length .i) (xs.map (AV.int .i64)) (ys.map (AV.int .i64)) with
    | some r=>some (decide (x=y) && r)
    | none=>none)=_
   rw[ih];by_cases e:x=y<;>by_cases e2:xs=ys<;>simp[e,e2]
 | [],_::_,h=>by simp at h
 | _::_,[],h=>by simp at h
def ir219:IFn:= ⟨49,[(4,some (24,true))],(sO [oo 2 (.box 24 0),oo 3 (.box 5 1),oo 4 (.new [z0,z0,z0,z0,z0,z0,z0,z0,z0,z0,z0,z0,z0,z0,z0,z0,z0,z0,z0,z0,z0,z0,z0,z0])] (.seq (sO [oF 7 0 3,oL 8 7] (.blk 0 (sO [oB 10 .eql 8 (kI 2),oM 9 10] (.cnd 9 (.ops [oF 11 1 3,oL 12 11,oF 13 3 3,oL 14 13,oo 15 (.ixAr 4 6 2 12),oo 16 (.ixAr 6 1 15 14),oL 17 16,oF 18 4 3,oL 19 18,oB 20 .add 17 19,oo 21 (.ixAr 4 6 2 12),oo 22 (.ixAr 6 1 21 14),oS 1 22 20]) (sO [oB 24 .eql 8 (kI 3),oM 23 24] (.cnd 23 (.seq (sO [oF 25 1 3,oL 26 25,oo 27 (.ixAr 4 6 2 26),oo 28 (.ld 6 true 27),oM 29 (kI 0)] (.blk 1 (.loop (sO [oB 30 .lss 29 (kI 6)] (.seq (.cnd 30 .skip (.exit 1)) (.seq (.blk 2 (sO [oM 31 29,oo 32 (.ixV 6 1 false 28 29),oM 5 31,oM 6 32] (.ops [oF 33 2 3,oL 34 33,oM 35 5,oo 36 (.ixAr 4 6 2 34),oo 37 (.ixAr 6 1 36 35),oL 38 37,oM 39 6,oB 40 .add 38 39,oo 41 (.ixAr 4 6 2 34),oo 42 (.ixAr 6 1 41 35),oS 1 42 40]))) (.ops [oB 43 .add 29 (kI 1),oM 29 43]))))))) (.ops [oF 44 1 3,oL 45 44,oo 46 (.bld [z0,z0,z0,z0,z0,z0] []),oo 47 (.ixAr 4 6 2 45),oS 6 47 46])) .skip)))))) (sO [oo 48 (.ld 24 true 2),oS 24 4 48] .ret)))⟩
def ir208:IFn:= ⟨14,[(2,none),(3,none)],(sO [oo 1 (.box 5 0),oM 2 (kI 0),oM 3 (kB false)] (.seq (sO [oF 4 0 1,oL 5 4] (.blk 0 (.seq (sO [oB 7 .eql 5 (kI 4),oM 6 7] (.cnd 6 .skip (.ops [oB 8 .eql 5 (kI 5),oM 6 8]))) (.cnd 6 (sO [oF 9 4 1,oL 10 9,oF 11 0 1,oL 12 11,oB 13 .eql 12 (kI 5),oM 2 10,oM 3 13] .ret) .skip)))) (sO [oM 2 (kI 0),oM 3 (kB false)] .ret)))⟩
abbrev nI(l:List Int):List AV:=l.map (AV.int .i64)
theorem nI_scal(l:List Int):(nI l).all AV.scal=true:=by rw[List.all_eq_true];intro x hx;obtain⟨y,_,rfl⟩:=List.mem_map.1 hx;rfl
theorem nI_get{l:List Int}{p:Nat}(h:p<l.length):(nI l)[p]?=some (.int .i64 (l.getD p 0)):=by rw[List.getElem?_map,List.getElem?_eq_getElem h,List.getD_eq_getElem?_getD,List.getElem?_eq_getElem h];rfl
section
variable {P:Program} {K:(Nat→AV)→Sig→Prop} {e:Nat→AV} {σ:Sig} {x v:IOpd} {r:List IStep} {i g d n:Nat} {B:List Int}
theorem w_boxN(hv:v.ev e= .agg (nI B))(hn:B.length=n)(hk:∀g,stepsW P r K (upd e d (.ref d g 0)) (newS σ d g (nI B))):stepsW P (⟨some d,none,.box n v⟩::r) K e σ:=by
 refine w_det (p:=(nI B).length=n∧(nI B).all AV.scal=true) (v:=fun g=> .ref d g 0) (σ':=fun g=>newS σ d g (nI B)) (fun g=>?_) ⟨by rw[List.length_map,hn],nI_scal B⟩ hk;show (match cellsO n (v.ev e) with
  | some (p,c)=>some (p,AV.ref d g 0,newS σ d g c)
  | none=>none)=_
 rw[hv];rfl
theorem w_ldN(hx:x.ev e= .ref i g 0)(hσ:σ i=(g,.row (nI B)))(hn:B.length=n)(hk:stepsW P r K (upd e d (.agg (nI B))) σ):stepsW P (⟨some d,none,.ld n true x⟩::r) K e σ:=by
 refine w_val (p:=g=g∧0+n≤(nI B).length) (v:= .agg (((nI B).drop 0).take n)) ?_ ⟨rfl,by rw[List.length_map];omega⟩ ?_
 · show ldO n true σ (x.ev e)=_
   rw[hx];simp only[ldO,hσ,partO]
 · rw[List.drop_zero,List.take_of_length_le (by rw[List.length_map];omega)];exact hk
theorem w_ldSub{off:Nat}(hx:x.ev e= .ref i g off)(hσ:σ i=(g,.row (nI B)))(hn:off+n≤B.length)(hk:stepsW P r K (upd e d (.agg (nI ((B.drop off).take n)))) σ):stepsW P (⟨some d,none,.ld n true x⟩::r) K e σ:=by
 refine w_val (p:=g=g∧off+n≤(nI B).length) (v:= .agg (((nI B).drop off).take n)) ?_ ⟨rfl,by rw[List.length_map];omega⟩ ?_
 · show ldO n true σ (x.ev e)=_
   rw[hx];simp only[ldO,hσ,partO]
 · rw[←List.map_drop,←List.map_take];exact hk
theorem w_stN{c:List AV}(hx:x.ev e= .ref i g 0)(hσ:σ i=(g,.row c))(hc:c.length=n)(hv:v.ev e= .agg (nI B))(hn:B.length=n)(hk:stepsW P r K e (upd σ i (g,.row (nI B)))):stepsW P (⟨none,none,.st n x v⟩::r) K e σ:=by
 refine w_det0 (p:=g=g∧((nI B).length=n∧(nI B).all AV.scal=true)∧0+n≤c.length) (v:= .junk) (σ':=upd σ i (g,.row (setL c 0 (nI B)))) (fun _=>?_) ⟨rfl,⟨by rw[List.length_map,hn],nI_scal B⟩,by omega⟩ ?_
 · show stO n σ (v.ev e) (x.ev e)=_
   rw[hx,hv];simp only[stO,cellsO,hσ]
 · have e1:setL c 0 (nI B)=nI B:=by
    apply List.ext_getElem?;intro j;rw[setL_get _ _ _ _ (by rw[List.length_map];omega)];split
    · rw[Nat.sub_zero]
    · rename_i h;rw[List.length_map] at h;rw[List.getElem?_eq_none (by omega),List.getElem?_eq_none (by rw[List.length_map];omega)]
   rw[e1];exact hk
theorem w_ldEl{off p:Nat}(hx:x.ev e= .ref i g off)(ho:off=p)(hσ:σ i=(g,.row (nI B)))(hp:p<B.length)(hk:stepsW P r K (upd e d (.int .i64 (B.getD p 0))) σ):stepsW P (⟨some d,none,.ld 1 false x⟩::r) K e σ:=
 w_ldAt hx hσ (by rw[ho];exact nI_get hp) rfl hk
theorem w_stEl{off p:Nat}{a:Int}(hx:x.ev e= .ref i g off)(ho:off=p)(hσ:σ i=(g,.row (nI B)))(hp:p<B.length)(hv:v.ev e= .int .i64 a)(hk:stepsW P r K e (upd σ i (g,.row (nI (B.set p a))))):stepsW P (⟨none,none,.st 1 x v⟩::r) K e σ:=by refine w_stAt (a:= .int .i64 a) hx hσ (by rw[hv];rfl) (by rw[List.length_map,ho];exact hp) ?_;rw[ho,←List.map_set];exact hk
theorem w_ixEl{m:Nat}{k:Nat}{y:IOpd}(hx:x.ev e= .agg (nI B))(hy:y.ev e= .int .i64 (k:Int))(hk0:k<B.length)(hm:B.length=m)(hk:stepsW P r K (upd e d (.int .i64 (B.getD k 0))) σ):stepsW P (⟨some d,none,.ixV m 1 false x y⟩::r) K e σ:=by
 refine w_val (p:=(0≤(k:Int)∧(k:Int)<m)∧True) (v:= .int .i64 (B.getD k 0)) ?_ ⟨⟨by omega,by omega⟩,trivial⟩ hk;show (match ixVO m 1 false (x.ev e) (y.ev e) with
  | some (p,q,v)=>some (p∧q,v)
  | none=>none)=_
 rw[hx,hy];have h1:(nI B)[(k:Int).toNat*1]?=some (.int .i64 (B.getD k 0)):=by rw[Int.toNat_natCast,Nat.mul_one];exact nI_get hk0
 simp only[ixVO,partO,h1,forceA,liftV,okV]
end
end Go.Abs
namespace Go.Abs
open Go.Proofs
theorem draws_c(d:Dl):FV 208 [dlA d] (.tup [.int .i64 (if drawsB d=true then d.count else 0),.bool (drawsB d && decide (d.kind=5))]):=by
 by_cases h4:d.kind=4
 · have e1:drawsB d=true:=by simp[drawsB,h4]
   rw[e1];refine wk ir208 Tryz.func208 ?_;unfold ir208
   repeat' (first|refine aR ?_|refine aX ?_|with_reducible intro _|refine aP ?_ ?_)
   all_goals first|(exfalso;omega)|(have h5:decide (d.kind=5)=false:=decide_eq_false (by omega);simp only[if_true,Bool.true_and];rfl)
 · by_cases h5:d.kind=5
   · have e1:drawsB d=true:=by simp[drawsB,h5]
     rw[e1];refine wk ir208 Tryz.func208 ?_;unfold ir208
     repeat' (first|refine aR ?_|refine aX ?_|with_reducible intro _|refine aP ?_ ?_)
     all_goals first|(exfalso;omega)|(simp only[if_true,Bool.true_and];rfl)
   · have e1:drawsB d=false:=by simp[drawsB,h4,h5]
     rw[e1];refine wk ir208 Tryz.func208 ?_;unfold ir208
     repeat' (first|refine aR ?_|refine aX ?_|with_reducible intro _|refine aP ?_ ?_)
     all_goals exact aZ
structure bgIn (B:List Int):Prop where
 l:B.length=24
 b:∀v∈B,0≤v∧v≤1000000
theorem bgIn.at{B:List Int}(h:bgIn B)(p:Nat):0≤B.getD p 0∧B.getD p 0≤1000000:=by
 rw[List.getD_eq_getElem?_getD];cases hp:B[p]? with
 | none=>exact⟨Int.le_refl _,by decide⟩
 | some v=>exact h.b v (List.mem_of_getElem? hp)
theorem take_sum{R:List Int}{k:Nat}(hk:k<R.length):(R.take (k+1)).sum=(R.take k).sum+R.getD k 0:=by rw[List.take_add_one,List.sum_append,List.getD_eq_getElem?_getD,List.getElem?_eq_getElem hk];simp
theorem sum_bd{M:Int}:∀{l:List Int},(∀x∈l,0≤x∧x≤M)→0≤l.sum∧l.sum≤l.length*M
 | [],_=>by simp
 | a::r,h=>by have ih:=sum_bd (l:=r) (M:=M) fun x hx=>h x (by simp[hx]);have ha:=h a (by simp);rw[List.sum_cons,List.length_cons,Int.natCast_succ,Int.add_mul];omega
def pourK(B:List Int)(i k w:Nat):List Int:=(List.range 24).map fun y=>if y/6=k∧y%6<w then B.getD y 0+B.getD (i*6+y%6) 0 else B.getD y 0
theorem pourK_len(B:List Int)(i k w:Nat):(pourK B i k w).length=24:=by simp[pourK]
theorem map24_get{f:Nat→Int}{y:Nat}(h:y<24):((List.range 24).map f).getD y 0=f y:=by rw[List.getD_eq_getElem?_getD,List.getElem?_map,List.getElem?_range h];rfl
theorem ext24{A B:List Int}(hA:A.length=24)(hB:B.length=24)(h:∀y,y<24→A.getD y 0=B.getD y 0):A=B:=by
 apply List.ext_getElem (by omega);intro y h1 h2;have:=h y (by omega)
 rwa [List.getD_eq_getElem?_getD,List.getD_eq_getElem?_getD,List.getElem?_eq_getElem h1,List.getElem?_eq_getElem h2] at this
theorem pourK_zero{B:List Int}(h:B.length=24)(i k:Nat):pourK B i k 0=B:=ext24 (pourK_len ..) h fun y hy=>by unfold pourK;rw[map24_get hy,if_neg (by omega)]
theorem set_getD{l:List Int}{p y:Nat}{v:Int}(hp:p<l.length):(l.set p v).getD y 0=if y=p then v else l.getD y 0:=by
 rw[List.getD_eq_getElem?_getD,List.getElem?_set,List.getD_eq_getElem?_getD];by_cases e:p=y
 · subst e;rw[if_pos rfl,if_pos hp,if_pos rfl];rfl
 · rw[if_neg e,if_neg (fun h=>e h.symm)]
theorem pourK_succ{B:List Int}{i k w:Nat}(hk:k<4)(hw:w<6):(pourK B i k w).set (k*6+w) ((pourK B i k w).getD (k*6+w) 0+B.getD (i*6+w) 0)=pourK B i k (w+1):=ext24 (by rw[List.length_set,pourK_len]) (pourK_len ..) fun y hy=>by
 rw[set_getD (by rw[pourK_len];omega)];unfold pourK;rw[map24_get hy,map24_get hy,map24_get (show k*6+w<24 by omega)];by_cases e:y=k*6+w
 · subst e;have h1:(k*6+w)/6=k:=by omega
   have h2:(k*6+w)%6=w:=by omega
   rw[if_pos rfl,h1,h2,if_neg (by omega),if_pos ⟨rfl,by omega⟩]
 · rw[if_neg e];by_cases h:y/6=k∧y%6<w
   · rw[if_pos h,if_pos ⟨h.1,by omega⟩]
   · rw[if_neg h,if_neg (by omega)]
theorem setL_getD{B Z:List Int}{off y:Nat}(h:off+Z.length≤B.length):(setL B off Z).getD y 0=if off≤y∧y<off+Z.length then Z.getD (y-off) 0 else B.getD y 0:=by rw[List.getD_eq_getElem?_getD,setL_get _ _ _ _ h];split<;>rw[List.getD_eq_getElem?_getD]
theorem setL_len(B Z:List Int)(off:Nat):(setL B off Z).length=B.length:=length_setL _ _ _
theorem setL_nI(B Z:List Int)(off:Nat)(h:off+Z.length≤B.length):setL (nI B) off (nI Z)=nI (setL B off Z):=by apply List.ext_getElem?;intro j;have e1:(nI (setL B off Z))[j]?=((setL B off Z)[j]?).map (AV.int .i64):=List.getElem?_map;rw[setL_get _ _ _ _ (by simpa using h),e1,setL_get _ _ _ _ h,List.length_map];split<;>rw[List.getElem?_map]
theorem w_stSub{P:Program}{K:(Nat→AV)→Sig→Prop}{e:Nat→AV}{σ:Sig}{x v:IOpd}{r:List IStep}{i g off n:Nat}{B:List Int}(Z:List Int)(hx:x.ev e= .ref i g off)(hσ:σ i=(g,.row (nI B)))(hv:v.ev e= .agg (nI Z))(hn:Z.length=n)(ho:off+n≤B.length)(hk:stepsW P r K e (upd σ i (g,.row (nI (setL B off Z))))):stepsW P (⟨none,none,.st n x v⟩::r) K e σ:=by
 refine w_det0 (p:=g=g∧((nI Z).length=n∧(nI Z).all AV.scal=true)∧off+n≤(nI B).length) (v:= .junk) (σ':=upd σ i (g,.row (setL (nI B) off (nI Z)))) (fun _=>?_) ⟨rfl,⟨by rw[List.length_map,hn],nI_scal Z⟩,by rw[List.length_map];omega⟩ ?_
 · show stO n σ (v.ev e) (x.ev e)=_
   rw[hx,hv];simp only[stO,cellsO,hσ]
 · rw[setL_nI _ _ _ (by omega)];exact hk
theorem pour_end{B:List Int}{i k:Int}(hi:0≤i∧i≤3)(hk:0≤k∧k≤3)(hne:i≠k):setL (pourK B i.toNat k.toNat 6) (0+i.toNat*6) [0,0,0,0,0,0]=bgPour B i k:=ext24 (by rw[setL_len,pourK_len]) (by simp[bgPour]) fun y hy=>by
 rw[setL_getD (by rw[pourK_len];show 0+i.toNat*6+6≤24;omega)];unfold pourK bgPour;rw[map24_get hy,map24_get hy];show (if 0+i.toNat*6≤y∧y<0+i.toNat*6+6 then _ else _)=_
 by_cases e:y/6=i.toNat
 · rw[if_pos (by omega),if_neg (by omega),if_pos e];obtain⟨j,hj⟩:∃j,y-(0+i.toNat*6)=j:=⟨_,rfl⟩;rw[hj];have:j=0∨j=1∨j=2∨j=3∨j=4∨j=5:=by omega
   rcases this with rfl|rfl|rfl|rfl|rfl|rfl<;>rfl
 · rw[if_neg (by omega)];by_cases h:y/6=k.toNat
   · rw[if_pos ⟨h,by omega⟩,if_pos h]
   · rw[if_neg (by omega),if_neg h,if_neg e]
theorem untagL_nI:∀l:List Int,untagL (nI l)=nI l
 | []=>rfl
 | a::l=>by
   show untag (AV.int .i64 a)::untagL (nI l)=_
   rw[untagL_nI l];rfl
theorem end_bg{X:List Int}{n:Nat}(h:X.length=n):untag (tupV [.agg (List.take n (List.drop 0 (nI X)))])=bgV X:=by
 rw[List.drop_zero,List.take_of_length_le (by rw[List.length_map];omega)];show AV.agg (untagL (nI X))=_
 rw[untagL_nI]
theorem mixed_c(d:Dl)(B:List Int)(h:bgIn B)(h2:d.kind=2→(0≤d.bag∧d.bag≤3)∧(0≤d.wood∧d.wood≤5)∧0≤d.count∧d.count≤1000000)(h3:d.kind=3→(0≤d.bag∧d.bag≤3)∧(0≤d.other∧d.other≤3)∧d.bag≠d.other):
  FV 219 [bgV B,dlA d] (bgV (mixedB d B)):=by
 have hl:=h.l;unfold mixedB;by_cases e2:d.kind=2
 · obtain⟨b1,b2,b3⟩:=h2 e2;rw[if_pos e2];have hp:=h.at (d.bag.toNat*6+d.wood.toNat);have ho:0+d.bag.toNat*6+d.wood.toNat*1=d.bag.toNat*6+d.wood.toNat:=by omega
   refine wk ir219 Tryz.func219 ?_;unfold ir219
   repeat' (first|refine aR ?_|(first|(refine w_boxN rfl hl ?_;intro g2)|refine w_ldEl rfl ho rfl (by omega) ?_|refine w_stEl rfl ho rfl (by omega) rfl ?_|refine w_ldN rfl rfl (by rw[List.length_set];exact hl) ?_|refine w_stN rfl rfl rfl rfl (by rw[List.length_set];exact hl) ?_)|with_reducible refine zI fun y hy=>?_|refine aX ?_|with_reducible intro _|with_reducible refine zJ ?_ fun y hy=>?_|refine aP ?_ ?_)
   all_goals first|(exfalso;omega)|skip
   exact end_bg (by rw[List.length_set];exact hl)
 rw[if_neg e2];by_cases e3:d.kind=3
 case neg=>
  rw[if_neg e3];refine wk ir219 Tryz.func219 ?_;unfold ir219
  repeat' (first|refine aR ?_|(first|(refine w_boxN rfl hl ?_;intro g2)|refine w_ldN rfl rfl hl ?_|refine w_stN rfl rfl rfl rfl hl ?_)|with_reducible refine zI fun y hy=>?_|refine aX ?_|with_reducible intro _|with_reducible refine zJ ?_ fun y hy=>?_|refine aP ?_ ?_)
  all_goals first|(exfalso;omega)|exact end_bg hl
 obtain⟨b1,b2,b3⟩:=h3 e3;rw[if_pos e3];have hsub:((B.drop (0+d.bag.toNat*6)).take 6).length=6:=by rw[List.length_take,List.length_drop];omega
 have hRg:∀w,w<6→((B.drop (0+d.bag.toNat*6)).take 6).getD w 0=B.getD (d.bag.toNat*6+w) 0:=fun w hw=>by rw[List.getD_eq_getElem?_getD,List.getElem?_take_of_lt hw,List.getElem?_drop,List.getD_eq_getElem?_getD,Nat.zero_add]
 refine wk ir219 Tryz.func219 ?_;unfold ir219
 repeat' (first|refine aR ?_|(first|(refine w_boxN rfl hl ?_;intro g2)|refine w_ldSub rfl rfl (by omega) ?_)|with_reducible refine zI fun y hy=>?_|refine aX ?_|with_reducible intro _|with_reducible refine zJ ?_ fun y hy=>?_|refine aP ?_ ?_)
 all_goals try (exfalso;omega)
 rename_i g3 g4;generalize (B.drop (0+d.bag.toNat*6)).take 6=R at*;refine w_loopK [2,3,4,28] [3,4] (fun w:Nat=>w≤6) (fun w=>6-w) (fun w=>[(29,.int .i64 w)]) (fun w=>[(2,(g2,.row (nI (pourK B d.bag.toNat d.other.toNat w))))]) 0 (Nat.zero_le _) ⟨rfl,trivial⟩ ⟨by rw[pourK_zero hl];rfl,trivial⟩ ?_;rintro w hw e σ;try dsimp only at hw ⊢
 have hpl:=pourK_len B d.bag.toNat d.other.toNat w;by_cases hw6:w=6
 · subst hw6
   repeat' (first|refine aR ?_|(first|refine w_stSub [0,0,0,0,0,0] rfl rfl rfl rfl (by omega) ?_|refine w_ldN rfl rfl (by rw[setL_len];exact hpl) ?_|refine w_stN rfl rfl rfl rfl (by rw[setL_len];exact hpl) ?_)|with_reducible refine zI fun y hy=>?_|refine aX ?_|with_reducible intro _|with_reducible refine zJ ?_ fun y hy=>?_|refine aP ?_ ?_)
   all_goals first|(exfalso;omega)|exact⟨⟨rfl,by rw[List.length_map,setL_len];omega⟩,trivial⟩|(rw[←pour_end b1 b2 b3];exact end_bg (by rw[setL_len];exact hpl))
 have ho:0+d.other.toNat*6+w*1=d.other.toNat*6+w:=by omega
 have hRw:=hRg w (by omega);have hbw:=h.at (d.bag.toNat*6+w);have hpw:0≤(pourK B d.bag.toNat d.other.toNat w).getD (d.other.toNat*6+w) 0∧(pourK B d.bag.toNat d.other.toNat w).getD (d.other.toNat*6+w) 0≤2000000:=by unfold pourK;rw[map24_get (by omega)];have q1:=h.at (d.other.toNat*6+w);have q2:=h.at (d.bag.toNat*6+(d.other.toNat*6+w)%6);split<;>omega
 have hps:=pourK_succ (B:=B) (i:=d.bag.toNat) (k:=d.other.toNat) (w:=w) (by omega) (by omega);generalize pourK B d.bag.toNat d.other.toNat w=PK at*;rw[←hRw] at hps hbw
 repeat' (first|refine aR ?_|(first|refine w_ixEl rfl rfl (by omega) hsub ?_|refine w_ldEl rfl ho rfl (by omega) ?_|refine w_stEl rfl ho rfl (by omega) rfl ?_)|with_reducible refine zI fun y hy=>?_|refine aX ?_|with_reducible intro _|with_reducible refine zJ ?_ fun y hy=>?_|refine aP ?_ ?_)
 exact q_loop (w+1) (by show w+1≤6;omega) (by show 6-(w+1)<6-w;omega) (slots_cons (by show AV.int .i64 _=AV.int .i64 _;refine int_eq ?_;simp) slots_nil) ⟨by rw[←hps];rfl,trivial⟩ aK aK
end Go.Abs
namespace Go.Abs
variable {P:Program}
theorem findI(a:Int):∀(l:List Int) (n:Nat),findA .i (.int .i64 a) (l.map (AV.int .i64)) n=some (if a∈l then some (n+l.idxOf a) else none)
 | [],n=>rfl
 | x::l,n=>by
   have hk:keyEq .i (.int .i64 a) (.int .i64 x)=some (decide (a=x)):=rfl;rw[List.map_cons,findA,hk];by_cases h:a=x
   · subst h;simp
   · rw[decide_eq_false h];simp only;rw[findI a l (n+1)];have hx:¬x=a:=fun e=>h e.symm;by_cases hm:a∈l
     · rw[if_pos hm,if_pos (by simp[hm]),List.idxOf_cons,show (x == a)=false by simp[hx]];simp only[cond_false];congr 2;omega
     · rw[if_neg hm,if_neg (by simp[h,hm])]
theorem w_nxtE{K:(Nat→AV)→Sig→Prop}{e:Nat→AV}{σ:Sig}{x:IOpd}{d:Nat}{r:List IStep}{i h:Nat}{cur vs:List AV}(hx:x.ev e= .itr i h)(hσ:σ i=(h,.row [.itv cur [] vs]))(hk:stepsW P r K (upd e d (.tup [.bool false])) σ):stepsW P (⟨some d,none,.nxt x⟩::r) K e σ:=by
 refine w_det (p:=h=h) (v:=fun _=> .tup [.bool false]) (σ':=fun _=>σ) (fun g=>?_) rfl fun _=>hk;show nxtO σ g (x.ev e)=_
 rw[hx];simp only[nxtO,hσ]
theorem w_nxtC{K:(Nat→AV)→Sig→Prop}{e:Nat→AV}{σ:Sig}{x:IOpd}{d:Nat}{r:List IStep}{α:Type}(f v:α→AV){l:List α}{i h:Nat}{cur:List AV}(hx:x.ev e= .itr i h)(hσ:σ i=(h,.row [.itv cur (l.map f) (l.map v)]))(hl:l≠[])(hk:∀j a,l[j]?=some a→stepsW P r K (upd e d (.tup [.bool true,f a,v a])) (upd σ i (h,.row [.itv [f a,v a] ((l.eraseIdx j).map f) ((l.eraseIdx j).map v)]))):stepsW P (⟨some d,none,.nxt x⟩::r) K e σ:=by
 have hpos:0<l.length:=by cases l<;>simp at hl ⊢
 have hj:∀g,g%l.length<l.length:=fun g=>Nat.mod_lt _ hpos;refine w_det (p:=h=h) (v:=fun g=> .tup [.bool true,f (l[g%l.length]'(hj g)),v (l[g%l.length]'(hj g))]) (σ':=fun g=>upd σ i (h,.row [.itv [f (l[g%l.length]'(hj g)),v (l[g%l.length]'(hj g))] ((l.eraseIdx (g%l.length)).map f) ((l.eraseIdx (g%l.length)).map v)])) (fun g=>?_) rfl fun g=>hk _ _ (List.getElem?_eq_getElem (hj g));show nxtO σ g (x.ev e)=_
 rw[hx];have hg:∀u:α→AV,(l.map u).getD (g%l.length) .junk=u (l[g%l.length]'(hj g)):=fun u=>by simp[List.getD_eq_getElem?_getD,hj g]
 cases hl':l.map f with
 | nil=>cases l<;>simp at hl hl'
 | cons a0 ar=> simp only[nxtO,hσ,hl'];rw[←hl',List.length_map,hg,hg,eraseIdx_map,eraseIdx_map]
end Go.Abs
namespace Go.Abs
open Go.Proofs
abbrev wK(W:Wt):List AV:=W.map fun x=>bgV x.1
abbrev wV(W:Wt):List AV:=W.map fun x=>AV.int .i64 x.2
def wget:Wt→List Int→Int
 | [],_=>0
 | (C,m)::r,B=>if B=C then m else wget r B
def whas:Wt→List Int→Bool
 | [],_=>false
 | (C,_)::r,B=>if B=C then true else whas r B
def widx:Wt→List Int→Nat
 | [],_=>0
 | (C,_)::r,B=>if B=C then 0 else widx r B+1
def wins:Wt→List Int→Wt
 | [],B=>[(B,0)]
 | (C,m)::r,B=>if B=C then (C,m)::r else (C,m)::wins r B
theorem find_w(B:List Int)(hB:B.length=24):∀(W:Wt) (n:Nat),(∀x∈W,x.1.length=24)→findA bgK (bgV B) (wK W) n=some (if whas W B=true then some (n+widx W B) else none)
 | [],n,_=>by
   have h:keyEq bgK (bgV B) (bgV B)=some (decide (B=B)):=by
    show eqAg (List.replicate 24 .i) _ _=_
    rw[←hB];exact eqAg_ints B B rfl
   show (match keyEq bgK (bgV B) (bgV B) with
    | some _=>some none
    | none=>none)=_
   rw[h];rfl
 | (C,m)::W,n,hl=>by
   have h:keyEq bgK (bgV B) (bgV C)=some (decide (B=C)):=by
    show eqAg (List.replicate 24 .i) _ _=_
    rw[←hB];exact eqAg_ints B C (by rw[hB,hl (C,m) (by simp)])
   show findA bgK (bgV B) (bgV C::wK W) n=_
   rw[findA,h];by_cases e:B=C
   · simp[e,whas,widx]
   · rw[decide_eq_false e];simp only;rw[find_w B hB W (n+1) fun y hy=>hl y (by simp[hy]),whas,widx,if_neg e,if_neg e];cases whas W B with
     | true=>simp only[if_true];congr 2;omega
     | false=>rfl
theorem wget_idx(B:List Int):∀W:Wt,whas W B=true→(wV W).getD (widx W B) .junk= .int .i64 (wget W B)
 | [],h=>by cases h
 | (C,m)::r,h=>by
   rw[widx,wget];by_cases e:B=C
   · rw[if_pos e,if_pos e];rfl
   · rw[whas,if_neg e] at h;rw[if_neg e,if_neg e];exact wget_idx B r h
theorem wget_not(B:List Int):∀W:Wt,whas W B=false→wget W B=0∧widx W B=W.length∧wins W B=W++[(B,0)]
 | [],_=>⟨rfl,rfl,rfl⟩
 | (C,m)::r,h=>by
   by_cases e:B=C
   · rw[whas,if_pos e] at h;cases h
   · rw[whas,if_neg e] at h;obtain⟨h1,h2,h3⟩:=wget_not B r h;rw[wget,widx,wins,if_neg e,if_neg e,if_neg e,h1,h2,h3];exact⟨rfl,rfl,rfl⟩
theorem wins_has(B:List Int):∀W:Wt,whas W B=true→wins W B=W
 | [],h=>by cases h
 | (C,m)::r,h=>by
   rw[wins];by_cases e:B=C
   · rw[if_pos e]
   · rw[whas,if_neg e] at h;rw[if_neg e,wins_has B r h]
theorem wget_wins(B:List Int):∀W:Wt,wget (wins W B) B=wget W B
 | []=>by simp[wins,wget]
 | (C,m)::r=>by
   rw[wins];by_cases e:B=C
   · rw[if_pos e]
   · rw[if_neg e,wget,if_neg e,wget_wins B r,wget,if_neg e]
theorem wins_len{B:List Int}(hB:B.length=24):∀{W:Wt},(∀x∈W,x.1.length=24)→ ∀x∈wins W B,x.1.length=24
 | [],_,x,hx=>by obtain rfl:x=(B,0):=by simpa[wins] using hx
                 exact hB
 | (C,m)::r,h,x,hx=>by
   rw[wins] at hx;split at hx
   · exact h x hx
   · rcases List.mem_cons.1 hx with rfl | hx
     · exact h _ (by simp)
     · exact wins_len hB (fun y hy=>h y (by simp[hy])) x hx
theorem wput_add(B:List Int)(n:Int):∀W:Wt,widx W B<(wins W B).length∧(wK (wins W B))=wK (addW W B n)∧(wV (wins W B)).set (widx W B) (.int .i64 (wget W B+n))=wV (addW W B n)
 | []=>by simp[wins,widx,addW,wget]
 | (C,m)::r=>by
   by_cases e:B=C
   · rw[wins,widx,addW,wget,if_pos e,if_pos e,if_pos e,if_pos e];exact⟨by simp,rfl,rfl⟩
   · obtain⟨h1,h2,h3⟩:=wput_add B n r;rw[wins,widx,addW,wget,if_neg e,if_neg e,if_neg e,if_neg e];refine⟨by simp;exact h1,?_,?_⟩
     · show bgV C::wK (wins r B)=bgV C::wK (addW r B n)
       rw[h2]
     · show AV.int .i64 m::(wV (wins r B)).set (widx r B) _=AV.int .i64 m::wV (addW r B n)
       rw[h3]
section
variable {P:Program} {K:(Nat→AV)→Sig→Prop} {e:Nat→AV} {σ:Sig} {m k:IOpd} {d:Nat} {r:List IStep} {i h:Nat} {W:Wt} {B:List Int}
theorem w_mlkW(hm:m.ev e= .map i h)(hσ:σ i=(h,.row [.mpv (wK W) (wV W)]))(hk:k.ev e=bgV B)(hB:B.length=24)(hW:∀x∈W,x.1.length=24)(hK:stepsW P r K (upd e d (.int .i64 (wget W B))) σ):stepsW P (⟨some d,none,.mlk (.flat [.i,.i,.i,.i,.i,.i,.i,.i,.i,.i,.i,.i,.i,.i,.i,.i,.i,.i,.i,.i,.i,.i,.i,.i]) (.int .i64 0) false m k⟩::r) K e σ:=by
 refine w_det (p:=h=h) (v:=fun _=> .int .i64 (wget W B)) (σ':=fun _=>σ) (fun _=>?_) rfl fun _=>hK;show mlkO bgK (.int .i64 0) false σ (k.ev e) (m.ev e)=_
 rw[hm,hk];simp only[mlkO,mapR,hσ];rw[find_w B hB W 0 hW];simp only;cases hh:whas W B with
 | true=>simp only[if_true,Nat.zero_add,lkV];rw[wget_idx _ _ hh]
 | false=>simp only[Bool.false_eq_true,if_false,lkV];rw[(wget_not _ _ hh).1]
theorem w_menW(hm:m.ev e= .map i h)(hσ:σ i=(h,.row [.mpv (wK W) (wV W)]))(hk:k.ev e=bgV B)(hB:B.length=24)(hW:∀x∈W,x.1.length=24)(hK:stepsW P r K (upd e d (.tup [.int .i64 (wget W B),.int .i64 (widx W B)])) (upd σ i (h,.row [.mpv (wK (wins W B)) (wV (wins W B))]))):stepsW P (⟨some d,none,.men (.flat [.i,.i,.i,.i,.i,.i,.i,.i,.i,.i,.i,.i,.i,.i,.i,.i,.i,.i,.i,.i,.i,.i,.i,.i]) (.int .i64 0) m k⟩::r) K e σ:=by
 refine w_det (p:=h=h) (v:=fun _=> .tup [.int .i64 (wget W B),.int .i64 (widx W B)]) (σ':=fun _=>upd σ i (h,.row [.mpv (wK (wins W B)) (wV (wins W B))])) (fun _=>?_) rfl fun _=>hK;show menO bgK (.int .i64 0) σ (k.ev e) (m.ev e)=_
 rw[hm,hk];simp only[menO,mapW,hσ];rw[find_w B hB W 0 hW];cases hh:whas W B with
 | true=>
   simp only[if_true,Nat.zero_add];rw[wget_idx _ _ hh,wins_has _ _ hh];have:upd σ i (h,.row [.mpv (wK W) (wV W)])=σ:=by
    funext j;rw[upd_eq];split
    · rename_i hj;subst hj;rw[hσ]
    · rfl
   rw[this]
 | false=>
   obtain⟨h1,h2,h3⟩:=wget_not _ _ hh;simp only[Bool.false_eq_true,if_false];rw[h1,h2,h3];have hst:stripL (nI B)=nI B:=by
    have:∀l:List Int,stripL (nI l)=nI l:=by
     intro l;induction l with
     | nil=>rfl
     | cons a r ih=>show AV.int .i64 a::stripL (nI r)=_;rw[ih];rfl
    exact this B
   simp[AV.norm,AV.strip,hst]
theorem w_mstW{s v:IOpd}{n:Int}(hm:m.ev e= .map i h)(hσ:σ i=(h,.row [.mpv (wK (wins W B)) (wV (wins W B))]))(hs:s.ev e= .int .i64 (widx W B))(hv:v.ev e= .int .i64 (wget W B+n))(hK:stepsW P r K e (upd σ i (h,.row [.mpv (wK (addW W B n)) (wV (addW W B n))]))):stepsW P (⟨none,none,.mst m s v⟩::r) K e σ:=by
 obtain⟨h1,h2,h3⟩:=wput_add B n W;refine w_det0 (p:=h=h∧0≤(widx W B:Int)∧(widx W B:Int)<(wK (wins W B)).length) (v:= .junk) (σ':=upd σ i (h,.row [.mpv (wK (wins W B)) ((wV (wins W B)).set (widx W B:Int).toNat (AV.int .i64 (wget W B+n)))])) (fun _=>?_) ⟨rfl,by omega,by simp;omega⟩ ?_
 · show mstO σ (s.ev e) (v.ev e) (m.ev e)=_
   rw[hm,hs,hv];simp only[mstO,mapW,hσ,forceA];rfl
 · rw[Int.toNat_natCast,h2,h3];exact hK
end
def ir211:IFn:= ⟨26,[(4,none)],(sO [oo 3 (.box 5 1),oo 4 (.mov (.k .nmp))] (sO [⟨(some 8),none,.mkm⟩,oM 5 8] (.seq (sO [oM 9 0,oo 10 (.rng 9)] (.blk 0 (.loop (sO [oo 11 (.nxt 10),oE 12 0 11] (.seq (.cnd 12 .skip (.exit 0)) (.blk 1 (sO [oo 13 (.ent 10),oE 14 0 13,oE 15 1 13,oo 6 (.new [z0,z0,z0,z0,z0,z0,z0,z0,z0,z0,z0,z0,z0,z0,z0,z0,z0,z0,z0,z0,z0,z0,z0,z0]),oS 24 6 14,oM 7 15] (sO [] (sO [oM 16 5,oo 17 (.ld 24 true 6),oo 18 (.ld 5 true 3),oM 21 7,oC 19 219 [17,18]] (.alt (.ops [oo 20 (.mlk (.flat [.i,.i,.i,.i,.i,.i,.i,.i,.i,.i,.i,.i,.i,.i,.i,.i,.i,.i,.i,.i,.i,.i,.i,.i]) z0 false 16 19),oB 22 .add 20 21,oo 23 (.men (.flat [.i,.i,.i,.i,.i,.i,.i,.i,.i,.i,.i,.i,.i,.i,.i,.i,.i,.i,.i,.i,.i,.i,.i,.i]) z0 16 19),oE 24 1 23,⟨none,none,(.mst 16 24 22)⟩]) (.ops [oo 23 (.men (.flat [.i,.i,.i,.i,.i,.i,.i,.i,.i,.i,.i,.i,.i,.i,.i,.i,.i,.i,.i,.i,.i,.i,.i,.i]) z0 16 19),oE 24 1 23,oo 20 (.mlk (.flat [.i,.i,.i,.i,.i,.i,.i,.i,.i,.i,.i,.i,.i,.i,.i,.i,.i,.i,.i,.i,.i,.i,.i,.i]) z0 false 16 19),oB 22 .add 20 21,⟨none,none,(.mst 16 24 22)⟩]))))))))))) (.seq (.seq (.frz 5) (.ops [oM 25 5,oM 4 25])) .ret))))⟩
def hint211(P:Program):Hint:={site:=[],nils:=[],frz:=[(25,5)],mve:=[],wr:=[] }
def ir209:IFn:= ⟨44,[(6,none)],(sO [oo 6 (.mov (.k .nmp))] (sO [⟨(some 11),none,.mkm⟩,oM 7 11] (.seq (sO [oM 12 0,oo 13 (.rng 12)] (.blk 0 (.loop (sO [oo 14 (.nxt 13),oE 15 0 14] (.seq (.cnd 15 .skip (.exit 0)) (.blk 1 (sO [oo 16 (.ent 13),oE 17 0 16,oE 18 1 16,oo 8 (.new [z0,z0,z0,z0,z0,z0,z0,z0,z0,z0,z0,z0,z0,z0,z0,z0,z0,z0,z0,z0,z0,z0,z0,z0]),oS 24 8 17,oM 9 18] (sO [oM 19 1,oM 20 2,oo 21 (.ixAr 4 6 8 19),oo 22 (.ixAr 6 1 21 20),oL 23 22,oM 10 23] (sO [oM 24 10,oB 25 .gtr 24 (kI 0)] (.cnd 25 (sO [oM 26 1,oM 27 2,oo 28 (.ixAr 4 6 8 26),oo 29 (.ixAr 6 1 28 27),oL 30 29,oB 31 .sub 30 (kI 1),oo 32 (.ixAr 4 6 8 26),oo 33 (.ixAr 6 1 32 27),oS 1 33 31] (sO [] (sO [oM 34 7,oo 35 (.ld 24 true 8),oM 37 9,oM 38 10,oB 39 .mul 37 38] (.alt (.ops [oo 36 (.mlk (.flat [.i,.i,.i,.i,.i,.i,.i,.i,.i,.i,.i,.i,.i,.i,.i,.i,.i,.i,.i,.i,.i,.i,.i,.i]) z0 false 34 35),oB 40 .add 36 39,oo 41 (.men (.flat [.i,.i,.i,.i,.i,.i,.i,.i,.i,.i,.i,.i,.i,.i,.i,.i,.i,.i,.i,.i,.i,.i,.i,.i]) z0 34 35),oE 42 1 41,⟨none,none,(.mst 34 42 40)⟩]) (.ops [oo 41 (.men (.flat [.i,.i,.i,.i,.i,.i,.i,.i,.i,.i,.i,.i,.i,.i,.i,.i,.i,.i,.i,.i,.i,.i,.i,.i]) z0 34 35),oE 42 1 41,oo 36 (.mlk (.flat [.i,.i,.i,.i,.i,.i,.i,.i,.i,.i,.i,.i,.i,.i,.i,.i,.i,.i,.i,.i,.i,.i,.i,.i]) z0 false 34 35),oB 40 .add 36 39,⟨none,none,(.mst 34 42 40)⟩]))))) .skip)))))))))) (.seq (.seq (.frz 7) (.ops [oM 43 7,oM 6 43])) .ret))))⟩
def hint209(P:Program):Hint:={site:=[],nils:=[],frz:=[(43,7)],mve:=[],wr:=[] }
def ir210:IFn:= ⟨35,[(6,none)],(sO [oo 6 (.mov (.k .nmp))] (sO [⟨(some 11),none,.mkm⟩,oM 7 11] (.seq (sO [oM 12 2,oM 13 (kI 0)] (.blk 0 (.loop (sO [oB 14 .lss 13 12] (.seq (.cnd 14 .skip (.exit 0)) (.seq (.blk 1 (sO [oM 15 13,oM 8 15] (sO [oM 16 0,oM 17 1,oM 18 8,oC 19 209 [16,17,18],oo 20 (.rng 19)] (.blk 2 (.loop (sO [oo 21 (.nxt 20),oE 22 0 21] (.seq (.cnd 22 .skip (.exit 2)) (.blk 3 (sO [oo 23 (.ent 20),oE 24 0 23,oE 25 1 23,oo 9 (.new [z0,z0,z0,z0,z0,z0,z0,z0,z0,z0,z0,z0,z0,z0,z0,z0,z0,z0,z0,z0,z0,z0,z0,z0]),oS 24 9 24,oM 10 25] (sO [] (sO [oM 26 7,oo 27 (.ld 24 true 9),oM 29 10] (.alt (.ops [oo 28 (.mlk (.flat [.i,.i,.i,.i,.i,.i,.i,.i,.i,.i,.i,.i,.i,.i,.i,.i,.i,.i,.i,.i,.i,.i,.i,.i]) z0 false 26 27),oB 30 .add 28 29,oo 31 (.men (.flat [.i,.i,.i,.i,.i,.i,.i,.i,.i,.i,.i,.i,.i,.i,.i,.i,.i,.i,.i,.i,.i,.i,.i,.i]) z0 26 27),oE 32 1 31,⟨none,none,(.mst 26 32 30)⟩]) (.ops [oo 31 (.men (.flat [.i,.i,.i,.i,.i,.i,.i,.i,.i,.i,.i,.i,.i,.i,.i,.i,.i,.i,.i,.i,.i,.i,.i,.i]) z0 26 27),oE 32 1 31,oo 28 (.mlk (.flat [.i,.i,.i,.i,.i,.i,.i,.i,.i,.i,.i,.i,.i,.i,.i,.i,.i,.i,.i,.i,.i,.i,.i,.i]) z0 false 26 27),oB 30 .add 28 29,⟨none,none,(.mst 26 32 30)⟩]))))))))))))) (.ops [oB 33 .add 13 (kI 1),oM 13 33]))))))) (.seq (.seq (.frz 7) (.ops [oM 34 7,oM 6 34])) .ret))))⟩
def hint210(P:Program):Hint:={site:=[],nils:=[],frz:=[(34,7)],mve:=[],wr:=[] }
def ir167:IFn:= ⟨16,[(2,none)],(sO [oM 2 (kI 0)] (sO [oM 3 (kI 0)] (.seq (sO [oM 6 0,oo 7 (.rng 6)] (.blk 0 (.loop (sO [oo 8 (.nxt 7),oE 9 0 8] (.seq (.cnd 9 .skip (.exit 0)) (.blk 1 (sO [oo 10 (.ent 7),oE 11 1 10,oM 5 11] (.ops [oM 12 3,oM 13 5,oB 14 .add 12 13,oM 3 14])))))))) (sO [oM 15 3,oM 2 15] .ret))))⟩
abbrev stV(W:Wt):AV:= .fmp (wK W) (wV W)
theorem wget_mem{B:List Int}:∀{W:Wt},whas W B=true→(B,wget W B)∈W
 | (C,m)::r,h=>by
   rw[whas] at h;rw[wget];by_cases e:B=C
   · rw[if_pos e,e];simp
   · rw[if_neg e] at h ⊢;exact List.mem_cons_of_mem _ (wget_mem h)
theorem wget_bd{W:Wt}(h:∀x∈W,0<x.2)(B:List Int):0≤wget W B∧wget W B≤sumW W (fun _=>1):=by
 have hn:=sumW_nn (W:=W) (V:=fun _=>1) h fun _ _=>by decide
 cases hh:whas W B with
 | false=>rw[(wget_not B W hh).1];exact⟨Int.le_refl _,hn⟩
 | true=> have hm:=wget_mem hh;have h1:=h _ hm;have h2:=sumW_mem (V:=fun _=>1) h (fun _ _=>by decide) _ hm;dsimp only at h1 h2;omega
structure StOut (W':Wt) (T:(List Int→Int)→Int) (I:List Int→Prop):Prop where
 nd:(W'.map (·.1)).Nodup
 pos:∀x∈W',0<x.2
 sum:∀V,sumW W' V=T V
 key:∀x∈W',I x.1
theorem mem_erase{α:Type}{l:List α}{j:Nat}{x:α}(h:x∈l.eraseIdx j):x∈l:=List.mem_of_mem_eraseIdx h
theorem addW_pos{W:Wt}{B:List Int}{n:Int}(h:∀x∈W,0<x.2)(hn:0<n):∀x∈addW W B n,0<x.2:=fun x hx=>by
 rcases addW_mem hx with hx | ⟨_,h2 | ⟨m,h3,h4⟩⟩
 · exact h x hx
 · omega
 · have:=h _ h3;dsimp only at this;omega
theorem addW_key{I:List Int→Prop}{W:Wt}{B:List Int}{n:Int}(h:∀x∈W,I x.1)(hB:I B):∀x∈addW W B n,I x.1:=fun x hx=>by
 rcases addW_mem hx with hx | ⟨h1,_⟩
 · exact h x hx
 · rw[h1];exact hB
theorem erase_fact{L:Wt}{j:Nat}{a:List Int×Int}(h:∀y∈L,0<y.2)(hj:L[j]?=some a):a∈L∧0<a.2∧a.2+sumW (L.eraseIdx j) (fun _=>1)=sumW L (fun _=>1)∧0≤sumW (L.eraseIdx j) (fun _=>1)∧(L.eraseIdx j).length<L.length:=by have hm:=List.mem_of_getElem? hj;have he:=sumW_erase (fun _=>1) hj;have hlt:=(List.getElem?_eq_some_iff.1 hj).1;refine⟨hm,h a hm,by rw[he];omega,sumW_nn (fun x hx=>h x (mem_erase hx)) fun _ _=>by decide,?_⟩;rw[List.length_eraseIdx,if_pos hlt];omega
theorem w_mlkV{P:Program}{K:(Nat→AV)→Sig→Prop}{e:Nat→AV}{σ:Sig}{m k:IOpd}{d:Nat}{r:List IStep}{i h:Nat}{W:Wt}{B:List Int}{n:Int}(hm:m.ev e= .map i h)(hσ:σ i=(h,.row [.mpv (wK W) (wV W)]))(hk:k.ev e=bgV B)(hB:B.length=24)(hW:∀x∈W,x.1.length=24)(hn:wget W B=n)(hK:stepsW P r K (upd e d (.int .i64 n)) σ):stepsW P (⟨some d,none,.mlk (.flat [.i,.i,.i,.i,.i,.i,.i,.i,.i,.i,.i,.i,.i,.i,.i,.i,.i,.i,.i,.i,.i,.i,.i,.i]) (.int .i64 0) false m k⟩::r) K e σ:=
 w_mlkW hm hσ hk hB hW (by rw[hn];exact hK)
theorem ways_c(W:Wt)(hp:∀x∈W,0<x.2)(hb:sumW W (fun _=>1)<2^60):FV 167 [stV W] (.int .i64 (sumW W (fun _=>1))):=by
 refine wk ir167 Tryz.func167 ?_;unfold ir167
 repeat' (first|refine aR ?_|with_reducible refine zI fun y hy=>?_|refine aX ?_|with_reducible intro _|with_reducible refine zJ ?_ fun y hy=>?_|refine aP ?_ ?_)
 rename_i g7;refine w_loopK [7] [] (fun x:Wt×List AV×Int=>(∀y∈x.1,0<y.2)∧0≤x.2.2∧x.2.2+sumW x.1 (fun _=>1)=sumW W (fun _=>1)) (fun x=>x.1.length) (fun x=>[(3,.int .i64 x.2.2)]) (fun x=>[(7,(g7,.row [.itv x.2.1 (wK x.1) (wV x.1)]))]) (W,[],0) ⟨hp,Int.le_refl _,by simp⟩ ⟨rfl,trivial⟩ ⟨rfl,trivial⟩ ?_;rintro⟨L,cur,s⟩ ⟨h1,h2,h3⟩ e σ;dsimp only at h1 h2 h3 ⊢;by_cases hL:L=[]
 · subst hL;have hs:s=sumW W (fun _=>1):=by rw[←h3];simp[sumW]
   repeat' (first|refine aR ?_|(refine w_nxtE rfl rfl ?_)|with_reducible refine zI fun y hy=>?_|refine aX ?_|with_reducible intro _|with_reducible refine zJ ?_ fun y hy=>?_|refine aP ?_ ?_)
   all_goals first|(exfalso;omega)|exact int_eq hs
 have hnn:=sumW_nn (W:=L) (V:=fun _=>1) h1 fun _ _=>by decide
 repeat' (first|refine aR ?_|(refine w_nxtC (fun x:List Int×Int=>bgV x.1) (fun x:List Int×Int=>AV.int .i64 x.2) rfl rfl hL ?_;intro j a hja;obtain⟨f0,f1,f2,f3,f4⟩:=erase_fact h1 hja)|with_reducible refine zI fun y hy=>?_|refine aX ?_|with_reducible intro _|with_reducible refine zJ ?_ fun y hy=>?_|refine aP ?_ ?_)
 exact q_loop (L.eraseIdx j,_,s+a.2) ⟨fun y hy=>h1 y (mem_erase hy),by show 0≤s+a.2;omega,by show s+a.2+sumW (L.eraseIdx j) _=_;omega⟩ f4 (slots_cons rfl slots_nil) ⟨rfl,trivial⟩ aK aK
theorem w_frzMK{P:Program}{Q:Post}{e:Nat→AV}{σ:Sig}{t i g:Nat}{ks vs:List AV}(F:List (Nat×AV))(S:List (Nat×(Nat×Res)))(h1:e t= .map i g)(hσ:σ i=(g,.row [.mpv ks vs]))(hF:slots F (frzME i g ks vs e))(hS:slots S (frzMS i g ks vs σ))(hk:∀e' σ',Q .nor (updL F e') (updL S σ')):awp P (.frz (.t t)) Q e σ:=by
 show frzW (e t) e σ (Q .nor)
 rw[h1];show (match σ i with|(g',.row [.mpv ks vs])=>g=g'∧Q .nor (frzME i g ks vs e) (frzMS i g ks vs σ) | _=>False)
 rw[hσ];refine⟨rfl,?_⟩;have:=hk (frzME i g ks vs e) (frzMS i g ks vs σ);rw[updL_slots hF,updL_slots hS] at this;exact this
theorem renL_nI(ρ:List (Nat×Nat)):∀l:List Int,renL ρ (nI l)=nI l
 | []=>rfl
 | a::l=>by
   show ren ρ (AV.int .i64 a)::renL ρ (nI l)=_
   rw[renL_nI ρ l];rfl
theorem ren_bg(ρ:List (Nat×Nat))(B:List Int):ren ρ (bgV B)=bgV B:=by
 show AV.agg (renL ρ (nI B))=_
 rw[renL_nI]
theorem ACall.bgbg{P:Program}{f:Nat}{B C:List Int}{a1 a2:AV}{σ:Sig}{d:Nat}{Q:AV→Sig→Prop}(h:Fn0 P f [bgV B,a1] (fun a=>a=bgV C))(ha:a1=ren [] a2)(hQ:Q (bgV C) σ):ACall P f [bgV B,a2] σ d Q:=
 ACall.val h (by show[bgV B,a1]=[ren [] (bgV B),ren [] a2];rw[ren_bg,ha]) (ren_bg [] C) hQ
theorem frzME_at{i g t:Nat}{ks vs:List AV}{e:Nat→AV}(h:e t= .map i g):frzME i g ks vs e t= .fmp ks vs:=by simp[frzME,h,frzM]
theorem dealt_c(d:Dl)(W:Wt)(hp:∀x∈W,0<x.2)(hk:∀x∈W,bgIn x.1)(hb:sumW W (fun _=>1)<2^60)(h2:d.kind=2→(0≤d.bag∧d.bag≤3)∧(0≤d.wood∧d.wood≤5)∧0≤d.count∧d.count≤1000000)(h3:d.kind=3→(0≤d.bag∧d.bag≤3)∧(0≤d.other∧d.other≤3)∧d.bag≠d.other):
  Fn0 Tryz.prog 211 [stV W,dlA d] (fun v=>∃W',v=stV W'∧StOut W' (fun V=>sumW W fun B=>V (mixedB d B)) (fun B=>∃y∈W,B=mixedB d y.1)):=by
 have hmix:=fun x (hx:x∈W)=>mixed_c d x.1 (hk x hx) h2 h3;have hml:∀x∈W,(mixedB d x.1).length=24:=fun x hx=>by
  unfold mixedB;split
  · unfold bgAdd;rw[List.length_set];exact (hk x hx).l
  · split
    · simp[bgPour]
    · exact (hk x hx).l
 refine RawC.walk (H:=hint211 Tryz.prog) ir211 Tryz.func211 rfl (by kernel_rfl) rfl ?_;unfold ir211
 repeat' (first|refine aR ?_|with_reducible refine zI fun y hy=>?_|refine aX ?_|with_reducible intro _|with_reducible refine zJ ?_ fun y hy=>?_|refine aP ?_ ?_)
 rename_i g3 g8 g10
 refine w_loopK [3,5,10] [3] (fun x:Wt×Wt×List AV=>(∀y∈x.1,y∈W)∧(x.2.1.map (·.1)).Nodup∧(∀y∈x.2.1,0<y.2)∧(∀y∈x.2.1,∃z∈W,y.1=mixedB d z.1)∧ ∀V,sumW x.2.1 V+sumW x.1 (fun B=>V (mixedB d B))=sumW W fun B=>V (mixedB d B)) (fun x=>x.1.length) (fun _=>[])
  (fun x=>[(8,(g8,.row [.mpv (wK x.2.1) (wV x.2.1)])),(10,(g10,.row [.itv x.2.2 (wK x.1) (wV x.1)]))]) (W,[],[]) ⟨fun y hy=>hy,List.nodup_nil,(fun y hy=>by cases hy),(fun y hy=>by cases hy),fun V=>by simp[sumW]⟩ trivial ⟨rfl,rfl,trivial⟩ ?_
 rintro⟨L,O,cur⟩ ⟨q1,q2,q3,q4,q5⟩ e σ;dsimp only at q1 q2 q3 q4 q5 ⊢;have q1p:∀y∈L,0<y.2:=fun y hy=>hp y (q1 y hy);by_cases hL:L=[]
 · subst hL
   repeat' (first|refine aR ?_|(refine w_nxtE rfl rfl ?_)|with_reducible refine zI fun y hy=>?_|refine aX ?_|with_reducible intro _|with_reducible refine zJ ?_ fun y hy=>?_|refine aP ?_ ?_)
   refine w_frzMK [(5,stV O)] [] rfl rfl ⟨frzME_at rfl,trivial⟩ trivial ?_;intro e2 σ2
   repeat' (first|refine aR ?_|with_reducible refine zI fun y hy=>?_|refine aX ?_|with_reducible intro _|with_reducible refine zJ ?_ fun y hy=>?_|refine aP ?_ ?_)
   exact⟨O,rfl,q2,q3,fun V=>by rw[←q5 V];simp[sumW],q4⟩
 have hO24:∀x∈O,x.1.length=24:=fun x hx=>by obtain⟨z,hz,e⟩:=q4 x hx;rw[e];exact hml z hz
 have h1:sumW O (fun _=>1)+sumW L (fun _=>1)=sumW W fun _=>1:=q5 fun _=>1;have hLn:=sumW_nn (W:=L) (V:=fun _=>1) q1p fun _ _=>by decide
 have hOn:=sumW_nn (W:=O) (V:=fun _=>1) q3 fun _ _=>by decide
 repeat' (first|refine aR ?_|(first|(refine w_nxtC (fun x:List Int×Int=>bgV x.1) (fun x:List Int×Int=>AV.int .i64 x.2) rfl rfl hL ?_;intro j a hja;obtain⟨f0,f1,f2,f3,f4⟩:=erase_fact q1p hja;have fl:=(hk a (q1 a f0)).l;have fg:=wget_bd q3 (mixedB d a.1);have fm:=hml a (q1 a f0))|refine w_stN rfl rfl rfl rfl fl ?_|refine w_ldN rfl rfl fl ?_|refine w_mlkW rfl rfl rfl fm hO24 ?_|refine w_mlkV rfl rfl rfl fm (wins_len fm hO24) (wget_wins _ _) ?_|refine w_menW rfl rfl rfl fm hO24 ?_|refine w_mstW rfl rfl rfl rfl ?_)|with_reducible refine zI fun y hy=>?_|((with_reducible refine aC ?_);first|(refine ACall.bgbg (hmix a (q1 a f0)) rfl ?_))|refine aX ?_|with_reducible intro _|with_reducible refine zJ ?_ fun y hy=>?_|refine aP ?_ ?_)
 all_goals exact q_loop (L.eraseIdx j,addW O (mixedB d a.1) a.2,_) ⟨fun y hy=>q1 y (mem_erase hy),addW_nd _ _ _ q2,addW_pos q3 f1,addW_key (I:=fun B=>∃z∈W,B=mixedB d z.1) q4 ⟨a,q1 a f0,rfl⟩,fun V=>by
  have e1:=sumW_erase (fun B=>V (mixedB d B)) hja;have e2:=q5 V;show sumW (addW O (mixedB d a.1) a.2) V+sumW (L.eraseIdx j) _=_
  rw[sumW_add];omega⟩    f4 trivial ⟨rfl,rfl,trivial⟩ aK aK
theorem drawB_len{B:List Int}(h:B.length=24)(i j:Int):(drawB B i j).length=24:=by unfold drawB bgAdd;rw[List.length_set];exact h
theorem w_stElC{P:Program}{K:(Nat→AV)→Sig→Prop}{e:Nat→AV}{σ:Sig}{x v:IOpd}{r:List IStep}{i g:Nat}{B C:List Int}{off p:Nat}{a:Int}(hx:x.ev e= .ref i g off)(ho:off=p)(hσ:σ i=(g,.row (nI B)))(hp:p<B.length)(hv:v.ev e= .int .i64 a)(hC:B.set p a=C)(hk:stepsW P r K e (upd σ i (g,.row (nI C)))):stepsW P (⟨none,none,.st 1 x v⟩::r) K e σ:=
 w_stEl hx ho hσ hp hv (by rw[hC];exact hk)
theorem drawB_set(B:List Int)(i j:Int):B.set (i.toNat*6+j.toNat) (B.getD (i.toNat*6+j.toNat) 0-1)=drawB B i j:=rfl
theorem drawn_c(bag wood:Int)(W:Wt)(hb:0≤bag∧bag≤3)(hw:0≤wood∧wood≤5)(hp:∀x∈W,0<x.2)(hk:∀x∈W,bgIn x.1)(hs1:sumW W (fun _=>1)<2^60)(hs:sumW W (fun B=>bgAt B bag wood)<2^60):
  Fn0 Tryz.prog 209 [stV W,.int .i64 bag,.int .i64 wood] (fun v=>∃W',v=stV W'∧StOut W' (fun V=>sumW W fun B=>bgAt B bag wood*V (drawB B bag wood)) (fun B=>∃y∈W,0<bgAt y.1 bag wood∧B=drawB y.1 bag wood)):=by
 have hnn:∀x∈W,0≤bgAt x.1 bag wood:=fun x hx=>((hk x hx).at _).1;have ho:0+bag.toNat*6+wood.toNat*1=bag.toNat*6+wood.toNat:=by omega
 refine RawC.walk (H:=hint209 Tryz.prog) ir209 Tryz.func209 rfl (by kernel_rfl) rfl ?_;unfold ir209
 repeat' (first|refine aR ?_|with_reducible refine zI fun y hy=>?_|refine aX ?_|with_reducible intro _|with_reducible refine zJ ?_ fun y hy=>?_|refine aP ?_ ?_)
 rename_i g11 g13
 refine w_loopK [1,2,7,13] [] (fun x:Wt×Wt×List AV=>(∀y∈x.1,y∈W)∧(x.2.1.map (·.1)).Nodup∧(∀y∈x.2.1,0<y.2)∧(∀y∈x.2.1,∃z∈W,0<bgAt z.1 bag wood∧y.1=drawB z.1 bag wood)∧ ∀V,sumW x.2.1 V+sumW x.1 (fun B=>bgAt B bag wood*V (drawB B bag wood))=sumW W fun B=>bgAt B bag wood*V (drawB B bag wood)) (fun x=>x.1.length) (fun _=>[])
  (fun x=>[(11,(g11,.row [.mpv (wK x.2.1) (wV x.2.1)])),(13,(g13,.row [.itv x.2.2 (wK x.1) (wV x.1)]))]) (W,[],[]) ⟨fun y hy=>hy,List.nodup_nil,(fun y hy=>by cases hy),(fun y hy=>by cases hy),fun V=>by simp[sumW]⟩ trivial ⟨rfl,rfl,trivial⟩ ?_
 rintro⟨L,O,cur⟩ ⟨q1,q2,q3,q4,q5⟩ e σ;dsimp only at q1 q2 q3 q4 q5 ⊢;have q1p:∀y∈L,0<y.2:=fun y hy=>hp y (q1 y hy);by_cases hL:L=[]
 · subst hL
   repeat' (first|refine aR ?_|(refine w_nxtE rfl rfl ?_)|with_reducible refine zI fun y hy=>?_|refine aX ?_|with_reducible intro _|with_reducible refine zJ ?_ fun y hy=>?_|refine aP ?_ ?_)
   refine w_frzMK [(7,stV O)] [] rfl rfl ⟨frzME_at rfl,trivial⟩ trivial ?_;intro e2 σ2
   repeat' (first|refine aR ?_|with_reducible refine zI fun y hy=>?_|refine aX ?_|with_reducible intro _|with_reducible refine zJ ?_ fun y hy=>?_|refine aP ?_ ?_)
   exact⟨O,rfl,q2,q3,fun V=>by rw[←q5 V];simp[sumW],q4⟩
 have hO24:∀x∈O,x.1.length=24:=fun x hx=>by obtain⟨z,hz,_,e⟩:=q4 x hx;rw[e];exact drawB_len (hk z hz).l _ _
 have h1:sumW O (fun _=>1)+sumW L (fun B=>bgAt B bag wood*1)=sumW W fun B=>bgAt B bag wood*1:=q5 fun _=>1;have h1a:sumW L (fun B=>bgAt B bag wood*1)=sumW L fun B=>bgAt B bag wood:=sumW_congr fun x _=>Int.mul_one _;have h1b:sumW W (fun B=>bgAt B bag wood*1)=sumW W fun B=>bgAt B bag wood:=sumW_congr fun x _=>Int.mul_one _;rw[h1a,h1b] at h1;have hWn:∀x∈W,x.2≤sumW W fun _=>1:=fun x hx=>by have:=sumW_mem (V:=fun _=>1) hp (fun _ _=>by decide) x hx;omega
 repeat' (first|refine aR ?_|(first|(refine w_nxtC (fun x:List Int×Int=>bgV x.1) (fun x:List Int×Int=>AV.int .i64 x.2) rfl rfl hL ?_;intro j a hja;obtain⟨f0,f1,f2,f3,f4⟩:=erase_fact q1p hja;have fl:=(hk a (q1 a f0)).l;have fa:=(hk a (q1 a f0)).at (bag.toNat*6+wood.toNat);have fm:=drawB_len fl bag wood;have fg:=wget_bd q3 (drawB a.1 bag wood);have fx:a.2*a.1.getD (bag.toNat*6+wood.toNat) 0≤sumW L (fun B=>bgAt B bag wood):=sumW_mem q1p (fun x hx=>hnn x (q1 x hx)) a f0;have fy:0≤a.2*a.1.getD (bag.toNat*6+wood.toNat) 0:=Int.mul_nonneg (Int.le_of_lt f1) fa.1)|refine w_stN rfl rfl rfl rfl fl ?_|refine w_ldEl rfl ho rfl (by omega) ?_|refine w_stElC rfl ho rfl (by omega) rfl (drawB_set a.1 bag wood) ?_|refine w_ldN rfl rfl fm ?_|refine w_mlkW rfl rfl rfl fm hO24 ?_|refine w_mlkV rfl rfl rfl fm (wins_len fm hO24) (wget_wins _ _) ?_|refine w_menW rfl rfl rfl fm hO24 ?_|refine w_mstW rfl rfl rfl rfl ?_)|with_reducible refine zI fun y hy=>?_|refine aX ?_|with_reducible intro _|with_reducible refine zJ ?_ fun y hy=>?_|refine aP ?_ ?_)
 all_goals first
  | (exfalso;omega)
  | exact q_loop (L.eraseIdx j,addW O (drawB a.1 bag wood) (a.2*a.1.getD (bag.toNat*6+wood.toNat) 0),_) ⟨fun y hy=>q1 y (mem_erase hy),addW_nd _ _ _ q2,addW_pos q3 (Int.mul_pos f1 (by assumption)),addW_key (I:=fun B=>∃z∈W,0<bgAt z.1 bag wood∧B=drawB z.1 bag wood) q4 ⟨a,q1 a f0,by assumption,rfl⟩,fun V=>by
     have e1:=sumW_erase (fun B=>bgAt B bag wood*V (drawB B bag wood)) hja;have e2:=q5 V;show sumW (addW O (drawB a.1 bag wood) _) V+sumW (L.eraseIdx j) _=_
     rw[sumW_add];have e3:a.2*a.1.getD (bag.toNat*6+wood.toNat) 0*V (drawB a.1 bag wood)=a.2*(bgAt a.1 bag wood*V (drawB a.1 bag wood)):=Int.mul_assoc _ _ _;rw[e3];omega⟩ f4 trivial ⟨rfl,  rfl,trivial⟩ aK aK
  | exact q_loop (L.eraseIdx j,O,_) ⟨fun y hy=>q1 y (mem_erase hy),q2,q3,q4,fun V=>by
     have e1:=sumW_erase (fun B=>bgAt B bag wood*V (drawB B bag wood)) hja;have e2:=q5 V;have e0:bgAt a.1 bag wood=0:=by
      have h9:¬0<a.1.getD (bag.toNat*6+wood.toNat) 0:=by assumption
      unfold bgAt;omega
     rw[e0,Int.zero_mul,Int.mul_zero,Int.zero_add] at e1;show sumW O V+sumW (L.eraseIdx j) _=_
     omega⟩ f4 trivial ⟨rfl,  rfl,trivial⟩ aK aK
theorem ren_st(ρ:List (Nat×Nat))(W:Wt):ren ρ (stV W)=stV W:=rfl
theorem ACall.st{P:Program}{f:Nat}{W:Wt}{as0 bs:List AV}{R:Wt→Prop}{σ:Sig}{d:Nat}{Q:AV→Sig→Prop}(h:Fn0 P f (stV W::as0) (fun v=>∃D,v=stV D∧R D))(ha:as0=renL [] bs)(hQ:∀D,R D→Q (stV D) σ):ACall P f (stV W::bs) σ d Q:=
 ACall.fn0 h (by show _=ren [] (stV W)::renL [] bs;rw[ren_st,ha]) fun av hav=>by obtain⟨D,rfl,hD⟩:=hav;rw[ren_st];exact hQ D hD
def nSum:Nat→(Int→Int)→Int
 | 0,_=>0
 | n+1,f=>nSum n f+f n
theorem nSum_nn{f:Int→Int}:∀{n:Nat},(∀k:Nat,k<n→0≤f k)→0≤nSum n f
 | 0,_=>Int.le_refl _
 | n+1,h=>by have:=nSum_nn fun k hk=>h k (Nat.lt_succ_of_lt hk);have:=h n (Nat.lt_succ_self n);rw[nSum];omega
theorem nSum_mem{f:Int→Int}:∀{n:Nat},(∀k:Nat,k<n→0≤f k)→ ∀k:Nat,k<n→f k≤nSum n f
 | 0,_,k,hk=>by omega
 | n+1,h,k,hk=>by
   have h0:=nSum_nn fun k hk=>h k (Nat.lt_succ_of_lt hk);have h1:=h n (Nat.lt_succ_self n);rw[nSum];by_cases e:k=n
   · subst e;omega
   · have:=nSum_mem (fun k hk=>h k (Nat.lt_succ_of_lt hk)) k (by omega);omega
theorem nSum_mono{f:Int→Int}{n:Nat}(h:∀k:Nat,k<n→0≤f k):∀{m:Nat},m≤n→nSum m f≤nSum n f:=by
 intro m hm;induction n with
 | zero=>rw[Nat.le_zero.1 hm];exact Int.le_refl _
 | succ n ih=>
   by_cases e:m=n+1
   · rw[e];exact Int.le_refl _
   · have:=ih (fun k hk=>h k (Nat.lt_succ_of_lt hk)) (by omega);have:=h n (Nat.lt_succ_self n);rw[nSum];omega
theorem nSum_congr{f g:Int→Int}:∀{n:Nat},(∀k:Nat,k<n→f k=g k)→nSum n f=nSum n g
 | 0,_=>rfl
 | n+1,h=>by rw[nSum,nSum,nSum_congr fun k hk=>h k (Nat.lt_succ_of_lt hk),h n (Nat.lt_succ_self n)]
theorem sumW_plus(U V:List Int→Int):∀W:Wt,sumW W (fun B=>U B+V B)=sumW W U+sumW W V
 | []=>rfl
 | (B,n)::r=>by
   show n*(U B+V B)+sumW r (fun B=>U B+V B)=(n*U B+sumW r U)+(n*V B+sumW r V)
   rw[sumW_plus U V r,Int.mul_add];omega
end Go.Abs
