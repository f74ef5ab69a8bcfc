/- A part of the proofs of the laws of this seat: contracts of the functions that they reach, each proved of the program's form in Lean. No condition beyond those that each contract names. -/
import Derived.Test.YtegfkfgkplnjgaaGreatSnd3
import Derived.Test.YtegfkfgkplnjgaaGreatRows
import Derived.WalkKit
import Derived.ProofKit
import Derived.OpenShut
import Derived.ShutString
import Derived.ChangeOld
import Derived.SizedLaws
import Derived.Below
import Derived.Test.YtegfkfgkplnjgaaGreatProg
import Derived.Test.YtegfkfgkplnjgaaGreatA0
set_option linter.unusedVariables false
set_option linter.unusedSimpArgs false
set_option maxRecDepth 20000
set_option maxHeartbeats 4000000
namespace Go.Abs
open Go.RowKit
variable {P:Program}
theorem Ext.below {K K':Nat→Nat→Option Value} {w w':World} (h:Ext (fun _=>False) K w K' w'):Below w.heap.size w w':=
 ⟨h.os,h.tape,h.output,h.size,fun k hk=>h.block k hk id⟩
def K0 (w:World) (b o:Nat):Option Value:=match w.cell? ⟨b,o,none⟩ with
 | some v=>match v.oneCell' with
   | true=>some v
   | false=>none
 | none=>none
theorem K0_ok (w:World):Kok (K0 w) w:=⟨fun b o v h=>by
 simp only[K0] at h
 split at h
 · rename_i u hc
   split at h
   · rename_i h1
     cases h
     left
     unfold World.cell? at hc
     cases hb:w.heap[b]? with
     | none=>simp[hb] at hc
     | some ob=>
       simp only[hb] at hc
       cases ob<;>simp at hc
       exact⟨_,_,_,rfl,by simpa using hc,h1⟩
   · cases h
 · cases h⟩
theorem K0_get {w:World} {b o:Nat} {v:Value} (h:w.cell? ⟨b,o,none⟩=some v) (h1:v.oneCell'=true):K0 w b o=some v:=by
 simp only[K0,h,h1]
def IsRow (k:IntKind) (w:World) (a:Option Addr) (len cap:Nat) (zs:List Int):Prop:=
 (a=none∧len=0∧cap=0∧zs=[])∨
 ∃b o,a=some ⟨b,o,none⟩∧len≤cap∧cap≤maxLen∧zs.length=cap∧(∀i,i<zs.length→w.cell? ⟨b,o+i,none⟩=some (.int k (zs.getD i 0)))∧ ∀n∈zs,(Lit.int k n).wf=true
theorem rows_of {w:World} {b:Nat} {k:IntKind}:∀{zs:List Int} {o:Nat},(∀i,i<zs.length→w.cell? ⟨b,o+i,none⟩=some (.int k (zs.getD i 0)))→RelRows (GS.pure (K0 w)) b o 1 (zs.map fun n=>[.int k n])
 | [],_,_=>trivial
 | z::zs,o,h=>by
   refine⟨rfl,⟨⟨.int k z,K0_get (by simpa using h 0 (by simp)) rfl,rfl,rfl⟩,trivial⟩,rows_of fun i hi=>?_⟩
   have:=h (i+1) (by simpa using hi)
   simpa[Nat.add_assoc,Nat.add_comm 1 i] using this
theorem IsRow.rel {k:IntKind} {w:World} {a:Option Addr} {len cap:Nat} {zs:List Int} (h:IsRow k w a len cap zs):(zs.take len).length=len∧len≤maxLen∧Rel (GS.pure (K0 w)) (.slc 1 ((zs.take len).map fun n=>[.int k n]) .non) (.slice a len cap):=by
 rcases h with⟨rfl,rfl,rfl,rfl⟩ | ⟨b,o,rfl,hl,hm,hz,hc,hw⟩
 · exact⟨rfl,Nat.zero_le _,.inl ⟨.inl rfl,rfl⟩⟩
 · have hlen:(zs.take len).length=len:=by simp;omega
   refine⟨hlen,by omega,.inr ⟨b,o,cap,by rw[List.length_map,hlen],by rw[List.length_map,hlen];exact hl,rows_of fun i hi=>?_,trivial⟩⟩
   rw[List.length_take] at hi
   have h1:=hc i (by omega)
   simpa[List.getD_eq_getElem?_getD,List.getElem?_take,show i<len by omega] using h1
theorem spot_of {P:Program} {W:World} {t e:TypeId} {a:Addr} {len cap:Nat} (ht:P.underlying t=some (.slice e)) (h:Value.okWide P W .any 0 t (.slice (some a) len cap)):a.spot=none:=by
 simp only[Value.okWide,ht,Cell.okWide,Cell.ok] at h
 exact h.2.2.2.1
end Go.Abs
namespace Go.Proofs.YtegfkfgkplnjgaaGreat
open Go.ChangeShapes Go.WideShapes Go.ChangeAt Go.RowKit Go.Abs
open Go.ChangeMaps (open_string shut_string)
theorem own:ownKnob Tryz.prog.godebug=none:=by kernel_rfl
theorem laidOut:laidOutB Tryz.prog=true:=by kernel_rfl
set_option maxRecDepth 100000 in
theorem open_nums {H:Type} {enc:TypeId×Value→H} {W:World} {base:Nat} {v:Value} {d:DataW H} {ps:List MemPlace} (hv:Value.okWide Tryz.prog W .any base 28 v) (h:DataW.Trod enc Tryz.prog W 0 (fun _=>true) true 28 v d ps) (hw:(DataW.weights Tryz.prog 28 d).all (· ≤reachBytes)=true):
  ∃a len cap zs,v= .slice a len cap∧IsRow .i64 W a len cap zs∧len<2^48:=by
 obtain⟨a,len,cap,rfl⟩:=okWide_slice Tryz.underlying28 hv
 obtain⟨fuel,hf⟩:=h
 rcases open_ints Tryz.underlying28 Tryz.underlying3 (by kernel_rfl) hf with⟨hcs,_⟩ | ⟨x,l,c,zs,hcs,_,hl,hm,hz,hd,hcell,hwz⟩
 · simp[Value.cells] at hcs
   obtain⟨rfl,rfl,rfl⟩:=hcs
   exact⟨none,0,0,[],rfl,.inl ⟨rfl,rfl,rfl,rfl⟩,by omega⟩
 · simp[Value.cells] at hcs
   obtain⟨rfl,rfl,rfl⟩:=hcs
   have hs:=spot_of Tryz.underlying28 hv
   obtain⟨b,o,sp⟩:=x
   dsimp only at hs;subst hs
   have hz':zs.length=cap:=by simpa using hz
   refine⟨_,len,cap,zs,rfl,.inr ⟨b,o,rfl,hl,hm,hz',fun i hi=>?_,hwz⟩,?_⟩
   · have e:(⟨b,o,none⟩:Addr).add i=⟨b,o+i,none⟩:=by
      by_cases h0:i=0
      · subst h0;rfl
      · simp[Addr.add,h0]
     rw[←e];exact hcell i hi
   · have hd':d= .slice (lits .i64 (zs.take len)) (lits .i64 (zs.drop len)):=congrArg Prod.fst hd
     subst hd'
     simp only[DataW.weights,Tryz.underlying28,List.all_cons,Bool.and_eq_true,decide_eq_true_eq] at hw
     have h8:Tryz.prog.bytesOf 3=8:=by kernel_rfl
     have h1:=hw.1
     simp only[lits,List.length_map,List.length_take,List.length_drop,hz'] at h1
     rw[h8] at h1
     have hm:min len cap=len:=Nat.min_eq_left hl
     rw[hm] at h1
     have hr:reachBytes=140737488351232:=rfl
     rw[hr] at h1;omega
end Go.Proofs.YtegfkfgkplnjgaaGreat
namespace Go.Abs
open Go.Proofs
variable {P:Program}
abbrev iR (xs:List Int):List (List AV):=xs.map fun n=>[.int .i64 n]
theorem w_ixM {K:(Nat→AV)→Sig→Prop} {e:Nat→AV} {σ:Sig} {α:Type} {f:α→List AV} {l:List α} {d sz:Nat} {t:Tag} {x i:IOpd} {r:List IStep} {k:IntKind} {n:Int} (hx:x.ev e= .slc sz (l.map f) t) (hi:i.ev e= .int k n) (h:0≤n∧n<l.length)
  (hk:∀y,l[n.toNat]?=some y→stepsW P r K (upd e d (.pin (f y))) σ):stepsW P (⟨some d,none,.ixA sz x i⟩::r) K e σ:=by
 refine w_val (v:= .pin ((l.map f).getD n.toNat [])) (p:=sz=sz∧0≤n∧n<(l.map f).length) (by show ixAO sz (x.ev e) (i.ev e)=_;rw[hx,hi];rfl) ⟨rfl,h.1,by simpa using h.2⟩ ?_
 have hlt:n.toNat<l.length:=by omega
 have:(l.map f).getD n.toNat []=f l[n.toNat]:=by
  rw[List.getD_eq_getElem?_getD,List.getElem?_map,List.getElem?_eq_getElem hlt];rfl
 rw[this];exact hk _ (List.getElem?_eq_getElem hlt)
theorem w_ixP {K:(Nat→AV)→Sig→Prop} {e:Nat→AV} {σ:Sig} {α:Type} {f:α→List AV} {l:List α} {pre post:List α} {y:α} {d sz:Nat} {t:Tag} {x i:IOpd} {r:List IStep} (hl:l=pre++y::post) (hx:x.ev e= .slc sz (l.map f) t) (hi:i.ev e= .int .i64 pre.length)
  (hk:stepsW P r K (upd e d (.pin (f y))) σ):stepsW P (⟨some d,none,.ixA sz x i⟩::r) K e σ:=by
 subst hl
 refine w_val (v:= .pin (((pre++y::post).map f).getD ((pre.length:Int)).toNat [])) (p:=sz=sz∧0≤(pre.length:Int)∧(pre.length:Int)<((pre++y::post).map f).length) (by show ixAO sz (x.ev e) (i.ev e)=_;rw[hx,hi];rfl) ⟨rfl,by omega,by simp;omega⟩ ?_
 have:((pre++y::post).map f).getD ((pre.length:Int)).toNat []=f y:=by
  rw[List.getD_eq_getElem?_getD,Int.toNat_natCast,List.getElem?_map]
  simp
 rw[this];exact hk
def BoxS (g:Nat) (w:Int):Sig:=sg [(1000,(g,.row [.int .u64 w]))]
def BoxR (g:Nat) (V:AV→Prop):AV→Sig→Prop:=fun av σ'=>∃w',V av∧σ' 1000=(g,.row [.int .u64 w'])
theorem ACall.box {f:Nat} {args0 args:List AV} {V:AV→Prop} {σ:Sig} {d j g:Nat} {w:Int} {Q:AV→Sig→Prop} (h:RawC P f (.ref 1000 g 0::args0) (BoxS g w) (BoxR g V)) (hr:renOK [(1000,j)]=true) (hσ:σ j=(g,.row [.int .u64 w]))
  (ha:args0=renL [(j,1000)] args) (hQ:∀av w',V av→Q (ren [(1000,j)] av) (upd σ j (g,.row [.int .u64 w']))):ACall P f (.ref j g 0::args) σ d Q:=by
 subst ha
 refine ACall.lift (l0:=[(1000,(g,.row [.int .u64 w]))]) h [(1000,j)] none hr ?_ ?_ ⟨⟨_,by rw[hσ]⟩,trivial⟩ ?_
 · show _=ren _ _::_
   have:lk (flipL [(1000,j)]) j=some 1000:=by simp[flipL,lk]
   simp only[ren,this];rfl
 · simp only[pull,hσ,renR];rfl
 · rintro av σ0' ⟨w',hV,hs⟩
   have:=hQ av w' hV
   have e:=push_one (ρ:=outs d none++[(1000,j)]) (σ:=σ) (b:=j) (r:=[]) hs
   rw[show (outs d none++[(1000,j)])=[(1000,j)] from rfl] at e ⊢
   rw[e];exact this
end Go.Abs
namespace Go.Abs
theorem wrap_u64 (n:Int):0≤IntKind.u64.wrap n∧IntKind.u64.wrap n<18446744073709551616:=by
 simp[IntKind.wrap,IntKind.bits,IntKind.signed];omega
theorem wrap_u64_id (n:Int) (h:0≤n) (h2:n<18446744073709551616):IntKind.u64.wrap n=n:=by
 simp[IntKind.wrap,IntKind.bits,IntKind.signed];omega
end Go.Abs
namespace Go.Abs
variable {P:Program}
theorem w_lenM {K:(Nat→AV)→Sig→Prop} {e:Nat→AV} {σ:Sig} {α:Type} {f:α→List AV} {l:List α} {d sz:Nat} {t:Tag} {x:IOpd} {r:List IStep} (hx:x.ev e= .slc sz (l.map f) t)
  (hk:stepsW P r K (upd e d (.int .i64 l.length)) σ):stepsW P (⟨some d,none,.len false x⟩::r) K e σ:=by
 refine w_val (v:= .int .i64 (l.map f).length) (p:=True) (by show lenO false (x.ev e)=_;rw[hx];rfl) trivial ?_
 rw[List.length_map];exact hk
theorem w_slM {K:(Nat→AV)→Sig→Prop} {e:Nat→AV} {σ:Sig} {α:Type} {f:α→List AV} {l:List α} {d sz:Nat} {t:Tag} {x:IOpd} {lo hi:Option IOpd} {a b:Int} {r:List IStep} (hx:x.ev e= .slc sz (l.map f) t)
  (ha:boundO e 0 lo=some a) (hb:boundO e l.length hi=some b) (h:0≤a∧a≤b∧b≤l.length)
  (hk:stepsW P r K (upd e d (.slc sz (((l.drop a.toNat).take (b-a).toNat).map f) .non)) σ):stepsW P (⟨some d,none,.slS sz x lo hi none⟩::r) K e σ:=by
 refine w_val (v:= .slc sz (((l.map f).drop a.toNat).take (b-a).toNat) .non) (p:=sz=sz∧0≤a∧a≤b∧b≤(l.map f).length) ?_ ⟨rfl,h.1,h.2.1,by simpa using h.2.2⟩ ?_
 · show slSO sz e (x.ev e) lo hi none=_
   rw[hx]
   simp only[slSO,ha,List.length_map,hb]
 · rw[←List.map_drop,←List.map_take];exact hk
theorem b_dt {A B p:Prop} [Decidable p] (hp:p) (h:A):brW (decide p) A B:=by rw[decide_eq_true hp];exact h
theorem b_df {A B p:Prop} [Decidable p] (hp:¬p) (h:B):brW (decide p) A B:=by rw[decide_eq_false hp];exact h
theorem b_nt {A B p:Prop} [Decidable p] (hp:p) (h:B):brW (!decide p) A B:=by rw[decide_eq_true hp];exact h
theorem b_nf {A B p:Prop} [Decidable p] (hp:¬p) (h:A):brW (!decide p) A B:=by rw[decide_eq_false hp];exact h
def SR {α:Type} (V:α→AV→Prop) (L:α→List (Nat×(Nat×Res))):AV→Sig→Prop:=fun av σ'=>∃x,V x av∧slots (L x) σ'
def lkS (a:Nat):List (Nat×(Nat×Res))→Option (Nat×Res)
 | []=>none
 | (b,x)::r=>match Nat.beq b a with
   | true=>some x
   | false=>lkS a r
def pushV (ρ:List (Nat×Nat)) (L:List (Nat×(Nat×Res))):List (Nat×Nat)→Sig→Sig
 | [],σ=>σ
 | (a,b)::r,σ=>match lkS a L with
   | some x=>upd (pushV ρ L r σ) b (x.1,renR ρ x.2)
   | none=>pushV ρ L r σ
def covers (L:List (Nat×(Nat×Res))):List (Nat×Nat)→Bool
 | []=>true
 | (a,_)::r=>match lkS a L with
   | some _=>covers L r
   | none=>false
theorem lkS_slots {σ0:Sig} {a:Nat} {x:Nat×Res}:∀{L:List (Nat×(Nat×Res))},slots L σ0→lkS a L=some x→σ0 a=x
 | (b,y)::r,⟨h1,h2⟩,h=>by
   simp only[lkS] at h
   split at h
   · rename_i hb;cases h;rw[←nbeq.1 hb];exact h1
   · exact lkS_slots h2 h
theorem push_slots {ρ:List (Nat×Nat)} {σ0 σ:Sig} {L:List (Nat×(Nat×Res))} (h:slots L σ0):∀{l:List (Nat×Nat)},covers L l=true→push ρ σ0 l σ=pushV ρ L l σ
 | [],_=>rfl
 | (a,b)::r,hc=>by
   simp only[covers] at hc
   split at hc
   · rename_i x hx
     simp only[push,pushV,hx]
     rw[push_slots h hc,lkS_slots h hx]
   · cases hc
theorem ACall.liftS {f:Nat} {args0 args:List AV} {l0:List (Nat×(Nat×Res))} {σ:Sig} {α:Type} {V:α→AV→Prop} {L:α→List (Nat×(Nat×Res))} {d:Nat} {Q:AV→Sig→Prop} (h:RawC P f args0 (sg l0) (SR V L)) (ρi:List (Nat×Nat)) (s:Option Nat) (hr:renOK (outs d s++ρi)=true)
  (ha:args0=renL (flipL ρi) args) (h0:l0=pull (flipL ρi) σ ρi) (hl:liveL σ ρi) (hc:∀x,covers (L x) (outs d s++ρi)=true) (hQ:∀x av,V x av→Q (ren (outs d s++ρi) av) (pushV (outs d s++ρi) (L x) (outs d s++ρi) σ)):ACall P f args σ d Q:=
 ACall.lift h ρi s hr ha h0 hl fun av σ0' ⟨x,hV,hs⟩=>by rw[push_slots hs (hc x)];exact hQ x av hV
theorem map_snoc {α:Type} {f:α→List AV} {l:List α} {x:α}:(l++[x]).map f=l.map f++[f x]:=by simp
end Go.Abs
namespace Go.Abs
theorem len_snoc {α:Type} {l:List α} {x:α}:(l++[x]).length=l.length+1:=by simp
structure Guest where
 name:ByteArray
 rank:Int
 honour:Int
 never:Int
 maybe:Int
 deriving DecidableEq
structure Dish where
 turn:Int
 parts:Int
 cost:Int
 deriving DecidableEq
structure Rule where
 kind:Int
 a:Int
 b:Int
 weight:Int
 deriving DecidableEq
structure Bond where
 kind:Int
 a:Int
 b:Int
 deriving DecidableEq
abbrev Guest.row (g:Guest):List AV:=[.str g.name,.int .i64 g.rank,.int .i64 g.honour,.int .i64 g.never,.int .i64 g.maybe]
abbrev Dish.row (g:Dish):List AV:=[.int .i64 g.turn,.int .i64 g.parts,.int .i64 g.cost]
abbrev Rule.row (g:Rule):List AV:=[.int .i64 g.kind,.int .i64 g.a,.int .i64 g.b,.int .i64 g.weight]
abbrev Bond.row (g:Bond):List AV:=[.int .i64 g.kind,.int .i64 g.a,.int .i64 g.b]
def inB (n a b:Int):Bool:=decide (a≤n∧n≤b)
theorem inB_t {n a b:Int}:inB n a b=true↔a≤n∧n≤b:=by simp[inB]
theorem inB_f {n a b:Int}:inB n a b=false↔n<a∨b<n:=by simp[inB];omega
def letB (c:UInt8):Bool:=decide (97≤(c.toNat:Int)∧(c.toNat:Int)≤122)
def namedB (s:ByteArray):Bool:=inB s.size 1 8 && s.data.toList.all letB
end Go.Abs
namespace Go.Abs
theorem slots_nil {β:Type} {e:Nat→β}:slots [] e:=trivial
theorem slots_cons {β:Type} {e:Nat→β} {i:Nat} {v:β} {r:List (Nat×β)} (h:e i=v) (h2:slots r e):slots ((i,v)::r) e:=⟨h,h2⟩
theorem kept_nil {β:Type} {e e':Nat→β}:kept [] e e':=trivial
theorem kept_cons {β:Type} {e e':Nat→β} {i:Nat} {r:List Nat} (h:e' i=e i) (h2:kept r e e'):kept (i::r) e e':=⟨h,h2⟩
end Go.Abs
namespace Go.Abs
variable {P:Program}
theorem ACall.weak {f:Nat} {args args':List AV} {σ:Sig} {d:Nat} {Q:AV→Sig→Prop} (hw:∀G vals,RelL G args vals→RelL G args' vals) (h:ACall P f args' σ d Q):ACall P f args σ d Q:=
 ⟨h.1,fun Y T G w vals a b c r=>h.2 Y T G w vals a b c (hw G vals r)⟩
theorem RawC.weak {f:Nat} {args args':List AV} {σ:Sig} {R:AV→Sig→Prop} (hw:∀G vals,RelL G args vals→RelL G args' vals) (h:RawC P f args' σ R):RawC P f args σ R:=
 ⟨h.1,fun Y T G w vals a b c r=>h.2 Y T G w vals a b c (hw G vals r)⟩
theorem Sub.nil {sz:Nat} {t:Tag}:Sub .nsl (.slc sz [] t):=fun G v h=> .inl ⟨.inl h,rfl⟩
theorem Sub.refl (a:AV):Sub a a:=fun _ _ h=>h
def SubL:List AV→List AV→Prop
 | [],[]=>True
 | a::r,b::s=>Sub a b∧SubL r s
 | _,_=>False
theorem SubL.rel {G:GS}:∀{l m:List AV} {vals:List Value},SubL l m→RelL G l vals→RelL G m vals
 | [],[],_,_,h=>h
 | a::r,b::s,_,⟨h1,h2⟩,⟨v,t,h3,h4,h5⟩=>⟨v,t,h3,h1 G v h4,SubL.rel h2 h5⟩
abbrev llR (ls:List (List Int)):List (List AV):=ls.map fun l=>[.slc 1 (iR l) .non]
def NowV (a:AV) (l:List Int):Prop:=(a= .nsl∧l=[])∨(a= .slc 1 (iR l) .non∧l≠[])
end Go.Abs
namespace Go.Abs
variable {P:Program}
theorem w_appS {K:(Nat→AV)→Sig→Prop} {e:Nat→AV} {σ σ':Sig} {d sz bytes i:Nat} {x y:IOpd} {r:List IStep} {p q:Prop} {es ys zs:List (List AV)} (hx:baseO sz σ (x.ev e)=some (p,es,σ')) (hy:rowsO sz (y.ev e)=some (q,ys))
  (hz:es++ys=zs) (hp:p∧q) (hb:zs.length*bytes≤140737488355328) (hk:∀g,stepsW P r K (upd e d (.slc sz zs (.own i g))) (newS σ' i g [])):stepsW P (⟨some d,none,.app sz bytes x y i⟩::r) K e σ:=by
 refine w_det (p:=p∧q∧(es.length+ys.length)*bytes≤140737488355328) (v:=fun g=> .slc sz (es++ys) (.own i g)) (σ':=fun g=>newS σ' i g []) (fun g=>?_) ⟨hp.1,hp.2,?_⟩ fun g=>?_
 · show (match baseO sz σ (x.ev e),rowsO sz (y.ev e) with
    | some (p,es,σ'),some (q,ys)=>some (p∧q∧(es.length+ys.length)*bytes≤140737488355328,AV.slc sz (es++ys) (.own i g),newS σ' i g [])
    | _,_=>none)=_
   rw[hx,hy]
 · rw[←hz,List.length_append] at hb;exact hb
 · rw[hz];exact hk g
theorem app_one {α:Type} {f:α→List AV} {l:List α} {z:α} {r:List AV} (h:f z=r):l.map f++[r]=(l++[z]).map f:=by rw[←h];simp
theorem app_map {α:Type} {f:α→List AV} {l m:List α}:l.map f++m.map f=(l++m).map f:=by simp
theorem app_nil {ys:List (List AV)}:[]++ys=ys:=rfl
end Go.Abs
namespace Go.Abs
theorem int_eq {a b:Int} (h:a=b):AV.int .i64 a=AV.int .i64 b:=by rw[h]
end Go.Abs
namespace Go.Abs
theorem b_ht {A B:Prop} {c:Bool} (h:c=true) (hA:A):brW c A B:=by rw[h];exact hA
theorem b_hf {A B:Prop} {c:Bool} (h:c=false) (hB:B):brW c A B:=by rw[h];exact hB
theorem b_hnt {A B:Prop} {c:Bool} (h:c=true) (hB:B):brW (!c) A B:=by rw[h];exact hB
theorem b_hnf {A B:Prop} {c:Bool} (h:c=false) (hA:A):brW (!c) A B:=by rw[h];exact hA
theorem g_ht {A B:Bool→Prop} {c b:Bool} (h:c=true) (hk:grW true A B b):grW c A B b:=by rw[h];exact hk
theorem g_hf {A B:Bool→Prop} {c b:Bool} (h:c=false) (hk:grW false A B b):grW c A B b:=by rw[h];exact hk
theorem g_hnt {A B:Bool→Prop} {c b:Bool} (h:c=true) (hk:grW false A B b):grW (!c) A B b:=by rw[h];exact hk
theorem g_hnf {A B:Bool→Prop} {c b:Bool} (h:c=false) (hk:grW true A B b):grW (!c) A B b:=by rw[h];exact hk
theorem g_hd {A B:Bool→Prop} {p:Prop} [Decidable p] {b:Bool} (h:p) (hk:grW true A B b):grW (decide p) A B b:=by rw[decide_eq_true h];exact hk
theorem g_hnd {A B:Bool→Prop} {p:Prop} [Decidable p] {b:Bool} (h:¬p) (hk:grW false A B b):grW (decide p) A B b:=by rw[decide_eq_false h];exact hk
end Go.Abs
namespace Go.Abs
variable {P:Program}
theorem SubL.nil:SubL [] []:=trivial
theorem SubL.cons {a b:AV} {r s:List AV} (h:Sub a b) (hr:SubL r s):SubL (a::r) (b::s):=⟨h,hr⟩
end Go.Abs
namespace Go.Abs
theorem b_nb {A B:Prop} {c:Bool} (h1:c=false→A) (h2:c=true→B):brW (!c) A B:=by
 cases c
 · exact h1 rfl
 · exact h2 rfl
theorem g_nbt {A B:Bool→Prop} {c:Bool} (h1:c=false→A true) (h2:c=true→B false):grW (!c) A B true:=by
 cases c
 · exact h1 rfl
 · exact h2 rfl
theorem g_nbf {A B:Bool→Prop} {c:Bool} (h1:c=false→B true) (h2:c=true→A false):grW (!c) A B false:=by
 cases c
 · exact h1 rfl
 · exact h2 rfl
end Go.Abs
namespace Go.Abs
variable {P:Program}
theorem w_frzR {Q:Post} {e:Nat→AV} {σ:Sig} {t i g:Nat} {c:List AV} (hx:e t= .ref i g 0) (hσ:σ i=(g,.row c)) (hs:c.all AV.scal=true) (hk:Q .nor (upd (frzE i g c e) t (.pin (normL c))) (frzS i g c σ)):awp P (.frz (.t t)) Q e σ:=by
 have he:frzE i g c e t= .pin (normL c):=by simp[frzE,hx,frzA]
 rw[←upd_same he] at hk
 show frzW (e t) e σ _
 rw[hx];show (match σ i with|(g',.row c)=>g=g'∧c.all AV.scal=true∧Q .nor (frzE i g c e) (frzS i g c σ) | _=>False)
 rw[hσ];exact⟨rfl,hs,hk⟩
theorem chunk1:∀(xs:List Int),chunk 1 xs.length (normL (xs.map (AV.int .i64)))=iR xs
 | []=>rfl
 | x::xs=>by
   have:=chunk1 xs
   simp only[List.length_cons,List.map_cons,normL,chunk,List.map_cons]
   simp only[normL] at this
   rw[show List.drop 1 (AV.norm (AV.int .i64 x)::List.map AV.norm (List.map (AV.int .i64) xs))=List.map AV.norm (List.map (AV.int .i64) xs) from rfl,this]
   rfl
theorem setL_one {α:Type} (c:List α) (k:Nat) (x:α):setL c k [x]=c.set k x:=rfl
theorem w_stI {K:(Nat→AV)→Sig→Prop} {e:Nat→AV} {σ:Sig} {x v:IOpd} {r:List IStep} {i g off:Nat} {a:Int} {xs:List Int} (hx:x.ev e= .ref i g off) (hv:v.ev e= .int .i64 a) (hσ:σ i=(g,.row (xs.map (AV.int .i64)))) (ho:off<xs.length)
  (hk:stepsW P r K e (upd σ i (g,.row ((xs.set off a).map (AV.int .i64))))):stepsW P (⟨none,none,.st 1 x v⟩::r) K e σ:=by
 refine w_det0 (p:=g=g∧1=1∧off+1≤(xs.map (AV.int .i64)).length) (v:= .junk) (σ':=upd σ i (g,.row (setL (xs.map (AV.int .i64)) off [.int .i64 a]))) (fun _=>?_) ⟨rfl,rfl,by simp;omega⟩ ?_
 · show stO 1 σ (v.ev e) (x.ev e)=_
   rw[hx,hv]
   simp only[stO,cellsO,hσ]
 · rw[setL_one,←List.map_set];exact hk
theorem w_mksI {K:(Nat→AV)→Sig→Prop} {e:Nat→AV} {σ:Sig} {d:Nat} {l:IOpd} {r:List IStep} {n:Nat} (hl:l.ev e= .int .i64 n) (hn:n≤1000000)
  (hk:∀g,stepsW P r K (upd e d (.msl d g n 1)) (newS σ d g ((List.replicate n (0:Int)).map (AV.int .i64)))):stepsW P (⟨some d,none,.mks 1 8 [.int .i64 0] l l⟩::r) K e σ:=by
 refine w_det (p:=0≤(n:Int)∧(n:Int)=n∧(n:Int)*8≤140737488355328∧(n:Int)≤9223372036854775807) (v:=fun g=> .msl d g n 1) (σ':=fun g=>newS σ d g (List.replicate n [AV.int .i64 0]).flatten) (fun g=>?_) ⟨by omega,rfl,by omega,by omega⟩ fun g=>?_
 · show (match l.ev e,l.ev e with
    | .int _ n,.int _ c=>some (0≤n∧c=n∧n*(8:Nat)≤140737488355328∧n≤9223372036854775807,AV.msl d g n.toNat 1,newS σ d g (List.replicate n.toNat [AV.int .i64 0]).flatten)
    | _,_=>none)=_
   rw[hl];rfl
 · have:∀n:Nat,(List.replicate n [AV.int .i64 0]).flatten=(List.replicate n (0:Int)).map (AV.int .i64):=by
    intro n
    induction n with
    | zero=>rfl
    | succ n ih=>simp[List.replicate_succ,ih]
   rw[this];exact hk g
theorem w_yield {K:(Nat→AV)→Sig→Prop} {e:Nat→AV} {σ:Sig} {d l:Nat} {x:IOpd} {args:List IOpd} {av y:List AV} {rest:List (List AV)} {r:List IStep} (hx:x.ev e= .clo (.yield l) [] []) (h:evO e args=some av)
  (hσ:σ YS=(0,.yld l (some (y::rest)))) (hy:stripL av=y) (hk:∀b:Bool,stepsW P r K (upd e d (.bool b)) (upd σ YS (0,.yld l (yNext rest b)))):stepsW P (⟨some d,none,.callV x args⟩::r) K e σ:=by
 show argW (evO e args) _
 rw[h];show callVW P (x.ev e) _ _ _ _
 rw[hx]
 show (match σ YS with|(0,.yld l' (some (x::rest)))=>l'=l∧stripL av=x∧ ∀b:Bool,contS e (some d) (stepsW P r K) (.bool b) (upd σ YS (0,.yld l (yNext rest b))) | _=>False)
 rw[hσ];exact⟨rfl,hy,hk⟩
def rndK {α β:Type} (kS:List Nat) (σ0:Sig) (C:List β→α→Prop) (S:α→List (Nat×(Nat×Res))) (rest:List β) (Q:Post) (e0:Nat→AV):Post
 | .nor,_,σ=>∃y,C rest y∧slots (S y) σ∧kept kS σ0 σ
 | x,_,σ=>Q x e0 σ
theorem q_rnd {α β:Type} {kS:List Nat} {σ0:Sig} {C:List β→α→Prop} {S:α→List (Nat×(Nat×Res))} {rest:List β} {Q:Post} {e0 e:Nat→AV} {σ:Sig} (y:α) (h1:C rest y) (h2:slots (S y) σ) (h3:kept kS σ0 σ):rndK kS σ0 C S rest Q e0 .nor e σ:=⟨y,h1,h2,h3⟩
theorem q_rnd_ret {α β:Type} {kS:List Nat} {σ0:Sig} {C:List β→α→Prop} {S:α→List (Nat×(Nat×Res))} {rest:List β} {Q:Post} {e0 e:Nat→AV} {σ:Sig} (h:Q .ret e0 σ):rndK kS σ0 C S rest Q e0 .ret e σ:=h
theorem q_rnd_ex {α β:Type} {kS:List Nat} {σ0:Sig} {C:List β→α→Prop} {S:α→List (Nat×(Nat×Res))} {rest:List β} {Q:Post} {e0 e:Nat→AV} {σ:Sig} {i:Nat} (h:Q (.ex i) e0 σ):rndK kS σ0 C S rest Q e0 (.ex i) e σ:=h
theorem q_asg {K:(Nat→AV)→Sig→Prop} {e:Nat→AV} {σ:Sig} (h:K e σ):asgQ K .nor e σ:=h
theorem w_rfM {Q:Post} {e:Nat→AV} {σ:Sig} {f:IOpd} {ps:List Nat} {a b:IR} {α β:Type} {g:Nat} {lb:List AV} (enc:β→List AV) (xs:List β) (hf:f.ev e= .clo (.func g) [] lb) (hit:ItC P g (stripL lb) (xs.map enc)) (hlen:∀x,(enc x).length=ps.length)
  (kS:List Nat) (C:List β→α→Prop) (S:α→List (Nat×(Nat×Res))) (y0:α) (hC:C xs y0) (hS:slots (S y0) σ)
  (hr:∀x rest y,C (x::rest) y→ ∀σ',awp P a (asgQ (awp P b (rndK kS σ C S rest Q e))) (setE e ps (enc x)) (updL (S y) (keepL kS σ σ')))
  (hend:∀y,C [] y→ ∀σ',Q .nor e (updL (S y) (keepL kS σ σ'))):awp P (.rf f ps a b) Q e σ:=by
 have refl:∀{β:Type} (k:List Nat) (e:Nat→β),kept k e e:=by
  intro β k e
  induction k with
  | nil=>trivial
  | cons t r ih=>exact⟨rfl,ih⟩
 refine⟨g,lb,xs.map enc,fun l σ'=>∃rest y,l=rest.map enc∧C rest y∧slots (S y) σ'∧kept kS σ σ',hf,hit,?_,⟨xs,y0,rfl,hC,hS,refl _ _⟩,?_,?_⟩
 · intro x hx
   obtain⟨z,_,rfl⟩:=List.mem_map.1 hx
   exact hlen z
 · rintro x rest σ' _ ⟨l,y,hl,h1,h2,h3⟩
   cases l with
   | nil=>cases hl
   | cons z l=>
     simp only[List.map_cons,List.cons.injEq] at hl
     obtain⟨rfl,rfl⟩:=hl
     have:=hr z l y h1 σ'
     rw[keepL_kept h3,updL_slots h2] at this
     refine awp_mono (fun ax e2 σ2 h=>?_) this
     cases ax with
     | nor=>
       refine awp_mono (ir:=b) (fun ax e3 σ3 h=>?_) h
       cases ax with
       | nor=>obtain⟨y',k1,k2,k3⟩:=h;exact⟨l,y',rfl,k1,k2,k3⟩
       | ret=>exact h
       | ex j=>exact h
     | ret=>exact h
     | ex j=>exact h
 · rintro σ' ⟨l,y,hl,h1,h2,h3⟩
   cases l with
   | cons z l=>cases hl
   | nil=>
     have:=hend y h1 σ'
     rw[keepL_kept h3,updL_slots h2] at this
     exact this
end Go.Abs
namespace Go.Abs
variable {P:Program}
end Go.Abs
namespace Go.Abs
variable {P:Program}
theorem acall_id {f:Nat} {args:List AV} {σ:Sig} {d:Nat} {Q:AV→Sig→Prop} (h:ACall P f args σ d Q):ACall P f args σ d Q:=h
theorem w_g0 {K:(Nat→AV)→Sig→Prop} {e:Nat→AV} {σ:Sig} {g:Nat} {b c:Bool} {op:IOp} {r:List IStep} (h:e g= .bool c)
  (hk:grW c (fun c=>stepsW P (⟨none,none,op⟩::r) K (upd e g (.bool c)) σ) (fun c=>stepsW P r K (upd e g (.bool c)) σ) b):
  stepsW P (⟨none,some (g,b),op⟩::r) K e σ:=by
 have he:=upd_same h
 show guardW (e g) b _ _
 rw[h]
 cases c<;>cases b<;>simp only[grW,←he] at hk<;>exact hk
theorem w_gu0 {K:(Nat→AV)→Sig→Prop} {e:Nat→AV} {σ:Sig} {g:Nat} {b:Bool} {op:IOp} {r:List IStep} (h:e g= .tup []) (hk:stepsW P r K e σ):
  stepsW P (⟨none,some (g,b),op⟩::r) K e σ:=by
 show guardW (e g) b _ _
 rw[h];exact hk
theorem g_hdn {A B:Bool→Prop} {p:Prop} [Decidable p] {b:Bool} (h:p) (hk:grW false A B b):grW (!decide p) A B b:=by rw[decide_eq_true h];exact hk
theorem g_hndn {A B:Bool→Prop} {p:Prop} [Decidable p] {b:Bool} (h:¬p) (hk:grW true A B b):grW (!decide p) A B b:=by rw[decide_eq_false h];exact hk
end Go.Abs
namespace Go.Abs
theorem b_nT {A B:Prop} (h:B):brW (!true) A B:=h
theorem b_nF {A B:Prop} (h:A):brW (!false) A B:=h
theorem g_nT {A B:Bool→Prop} {b:Bool} (h:grW false A B b):grW (!true) A B b:=h
theorem g_nF {A B:Bool→Prop} {b:Bool} (h:grW true A B b):grW (!false) A B b:=h
theorem w_alt {P:Program} {Q:Post} {e:Nat→AV} {σ:Sig} {a b:IR} (h1:awp P a Q e σ) (h2:awp P b Q e σ):awp P (.alt a b) Q e σ:=⟨h1,h2⟩
class Rd (g:Prop) (a:outParam Prop):Prop where
 p:a→g
class Rt (g:Prop) (p q a b:outParam Prop):Prop where
 p:(p→a)→(q→b)→g
section
variable {P:Program} {Q:Post} {K:(Nat→AV)→Sig→Prop} {e:Nat→AV} {σ:Sig}
instance {l:List IStep}:Rd (awp P (.ops l) Q e σ) (stepsW P l (Q .nor) e σ):=⟨w_ops⟩
instance:Rd (stepsW P [] K e σ) (K e σ):=⟨w_nil⟩
instance {a b:IR}:Rd (awp P (.seq a b) Q e σ) (awp P a (seqQ (awp P b Q) Q) e σ):=⟨w_seq⟩
instance:Rd (seqQ K Q .nor e σ) (K e σ):=⟨q_seq⟩
instance {i:Nat} {b:IR}:Rd (awp P (.blk i b) Q e σ) (awp P b (blkQ i Q) e σ):=⟨w_blk⟩
instance:Rd (awp P .ret Q e σ) (Q .ret e σ):=⟨w_ret⟩
instance:Rd (awp P .skip Q e σ) (Q .nor e σ):=⟨w_skip⟩
instance {i:Nat}:Rd (awp P (.exit i) Q e σ) (Q (.ex i) e σ):=⟨w_exit⟩
instance {b:IR}:Rd (awp P (.scope b) Q e σ) (awp P b Q e σ):=⟨w_scope⟩
instance {A B:Prop}:Rd (brW true A B) A:=⟨b_t⟩
instance {A B:Prop}:Rd (brW false A B) B:=⟨b_f⟩
instance {A B:Bool→Prop}:Rd (grW true A B true) (A true):=⟨g_tt⟩
instance {A B:Bool→Prop}:Rd (grW true A B false) (B true):=⟨g_tf⟩
instance {A B:Bool→Prop}:Rd (grW false A B true) (B false):=⟨g_ft⟩
instance {A B:Bool→Prop}:Rd (grW false A B false) (A false):=⟨g_ff⟩
instance {A B:Prop}:Rd (brW (!true) A B) B:=⟨b_nT⟩
instance {A B:Prop}:Rd (brW (!false) A B) A:=⟨b_nF⟩
instance {A B:Bool→Prop} {b:Bool}:Rd (grW (!true) A B b) (grW false A B b):=⟨g_nT⟩
instance {A B:Bool→Prop} {b:Bool}:Rd (grW (!false) A B b) (grW true A B b):=⟨g_nF⟩
instance {i:Nat}:Rd (seqQ K Q (.ex i) e σ) (Q (.ex i) e σ):=⟨q_seq_ex⟩
instance:Rd (seqQ K Q .ret e σ) (Q .ret e σ):=⟨q_seq_ret⟩
instance {i:Nat}:Rd (blkQ i Q .nor e σ) (Q .nor e σ):=⟨q_blk⟩
instance {i:Nat}:Rd (blkQ i Q .ret e σ) (Q .ret e σ):=⟨q_blk_ret⟩
instance {i:Nat}:Rd (blkQ i Q (.ex i) e σ) (Q .nor e σ):=⟨q_blk_same⟩
instance {α:Type} {kE kS:List Nat} {e0:Nat→AV} {σ0:Sig} {C:α→Prop} {μ:α→Nat} {F:α→List (Nat×AV)} {S:α→List (Nat×Nat×Res)} {n i:Nat}:Rd (loopK kE kS e0 σ0 C μ F S n Q (.ex i) e σ) (Q (.ex i) e σ):=⟨q_loop_ex⟩
instance {α:Type} {kE kS:List Nat} {e0:Nat→AV} {σ0:Sig} {C:α→Prop} {μ:α→Nat} {F:α→List (Nat×AV)} {S:α→List (Nat×Nat×Res)} {n:Nat}:Rd (loopK kE kS e0 σ0 C μ F S n Q .ret e σ) (Q .ret e σ):=⟨q_loop_ret⟩
instance {d:Nat} {v:AV}:Rd (contS e (some d) K v σ) (K (upd e d v) σ):=⟨w_cont⟩
instance {v:AV}:Rd (contS e none K v σ) (K e σ):=⟨w_cont0⟩
instance:Rd (asgQ K .nor e σ) (K e σ):=⟨q_asg⟩
instance {α β:Type} {kS:List Nat} {σ0:Sig} {C:List β→α→Prop} {S:α→List (Nat×(Nat×Res))} {rest:List β} {e0:Nat→AV}:Rd (rndK kS σ0 C S rest Q e0 .ret e σ) (Q .ret e0 σ):=⟨q_rnd_ret⟩
instance {α β:Type} {kS:List Nat} {σ0:Sig} {C:List β→α→Prop} {S:α→List (Nat×(Nat×Res))} {rest:List β} {e0:Nat→AV} {i:Nat}:Rd (rndK kS σ0 C S rest Q e0 (.ex i) e σ) (Q (.ex i) e0 σ):=⟨q_rnd_ex⟩
instance {A B p:Prop} [Decidable p]:Rt (brW (decide p) A B) p (¬p) A B:=⟨b_d⟩
instance {A B p:Prop} [Decidable p]:Rt (brW (!decide p) A B) (¬p) p A B:=⟨b_n⟩
instance {A B:Bool→Prop} {p:Prop} [Decidable p]:Rt (grW (decide p) A B true) p (¬p) (A true) (B false):=⟨g_dt⟩
instance {A B:Bool→Prop} {p:Prop} [Decidable p]:Rt (grW (decide p) A B false) p (¬p) (B true) (A false):=⟨g_df⟩
instance {A B:Bool→Prop} {p:Prop} [Decidable p]:Rt (grW (!decide p) A B true) (¬p) p (A true) (B false):=⟨g_nt⟩
instance {A B:Bool→Prop} {p:Prop} [Decidable p]:Rt (grW (!decide p) A B false) (¬p) p (B true) (A false):=⟨g_nf⟩
instance (priority:=low) {A B:Prop} {c:Bool}:Rt (brW (!c) A B) (c=false) (c=true) A B:=⟨b_nb⟩
instance (priority:=low) {A B:Bool→Prop} {c:Bool}:Rt (grW (!c) A B true) (c=false) (c=true) (A true) (B false):=⟨g_nbt⟩
instance (priority:=low) {A B:Bool→Prop} {c:Bool}:Rt (grW (!c) A B false) (c=false) (c=true) (B true) (A false):=⟨g_nbf⟩
instance (priority:=10) {A B:Prop} {c:Bool}:Rt (brW c A B) (c=true) (c=false) A B:=⟨b_b⟩
instance (priority:=10) {A B:Bool→Prop} {c:Bool}:Rt (grW c A B true) (c=true) (c=false) (A true) (B false):=⟨g_bt⟩
instance (priority:=10) {A B:Bool→Prop} {c:Bool}:Rt (grW c A B false) (c=true) (c=false) (B true) (A false):=⟨g_bf⟩
theorem sd {p:Prop} (h:p:=by ((repeat' (with_reducible (first|exact trivial | apply And.intro)))<;>first|(with_reducible rfl) | omega|(unfold inI;omega)|(exact Nat.le_of_ble_eq_true rfl)|(simp;done)|(simp;omega)|(simp at*;omega) | assumption|rfl)):p:=h
theorem zI {α:Type} {f:α→List AV} {l:List α} {d sz:Nat} {t:Tag} {x i:IOpd} {r:List IStep} {k:IntKind} {n:Int} (hk:∀y,l[n.toNat]?=some y→stepsW P r K (upd e d (.pin (f y))) σ) (hx:x.ev e= .slc sz (l.map f) t:=by with_unfolding_all exact rfl) (hi:i.ev e= .int k n:=by with_unfolding_all exact rfl) (h:0≤n∧n<l.length:=by with_unfolding_all exact sd):stepsW P (⟨some d,none,.ixA sz x i⟩::r) K e σ:=w_ixM hx hi h hk
theorem zL {α:Type} {f:α→List AV} {l:List α} {d sz:Nat} {t:Tag} {x:IOpd} {r:List IStep} (hk:stepsW P r K (upd e d (.int .i64 l.length)) σ) (hx:x.ev e= .slc sz (l.map f) t:=by with_unfolding_all exact rfl):stepsW P (⟨some d,none,.len false x⟩::r) K e σ:=w_lenM hx hk
theorem zS {α:Type} {f:α→List AV} {l:List α} {d sz:Nat} {t:Tag} {x:IOpd} {lo hi:Option IOpd} {a b:Int} {r:List IStep} (hk:stepsW P r K (upd e d (.slc sz (((l.drop a.toNat).take (b-a).toNat).map f) .non)) σ) (hx:x.ev e= .slc sz (l.map f) t:=by with_unfolding_all exact rfl) (ha:boundO e 0 lo=some a:=by with_unfolding_all exact rfl) (hb:boundO e l.length hi=some b:=by with_unfolding_all exact rfl) (h:0≤a∧a≤b∧b≤l.length:=by with_unfolding_all exact sd):stepsW P (⟨some d,none,.slS sz x lo hi none⟩::r) K e σ:=w_slM hx ha hb h hk
theorem zA {σ':Sig} {d sz bytes i:Nat} {x y:IOpd} {r:List IStep} {p q:Prop} {es ys zs:List (List AV)} (hk:∀g,stepsW P r K (upd e d (.slc sz zs (.own i g))) (newS σ' i g [])) (hx:baseO sz σ (x.ev e)=some (p,es,σ'):=by with_unfolding_all exact rfl) (hy:rowsO sz (y.ev e)=some (q,ys):=by with_unfolding_all exact rfl)
 (hz:es++ys=zs:=by with_unfolding_all (first|exact app_one (z:=Guest.mk _ _ _ _ _) rfl|exact app_one (z:=Dish.mk _ _ _) rfl|exact app_one (z:=Rule.mk _ _ _ _) rfl|exact app_one (z:=Bond.mk _ _ _) rfl|exact app_one rfl|exact app_map|exact app_nil|exact rfl)) (hp:p∧q:=by with_unfolding_all exact sd) (hb:zs.length*bytes≤140737488355328:=by with_unfolding_all exact sd):stepsW P (⟨some d,none,.app sz bytes x y i⟩::r) K e σ:=w_appS hx hy hz hp hb hk
theorem zV {d:Nat} {op:IOp} {r:List IStep} {p:Prop} {v:AV} (hk:stepsW P r K (upd e d v) σ) (h:valO op e σ=some (p,v):=by with_unfolding_all exact rfl) (hp:p:=by with_unfolding_all exact sd):stepsW P (⟨some d,none,op⟩::r) K e σ:=w_val h hp hk
theorem zC {c:IOpd} {a b:IR} {t:Bool} (hk:brW t (awp P a Q e σ) (awp P b Q e σ)) (h:c.ev e= .bool t:=by with_unfolding_all exact rfl):awp P (.cnd c a b) Q e σ:=w_c h hk
theorem zG {d g:Nat} {b c:Bool} {op:IOp} {r:List IStep} (hk:grW c (fun c=>stepsW P (⟨some d,none,op⟩::r) K (upd e g (.bool c)) σ) (fun c=>stepsW P r K (upd (upd e g (.bool c)) d (.tup [])) σ) b) (h:e g= .bool c:=by with_unfolding_all exact rfl):stepsW P (⟨some d,some (g,b),op⟩::r) K e σ:=w_g h hk
theorem zU {d g:Nat} {b:Bool} {op:IOp} {r:List IStep} (hk:stepsW P r K (upd e d (.tup [])) σ) (h:e g= .tup []:=by with_unfolding_all exact rfl):stepsW P (⟨some d,some (g,b),op⟩::r) K e σ:=w_gu h hk
theorem zG0 {g:Nat} {b c:Bool} {op:IOp} {r:List IStep} (hk:grW c (fun c=>stepsW P (⟨none,none,op⟩::r) K (upd e g (.bool c)) σ) (fun c=>stepsW P r K (upd e g (.bool c)) σ) b) (h:e g= .bool c:=by with_unfolding_all exact rfl):stepsW P (⟨none,some (g,b),op⟩::r) K e σ:=w_g0 h hk
theorem zU0 {g:Nat} {b:Bool} {op:IOp} {r:List IStep} (hk:stepsW P r K e σ) (h:e g= .tup []:=by with_unfolding_all exact rfl):stepsW P (⟨none,some (g,b),op⟩::r) K e σ:=w_gu0 h hk
theorem zF {d f:Nat} {args:List IOpd} {l:List AV} {r:List IStep} (hk:ACall P f l σ d (contS e (some d) (stepsW P r K))) (h:evO e args=some l:=by with_unfolding_all exact rfl):stepsW P (⟨some d,none,.callF f args⟩::r) K e σ:=w_call h hk
theorem zF0 {f:Nat} {args:List IOpd} {l:List AV} {r:List IStep} (hk:ACall P f l σ 0 (contS e none (stepsW P r K))) (h:evO e args=some l:=by with_unfolding_all exact rfl):stepsW P (⟨none,none,.callF f args⟩::r) K e σ:=w_call0 h hk
theorem zX {d f:Nat} {x:IOpd} {args:List IOpd} {l a b:List AV} {r:List IStep} (hk:ACall P f (a++l++b) σ d (contS e (some d) (stepsW P r K))) (hx:x.ev e= .clo (.func f) a b:=by with_unfolding_all exact rfl) (h:evO e args=some l:=by with_unfolding_all exact rfl):stepsW P (⟨some d,none,.callV x args⟩::r) K e σ:=w_callV hx h hk
theorem zX0 {f:Nat} {x:IOpd} {args:List IOpd} {l a b:List AV} {r:List IStep} (hk:ACall P f (a++l++b) σ 0 (contS e none (stepsW P r K))) (hx:x.ev e= .clo (.func f) a b:=by with_unfolding_all exact rfl) (h:evO e args=some l:=by with_unfolding_all exact rfl):stepsW P (⟨none,none,.callV x args⟩::r) K e σ:=w_callV0 hx h hk
theorem zD {d:Nat} {op:IOp} {r:List IStep} {p:Prop} {v:Nat→AV} {σ':Nat→Sig} (hk:∀g,stepsW P r K (upd e d (v g)) (σ' g)) (h:∀g,effO d op e σ g=some (p,v g,σ' g):=by with_unfolding_all exact fun _=>rfl) (hp:p:=by with_unfolding_all exact sd):stepsW P (⟨some d,none,op⟩::r) K e σ:=w_det h hp hk
theorem zD0 {op:IOp} {r:List IStep} {p:Prop} {v:AV} {σ':Sig} (hk:stepsW P r K e σ') (h:∀g,effO 0 op e σ g=some (p,v,σ'):=by with_unfolding_all exact fun _=>rfl) (hp:p:=by with_unfolding_all exact sd):stepsW P (⟨none,none,op⟩::r) K e σ:=w_det0 h hp hk
theorem zN {i j:Nat} (hk:Q (.ex j) e σ) (h:Nat.beq j i=false:=by with_unfolding_all exact rfl):blkQ i Q (.ex j) e σ:=q_blk_ne h hk
theorem z1 {A B p:Prop} [Decidable p] (hA:A) (hp:p:=by first | omega|with_reducible rfl):brW (decide p) A B:=b_dt hp hA
theorem z2 {A B p:Prop} [Decidable p] (hA:B) (hp:¬p:=by omega):brW (decide p) A B:=b_df hp hA
theorem z3 {A B p:Prop} [Decidable p] (hA:B) (hp:p:=by first | omega|with_reducible rfl):brW (!decide p) A B:=b_nt hp hA
theorem z4 {A B p:Prop} [Decidable p] (hA:A) (hp:¬p:=by omega):brW (!decide p) A B:=b_nf hp hA
theorem z5 {A B:Prop} {c:Bool} (hA:A) (h:c=true:=by assumption):brW c A B:=b_ht h hA
theorem z6 {A B:Prop} {c:Bool} (hA:B) (h:c=false:=by assumption):brW c A B:=b_hf h hA
theorem z7 {A B:Prop} {c:Bool} (hA:B) (h:c=true:=by assumption):brW (!c) A B:=b_hnt h hA
theorem z8 {A B:Prop} {c:Bool} (hA:A) (h:c=false:=by assumption):brW (!c) A B:=b_hnf h hA
theorem y1 {A B:Bool→Prop} {c b:Bool} (hk:grW true A B b) (h:c=true:=by assumption):grW c A B b:=g_ht h hk
theorem y2 {A B:Bool→Prop} {c b:Bool} (hk:grW false A B b) (h:c=false:=by assumption):grW c A B b:=g_hf h hk
theorem y3 {A B:Bool→Prop} {c b:Bool} (hk:grW false A B b) (h:c=true:=by assumption):grW (!c) A B b:=g_hnt h hk
theorem y4 {A B:Bool→Prop} {c b:Bool} (hk:grW true A B b) (h:c=false:=by assumption):grW (!c) A B b:=g_hnf h hk
theorem y5 {A B:Bool→Prop} {p:Prop} [Decidable p] {b:Bool} (hk:grW true A B b) (h:p:=by first | omega|with_reducible rfl):grW (decide p) A B b:=g_hd h hk
theorem y6 {A B:Bool→Prop} {p:Prop} [Decidable p] {b:Bool} (hk:grW false A B b) (h:¬p:=by omega):grW (decide p) A B b:=g_hnd h hk
theorem y7 {A B:Bool→Prop} {p:Prop} [Decidable p] {b:Bool} (hk:grW false A B b) (h:p:=by first | omega|with_reducible rfl):grW (!decide p) A B b:=g_hdn h hk
theorem y8 {A B:Bool→Prop} {p:Prop} [Decidable p] {b:Bool} (hk:grW true A B b) (h:¬p:=by omega):grW (!decide p) A B b:=g_hndn h hk
theorem zE {R:AV→Sig→Prop} {res:List (Nat×Option (Nat×Bool))} {p:Prop} {l:List AV} (hR:R (untag (tupV l)) σ) (h:resV e σ res=some (p,l):=by with_unfolding_all exact rfl) (hp:p:=by with_unfolding_all exact sd):EndS res (fun a s=>∃a',Sub a a'∧R a' s) .ret e σ:=q_ends h hp hR
theorem zE0 {R:AV→Sig→Prop} {res:List (Nat×Option (Nat×Bool))} {p:Prop} {l:List AV} (hR:R (untag (tupV l)) σ) (h:resV e σ res=some (p,l):=by with_unfolding_all exact rfl) (hp:p:=by with_unfolding_all exact sd):EndS res (fun a s=>∃a',Sub a a'∧R a' s) .nor e σ:=q_endn h hp hR
theorem zO {R:AV→Sig→Prop} {res:List (Nat×Option (Nat×Bool))} {p:Prop} {l:List AV} (hR:R (tupV l) σ) (h:resV e σ res=some (p,l):=by with_unfolding_all exact rfl) (hp:p:=by with_unfolding_all exact sd):EndS res (fun a s=>∃a',Sub a a'∧R a' s) .ret e σ:=q_endo h hp hR
theorem zQ {α:Type} {kE kS:List Nat} {e0:Nat→AV} {σ0:Sig} {C:α→Prop} {μ:α→Nat} {F:α→List (Nat×AV)} {S:α→List (Nat×Nat×Res)} {n:Nat} (y:α) (h1:C y) (h2:μ y<n) (h3:slots (F y) e:=by exact aS) (h4:slots (S y) σ:=by exact aS) (h5:kept kE e0 e:=by exact aK) (h6:kept kS σ0 σ:=by exact aK):loopK kE kS e0 σ0 C μ F S n Q .nor e σ:=q_loop y h1 h2 h3 h4 h5 h6
theorem zQi {d l:Nat} {x:IOpd} {args:List IOpd} {av y:List AV} {rest:List (List AV)} {r:List IStep} (hk:∀b,stepsW P r K (upd e d (.bool b)) (upd σ YS (0,.yld l (yNext rest b)))) (hx:x.ev e= .clo (.yield l) [] []:=by with_unfolding_all exact rfl) (h:evO e args=some av:=by with_unfolding_all exact rfl) (hσ:σ YS=(0,.yld l (some (y::rest))):=by with_unfolding_all exact rfl) (hy:stripL av=y:=by with_unfolding_all exact rfl):stepsW P (⟨some d,none,.callV x args⟩::r) K e σ:=w_yield hx h hσ hy hk
end
end Go.Abs
namespace Go.Abs
open Go.RowKit
variable {P:Program}
theorem add_plain (b o i:Nat):(⟨b,o,none⟩:Addr).add i=⟨b,o+i,none⟩:=by
 by_cases h0:i=0
 · subst h0;rfl
 · simp[Addr.add,h0]
theorem cells_get {w:World} {base b o n:Nat} {cs:List Value} (h:w.cells? base ⟨b,o,none⟩ n=some cs):cs.length=n∧ ∀i v,cs[i]?=some v→w.cell? ⟨b,o+i,none⟩=some v:=by
 unfold World.cells? at h
 split at h
 · have hl:=mapM_some_length h
   simp at hl
   refine⟨hl,fun i v hv=>?_⟩
   have hi:i<n:=by rw[←hl];exact (List.getElem?_eq_some_iff.1 hv).1
   have:=mapM_some_get h i i (by simp[hi])
   rw[add_plain] at this
   rw[this,hv]
 · cases h
theorem relRow_of {w:World} {b:Nat}:∀{row:List AV} {vs:List Value} {o:Nat},(∀i v,vs[i]?=some v→w.cell? ⟨b,o+i,none⟩=some v)→(∀v∈vs,v.oneCell'=true)→RelL (GS.pure (K0 w)) row vs→RelRow (GS.pure (K0 w)) b o row
 | [],_,_,_,_,_=>trivial
 | a::row,vs,o,h1,h2,h3=>by
   obtain⟨v,r,rfl,hv,hr⟩:=h3
   refine⟨⟨v,K0_get (by simpa using h1 0 v rfl) (h2 v (by simp)),h2 v (by simp),hv⟩,relRow_of (fun i u hu=>?_) (fun u hu=>h2 u (by simp[hu])) hr⟩
   have:=h1 (i+1) u (by simpa using hu)
   simpa[Nat.add_assoc,Nat.add_comm 1 i] using this
structure RowOf (P:Program) (e:TypeId) (sz:Nat) (α:Type) where
 row:α→List AV
 vals:α→List Value
 cells:P.cellsOf e=sz
 len:∀x,(row x).length=sz
 rel:∀x G,RelL G (row x) (vals x)
 one:∀x,∀v∈vals x,v.oneCell'=true
 read:∀{H:Type} {enc:TypeId×Value→H} {w:World} {base:Nat} {spare:Nat→Bool} {held:Bool} {fuel:Nat} {cs:List Value} {y:DataW H×List MemPlace},DataW.trod enc P w base spare held fuel e cs=some y→ ∃x,cs=vals x
theorem RowOf.rows {e:TypeId} {sz:Nat} {α:Type} (T:RowOf P e sz α) {w:World} {b:Nat}:∀{xs:List α} {o:Nat},(∀i x,xs[i]?=some x→ ∀j v,(T.vals x)[j]?=some v→w.cell? ⟨b,o+i*sz+j,none⟩=some v)→RelRows (GS.pure (K0 w)) b o sz (xs.map T.row)
 | [],_,_=>trivial
 | x::xs,o,h=>by
   refine⟨T.len x,relRow_of (fun i v hv=>by simpa using h 0 x rfl i v hv) (T.one x) (T.rel x _),T.rows fun i y hy j v hv=>?_⟩
   have:=h (i+1) y (by simpa using hy) j v hv
   rw[Nat.succ_mul] at this
   rw[←this];congr 2;omega
theorem RowOf.open {t e:TypeId} {sz:Nat} {α:Type} (T:RowOf P e sz α) {H:Type} {enc:TypeId×Value→H} {w:World} {base:Nat} {spare:Nat→Bool} {held:Bool} {fuel:Nat} {v:Value} {y:DataW H×List MemPlace} (ht:P.underlying t=some (.slice e)) (hv:∀a len cap,v= .slice (some a) len cap→a.spot=none)
  (h:DataW.trod enc P w base spare held fuel t [v]=some y):∃xs:List α,xs.length≤maxLen∧Rel (GS.pure (K0 w)) (.slc sz (xs.map T.row) .non) v:=by
 rcases DataW.trod_slice ht h with⟨hc,_⟩ | ⟨a,len,cap,elems,rest,n,_,hcs,_,_,hl,hm,hlen,hel,_⟩
 · obtain rfl:v= .slice none 0 0:=by simpa using hc
   exact⟨[],Nat.zero_le _,.inl ⟨.inl rfl,rfl⟩⟩
 · obtain rfl:v= .slice (some a) len cap:=by simpa using hcs
   have hs:=hv a len cap rfl
   obtain⟨b,o,sp⟩:=a
   dsimp only at hs;subst hs
   have each:∀i,i<len→ ∃x:α,w.cells? base ⟨b,o+i*sz,none⟩ sz=some (T.vals x):=by
    intro i hi
    have h1:=hel i hi
    rw[T.cells,add_plain] at h1
    have h2:elems[i]?=some elems[i]:=List.getElem?_eq_getElem (by omega)
    rw[h2,Option.bind_eq_some_iff] at h1
    obtain⟨cs,h3,h4⟩:=h1
    obtain⟨x,rfl⟩:=T.read h4
    exact⟨x,h3⟩
   let f:Fin len→α:=fun i=>Classical.choose (each i i.2)
   have hf:∀i:Fin len,w.cells? base ⟨b,o+i*sz,none⟩ sz=some (T.vals (f i)):=fun i=>Classical.choose_spec (each i i.2)
   have hlx:(List.ofFn f).length=len:=by simp
   refine⟨List.ofFn f,by rw[hlx];omega,.inr ⟨b,o,cap,by rw[List.length_map,hlx],by rw[List.length_map,hlx];exact hl,T.rows fun i x hx j u hu=>?_,trivial⟩⟩
   obtain⟨hi,hx⟩:=List.getElem?_eq_some_iff.1 hx
   rw[List.getElem_ofFn] at hx
   subst hx
   exact (cells_get (hf ⟨i,by simpa using hi⟩)).2 j u hu
theorem field_int {t:TypeId} {fs:Array Field} {H:Type} {enc:TypeId×Value→H} {w:World} {base:Nat} {spare:Nat→Bool} {held:Bool} {fuel:Nat} {cs:List Value} {y:DataW H×List MemPlace} (ht:P.underlying t=some (.struct fs)) (h:DataW.trod enc P w base spare held fuel t cs=some y) (i:Nat) (f:Field) {k:IntKind} (hf:fs[i]?=some f) (hk:P.underlying f.type=some (.int k)) (h1:P.cellsOf f.type=1):∃n,cs[f.offset]?=some (.int k n):=by
 obtain⟨xs,n,_,_,hl,hx,hfs⟩:=DataW.trod_struct ht h
 have hi:i<xs.length:=by rw[hx];exact (Array.getElem?_eq_some_iff.1 hf).1
 have:=hfs i f hf
 rw[List.getElem?_eq_getElem hi,h1] at this
 obtain⟨m,hm,_⟩:=DataW.trod_int hk this
 refine⟨m,?_⟩
 have:=congrArg (·[0]?) hm
 simpa[List.getElem?_take,List.getElem?_drop] using this
theorem field_str {t:TypeId} {fs:Array Field} {H:Type} {enc:TypeId×Value→H} {w:World} {base:Nat} {spare:Nat→Bool} {held:Bool} {fuel:Nat} {cs:List Value} {y:DataW H×List MemPlace} (ht:P.underlying t=some (.struct fs)) (h:DataW.trod enc P w base spare held fuel t cs=some y) (i:Nat) (f:Field) (hf:fs[i]?=some f) (hk:P.underlying f.type=some .string) (h1:P.cellsOf f.type=1):∃s,cs[f.offset]?=some (.string s):=by
 obtain⟨xs,n,_,_,hl,hx,hfs⟩:=DataW.trod_struct ht h
 have hi:i<xs.length:=by rw[hx];exact (Array.getElem?_eq_some_iff.1 hf).1
 have:=hfs i f hf
 rw[List.getElem?_eq_getElem hi,h1] at this
 obtain⟨m,hm,_⟩:=DataW.trod_string hk this
 refine⟨m,?_⟩
 have:=congrArg (·[0]?) hm
 simpa[List.getElem?_take,List.getElem?_drop] using this
end Go.Abs
namespace Go.Proofs.YtegfkfgkplnjgaaGreat
open Go.ChangeShapes Go.WideShapes Go.ChangeAt Go.RowKit Go.Abs
theorem walk_law {f:Nat} {args:List AV} (h:Fn0 Tryz.prog f args (fun v=>v= .bool true)) {w:World} {vals:List Value} (hr:RelL (GS.pure (K0 w)) args vals):
  Calls Tryz.prog f vals.toArray w fun e w'=>e= .returned (.bool true)∧Below w.heap.size w w':=
 (h.calls (K0_ok w) hr).mono fun e w' ⟨v,av,K',h1,h4,h5,h6⟩=>by
   subst h1;subst h5
   exact⟨by rw[show v= .bool true from h4],h6.below⟩
end Go.Proofs.YtegfkfgkplnjgaaGreat
namespace Go.Abs
open Go.Proofs
structure Wd where
 name:ByteArray
 fam:Int
 deriving DecidableEq
structure Dl where
 kind:Int
 bag:Int
 other:Int
 wood:Int
 count:Int
 deriving DecidableEq
structure Gm where
 ws:List Wd
 ds:List Dl
abbrev Wd.row (w:Wd):List AV:=[.str w.name,.int .i64 w.fam]
abbrev Dl.row (d:Dl):List AV:=[.int .i64 d.kind,.int .i64 d.bag,.int .i64 d.other,.int .i64 d.wood,.int .i64 d.count]
abbrev wR (l:List Wd):List (List AV):=l.map fun w=>[.str w.name,.int .i64 w.fam]
abbrev dlR (l:List Dl):List (List AV):=l.map fun d=>[.int .i64 d.kind,.int .i64 d.bag,.int .i64 d.other,.int .i64 d.wood,.int .i64 d.count]
abbrev gmA (g:Gm):AV:= .agg [.slc 2 (wR g.ws) .non,.slc 5 (dlR g.ds) .non]
def wsErr:List Wd→List Wd→Int
 | _,[]=>0
 | pre,w::post=>if namedB w.name=true then (if pre.any (fun x=>decide (x.name=w.name))=true then 9 else if inB w.fam 0 9=true then wsErr (pre++[w]) post else 2) else 3
structure Tb where
 bags:List Int
 mixed:Int
 cens:Int
 tried:List Bool
def tb0:Tb:=⟨[0,0,0,0],0,0,[false,false,false,false,false,false]⟩
def atI (l:List Int) (i:Int):Int:=l.getD i.toNat 0
def formD (d:Dl):Bool:=
 if d.kind=1∨d.kind=6 then decide (d.bag=0) && decide (d.other=0) && decide (d.count=0)
 else if d.kind=2 then decide (d.other=0)
 else if d.kind=3 then decide (d.wood=0) && decide (d.count=0)
 else decide (d.other=0) && decide (d.wood=0)
def trialE (n:Nat) (d:Dl) (t:Tb):Int:=if inB d.wood 0 (n-1)=true then (if t.tried.getD d.wood.toNat false=true then 9 else 0) else 7
def mixE (n:Nat) (d:Dl) (t:Tb):Int:=if inB d.bag 0 3=true then (if inB d.wood 0 (n-1)=true then (if inB d.count 1 12=true then (if 12<t.mixed+d.count then 8 else 0) else 2) else 7) else 2
def pourE (d:Dl):Int:=if inB d.bag 0 3=true∧inB d.other 0 3=true then (if d.bag=d.other then 12 else 0) else 2
def asideE (d:Dl) (t:Tb):Int:=if inB d.bag 0 3=true∧inB d.count 1 12=true then (if atI t.bags d.bag<d.count then 6 else 0) else 2
def passE (d:Dl) (t:Tb):Int:=if asideE d t=0 then (if 9<t.cens+d.count then 8 else 0) else asideE d t
def placeE (n:Nat) (d:Dl) (t:Tb):Int:=if inB d.wood 0 (n-1)=true then (if 9<t.cens+1 then 8 else 0) else 7
def dealE (n:Nat) (d:Dl) (t:Tb):Int:=
 if d.kind=1 then trialE n d t else if d.kind=2 then mixE n d t else if d.kind=3 then pourE d else if d.kind=4 then asideE d t else if d.kind=5 then passE d t else placeE n d t
def setI (l:List Int) (i v:Int):List Int:=l.set i.toNat v
def dealT (d:Dl) (t:Tb):Tb:=
 if d.kind=1 then {t with tried:=t.tried.set d.wood.toNat true }
 else if d.kind=2 then {t with mixed:=t.mixed+d.count,bags:=setI t.bags d.bag (atI t.bags d.bag+d.count) }
 else if d.kind=3 then {t with bags:=setI (setI t.bags d.other (atI t.bags d.other+atI t.bags d.bag)) d.bag 0 }
 else if d.kind=4 then {t with bags:=setI t.bags d.bag (atI t.bags d.bag-d.count) }
 else if d.kind=5 then {t with bags:=setI t.bags d.bag (atI t.bags d.bag-d.count),cens:=t.cens+d.count }
 else {t with cens:=t.cens+1 }
def dlErr (n:Nat) (d:Dl) (t:Tb):Int:=if inB d.kind 1 6=true then (if formD d=true then dealE n d t else 3) else 4
def dsErr (n:Nat):Tb→List Dl→Int
 | _,[]=>0
 | t,d::r=>if dlErr n d t=0 then dsErr n (dealT d t) r else dlErr n d t
def dsTab:Tb→List Dl→Tb
 | t,[]=>t
 | t,d::r=>dsTab (dealT d t) r
def gmErr (g:Gm):Int:=
 if g.ws=[] then 6 else if 6<g.ws.length then 8 else if wsErr [] g.ws=0 then (if 24<g.ds.length then 8 else if dsErr g.ws.length tb0 g.ds=0 then (if (dsTab tb0 g.ds).cens=0 then 6 else 0) else dsErr g.ws.length tb0 g.ds) else wsErr [] g.ws
def bgAt (B:List Int) (i j:Int):Int:=B.getD (i.toNat*6+j.toNat) 0
def bgAdd (B:List Int) (i j x:Int):List Int:=B.set (i.toNat*6+j.toNat) (bgAt B i j+x)
def bgPour (B:List Int) (i k:Int):List Int:=(List.range 24).map fun y=>if y/6=k.toNat then B.getD y 0+B.getD (i.toNat*6+y%6) 0 else if y/6=i.toNat then 0 else B.getD y 0
def mixedB (d:Dl) (B:List Int):List Int:=if d.kind=2 then bgAdd B d.bag d.wood d.count else if d.kind=3 then bgPour B d.bag d.other else B
def drawB (B:List Int) (i j:Int):List Int:=bgAdd B i j (-1)
def bg0:List Int:=List.replicate 24 0
def bgSum (B:List Int) (i:Int) (f:Int→Int):Int:=(List.range 6).foldr (fun (w:Nat) s=>f w+s) 0
def bgSize (B:List Int) (i:Int):Int:=bgSum B i fun w=>bgAt B i w
def drawsB (d:Dl):Bool:=decide (d.kind=4) || decide (d.kind=5)
def cnt:List Dl→List Int→List Int→Int
 | [],_,[]=>1
 | [],_,_::_=>0
 | d::r,B,c=>
   if d.kind=4 then bgSum B d.bag fun w=>bgAt B d.bag w*cnt r (drawB B d.bag w) c
   else if d.kind=5 then (match c with
    | []=>0
    | x::c=>if inB x 0 5=true then bgAt B d.bag x*cnt r (drawB B d.bag x) c else 0)
   else if d.kind=6 then (match c with
    | []=>0
    | x::c=>if x=d.wood then cnt r B c else 0)
   else cnt r (mixedB d B) c
def allL (n:Nat):Nat→List (List Int)
 | 0=>[[]]
 | k+1=>(List.range n).flatMap fun (w:Nat)=>(allL n k).map fun l=>(w:Int)::l
end Go.Abs
namespace Go.Proofs.YtegfkfgkplnjgaaGreat
open Go.ChangeShapes Go.WideShapes Go.ChangeAt Go.RowKit Go.Abs
theorem cells3g:Tryz.prog.cellsOf 3=1:=by kernel_rfl
theorem cells9g:Tryz.prog.cellsOf 9=1:=by kernel_rfl
theorem cellsWd:Tryz.prog.cellsOf 57=2:=by kernel_rfl
theorem cellsDl:Tryz.prog.cellsOf 67=5:=by kernel_rfl
theorem cellsWs:Tryz.prog.cellsOf 22=1:=by kernel_rfl
theorem cellsDs:Tryz.prog.cellsOf 23=1:=by kernel_rfl
theorem cellsG:Tryz.prog.cellsOf 25=2:=by kernel_rfl
theorem ctypesG:Tryz.prog.cellTypes Tryz.prog.depth 25=some [22,23]:=by kernel_rfl
theorem underWd:Tryz.prog.underlying 57=Tryz.prog.underlying 56:=by kernel_rfl
theorem underDl:Tryz.prog.underlying 67=Tryz.prog.underlying 66:=by kernel_rfl
theorem two2 {α:Type} {cs:List α} {a b:α} (hl:cs.length=2) (h0:cs[0]?=some a) (h1:cs[1]?=some b):cs=[a,b]:=by
 rcases cs with _ | ⟨x0,_ | ⟨x1,_ | ⟨x2,cs⟩⟩⟩<;>simp_all
theorem five5 {α:Type} {cs:List α} {a b c d f:α} (hl:cs.length=5) (h0:cs[0]?=some a) (h1:cs[1]?=some b) (h2:cs[2]?=some c) (h3:cs[3]?=some d) (h4:cs[4]?=some f):cs=[a,b,c,d,f]:=by
 rcases cs with _ | ⟨x0,_ | ⟨x1,_ | ⟨x2,_ | ⟨x3,_ | ⟨x4,_ | ⟨x5,cs⟩⟩⟩⟩⟩⟩<;>simp_all
def woodT:RowOf Tryz.prog 57 2 Wd where
 row:=fun w=>[.str w.name,.int .i64 w.fam]
 vals w:=[.string w.name,.int .i64 w.fam]
 cells:=cellsWd
 len _:=rfl
 rel _ _:=⟨_,_,rfl,rfl,_,_,rfl,rfl,rfl⟩
 one x v hv:=by simp only[List.mem_cons,List.not_mem_nil,or_false] at hv;rcases hv with rfl|rfl<;>rfl
 read {H enc w base spare held fuel cs y} h:=by
  have ht:=underWd.trans Tryz.underlying56
  have hl:cs.length=2:=by obtain⟨_,_,_,_,hl,_⟩:=DataW.trod_struct ht h;rw[hl,cellsWd]
  obtain⟨a0,h0⟩:=field_str ht h 0 _ rfl Tryz.underlying9 cells9g
  obtain⟨a1,h1⟩:=field_int ht h 1 _ rfl Tryz.underlying3 cells3g
  exact⟨⟨a0,a1⟩,two2 hl h0 h1⟩
def dealT2:RowOf Tryz.prog 67 5 Dl where
 row:=fun d=>[.int .i64 d.kind,.int .i64 d.bag,.int .i64 d.other,.int .i64 d.wood,.int .i64 d.count]
 vals d:=[.int .i64 d.kind,.int .i64 d.bag,.int .i64 d.other,.int .i64 d.wood,.int .i64 d.count]
 cells:=cellsDl
 len _:=rfl
 rel _ _:=⟨_,_,rfl,rfl,_,_,rfl,rfl,_,_,rfl,rfl,_,_,rfl,rfl,_,_,rfl,rfl,rfl⟩
 one x v hv:=by simp only[List.mem_cons,List.not_mem_nil,or_false] at hv;rcases hv with rfl|rfl|rfl|rfl|rfl<;>rfl
 read {H enc w base spare held fuel cs y} h:=by
  have ht:=underDl.trans Tryz.underlying66
  have hl:cs.length=5:=by obtain⟨_,_,_,_,hl,_⟩:=DataW.trod_struct ht h;rw[hl,cellsDl]
  obtain⟨a0,h0⟩:=field_int ht h 0 _ rfl Tryz.underlying3 cells3g
  obtain⟨a1,h1⟩:=field_int ht h 1 _ rfl Tryz.underlying3 cells3g
  obtain⟨a2,h2⟩:=field_int ht h 2 _ rfl Tryz.underlying3 cells3g
  obtain⟨a3,h3⟩:=field_int ht h 3 _ rfl Tryz.underlying3 cells3g
  obtain⟨a4,h4⟩:=field_int ht h 4 _ rfl Tryz.underlying3 cells3g
  exact⟨⟨a0,a1,a2,a3,a4⟩,five5 hl h0 h1 h2 h3 h4⟩
theorem spot_cell {t e:TypeId} {W:World} {base:Nat} {v:Value} (ht:Tryz.prog.underlying t=some (.slice e)) (hv:Cell.okWide Tryz.prog W .any base t v):∀a len cap,v= .slice (some a) len cap→a.spot=none:=by
 intro a len cap h;subst h
 simp only[ht,Cell.okWide,Cell.ok] at hv
 exact hv.2.2.2.1
theorem open_party {H:Type} {enc:TypeId×Value→H} {W:World} {base:Nat} {v:Value} {d:DataW H} {ps:List MemPlace} (hv:Value.okWide Tryz.prog W .any base 25 v) (h:DataW.Trod enc Tryz.prog W 0 (fun _=>true) true 25 v d ps):
  ∃(gs:List Wd) (rs:List Dl),gs.length≤maxLen∧rs.length≤maxLen∧Rel (GS.pure (K0 W)) (gmA ⟨gs,rs⟩) v:=by
 obtain⟨fuel,hf⟩:=h
 simp only[Value.okWide,Tryz.underlying25] at hv
 obtain⟨cs,rfl,hsz,ts,hts,_,hc⟩:=hv
 rw[ctypesG] at hts;cases hts
 obtain⟨xs,n,_,_,hl,hx,hfs⟩:=DataW.trod_struct Tryz.underlying25 hf
 rw[cellsG] at hl hsz
 have hcl:(Value.agg cs).cells.toList=cs.toList:=rfl
 rw[hcl] at hl hfs
 obtain⟨v0,v1,hcs⟩:∃v0 v1,cs.toList=[v0,v1]:=by
  generalize cs.toList=l at hl
  rcases l with _ | ⟨x0,_ | ⟨x1,_ | ⟨x2,l⟩⟩⟩
  · simp at hl
  · simp at hl
  · exact⟨_,_,rfl⟩
  · simp at hl
 have e0:cs[0]?=some v0:=by rw[←Array.getElem?_toList,hcs];rfl
 have e1:cs[1]?=some v1:=by rw[←Array.getElem?_toList,hcs];rfl
 have hxl:xs.length=2:=hx
 obtain⟨u0,hu0,o0⟩:=hc 0 v0 e0
 cases hu0
 obtain⟨u1,hu1,o1⟩:=hc 1 v1 e1
 cases hu1
 have f0:DataW.trod enc Tryz.prog W 0 (fun _=>true) true n 22 (List.take (Tryz.prog.cellsOf 22) (List.drop 0 cs.toList))=xs[0]?:=hfs 0 _ rfl
 have f1:DataW.trod enc Tryz.prog W 0 (fun _=>true) true n 23 (List.take (Tryz.prog.cellsOf 23) (List.drop 1 cs.toList))=xs[1]?:=hfs 1 _ rfl
 rw[List.getElem?_eq_getElem (by omega),hcs] at f0 f1
 rw[cellsWs] at f0
 rw[cellsDs] at f1
 obtain⟨gs,hg,rg⟩:=woodT.open Tryz.underlying22 (spot_cell Tryz.underlying22 o0) f0
 obtain⟨rs,hr,rr⟩:=dealT2.open Tryz.underlying23 (spot_cell Tryz.underlying23 o1) f1
 exact⟨gs,rs,hg,hr,cs,rfl,by rw[hcs];exact⟨_,_,rfl,rg,_,_,rfl,rr,rfl⟩⟩
end Go.Proofs.YtegfkfgkplnjgaaGreat
namespace Go.Abs
open Go.Proofs
def ir108:IFn:=
 ⟨19,[(4,none)],(.seq (.ops [oo 4 (.mov (kI 0))])
 (.seq (.seq (.ops [oo 6 (.mov 0),oo 7 (.len false 6),oo 8 (.mov (kI 0))])
 (.blk 0 (.loop (.seq (.ops [oo 9 (.bin .lss 8 7)])
 (.seq (.cnd 9
 .skip
 (.exit 0))
 (.seq (.blk 1 (.seq (.ops [oo 10 (.mov 8),oo 5 (.mov 10)])
 (.seq (.ops [oo 11 (.mov 1),oo 12 (.mov 0),oo 13 (.mov 5),oo 14 (.ixA 1 12 13),oo 15 (.ld 1 false 14),oo 16 (.bin .eql 11 15)])
 (.cnd 16
 (.seq (.ops [oo 17 (.mov 5),oo 4 (.mov 17)])
 .ret)
 .skip))))
 (.ops [oo 18 (.bin .add 8 (kI 1)),oo 8 (.mov 18)])))))))
 (.seq (.ops [oo 4 (.mov (.k (.int .i64 (-1))))])
 .ret)))⟩
def hint108 (P:Program):Hint:={}
def ir79:IFn:=
 ⟨9,[(4,none)],(.seq (.ops [oo 4 (.mov (kB false))])
 (.seq (.ops [oo 5 (.mov 0),oo 6 (.mov 1),oo 7 (.callF 108 [5,6]),oo 8 (.bin .geq 7 (kI 0)),oo 4 (.mov 8)])
 .ret))⟩
def hint79 (P:Program):Hint:={}
def idxF' (g:Int):Nat→List Int→Int
 | _,[]=> -1
 | s,x::r=>if x=g then s else idxF' g (s+1) r
abbrev idxI (l:List Int) (g:Int):Int:=idxF' g 0 l
theorem index_c (l:List Int) (g:Int) (hl:l.length<1000000):Fn0 Tryz.prog 108 [.slc 1 (iR l) .non,.int .i64 g] (fun v=>v= .int .i64 (idxI l g)):=by
 refine RawC.walk (H:=hint108 Tryz.prog) ir108 Tryz.func108 rfl rfl rfl ?_
 unfold ir108
 repeat' (first
  | with_reducible refine Rd.p ?_
  | with_reducible (first|refine zI fun y hy=>?_|refine zL ?_|refine zS ?_|refine zV ?_|refine zC ?_)
  | refine aX ?_|with_reducible intro _
  | with_reducible refine zJ ?_ fun y hy=>?_|refine aP ?_ ?_)
 refine w_loopK [0,1,7] [] (fun x:List Int×List Int=>l=x.1++x.2∧idxI l g=idxF' g x.1.length x.2) (fun x=>x.2.length) (fun x=>[(8,.int .i64 x.1.length)]) (fun _=>[]) ([],l) ⟨rfl,rfl⟩ ⟨rfl,trivial⟩ trivial ?_
 rintro⟨pre,post⟩ ⟨hl,hb⟩ e σ
 dsimp only at hl hb ⊢
 have hlen:=congrArg List.length hl
 cases post with
 | nil=>
   simp only[List.append_nil,List.length_append,List.length_nil] at hlen
   repeat' (first
    | with_reducible refine Rd.p ?_
    | with_reducible (first|refine zI fun y hy=>?_|refine zL ?_|refine zS ?_|refine zV ?_|refine zC ?_)
    | refine aX ?_|with_reducible intro _
    | with_reducible refine zJ ?_ fun y hy=>?_|refine aP ?_ ?_)
   rw[hb];rfl
 | cons x post=>
   simp only[List.length_append,List.length_cons] at hlen
   simp only[idxF'] at hb
   repeat' (first
    | with_reducible refine Rd.p ?_
    | (refine w_ixP hl rfl rfl ?_)
    | with_reducible (first|refine zI fun y hy=>?_|refine zL ?_|refine zS ?_|refine zV ?_|refine zC ?_)
    | refine aX ?_|with_reducible intro _
    | with_reducible refine zJ ?_ fun y hy=>?_|refine aP ?_ ?_)
   · rename_i h
     rw[if_pos h.symm] at hb
     rw[hb];rfl
   · rename_i h
     rw[if_neg (fun h'=>h h'.symm)] at hb
     refine zQ (pre++[x],post) ?_ ?_
     · exact⟨by rw[hl];simp,by rw[hb,len_snoc]⟩
     · simp
theorem contains_c (l:List Int) (g:Int) (hl:l.length<1000000):Fn0 Tryz.prog 79 [.slc 1 (iR l) .non,.int .i64 g] (fun v=>v= .bool (decide (0≤idxI l g))):=by
 refine RawC.walk (H:=hint79 Tryz.prog) ir79 Tryz.func79 rfl rfl rfl ?_
 unfold ir79
 repeat' (first
  | with_reducible refine Rd.p ?_
  | with_reducible (first|refine zL ?_|refine zS ?_|refine zV ?_|refine zC ?_)
  | ((with_reducible refine aC ?_);first|(refine ACall.val (index_c l g hl) rfl rfl ?_))
  | refine aX ?_|with_reducible intro _
  | refine aP ?_ ?_)
 rfl
def ir18:IFn:=
 ⟨26,[(4,none)],(.seq (.ops [oo 4 (.mov (kB false))])
 (.seq (.seq (.ops [oo 6 (.mov 0),oo 7 (.len false 6),oo 8 (.mov 1),oo 9 (.len false 8),oo 10 (.bin .neq 7 9)])
 (.cnd 10
 (.seq (.ops [oo 4 (.mov (kB false))])
 .ret)
 .skip))
 (.seq (.seq (.ops [oo 5 (.mov (kI 0))])
 (.blk 0 (.loop (.seq (.seq (.ops [oo 11 (.mov 5),oo 12 (.mov 0),oo 13 (.len false 12),oo 14 (.bin .lss 11 13)])
 (.cnd 14
 .skip
 (.exit 0)))
 (.seq (.blk 1 (.seq (.ops [oo 17 (.mov 0),oo 18 (.mov 5),oo 19 (.ixA 1 17 18),oo 20 (.ld 1 false 19),oo 21 (.mov 1),oo 22 (.mov 5),oo 23 (.ixA 1 21 22),oo 24 (.ld 1 false 23),oo 25 (.bin .neq 20 24)])
 (.cnd 25
 (.seq (.ops [oo 4 (.mov (kB false))])
 .ret)
 .skip)))
 (.ops [oo 15 (.mov 5),oo 16 (.bin .add 15 (kI 1)),oo 5 (.mov 16)]))))))
 (.seq (.ops [oo 4 (.mov (kB true))])
 .ret))))⟩
def hint18 (P:Program):Hint:={}
def ir80:IFn:=
 ⟨8,[(2,none)],(.seq (.ops [oo 2 (.nil 1 2)])
 (.seq (.seq (.ops [oo 3 (.mov 0),oo 4 (.eqn .slice false 3 (.k .nsl))])
 (.cnd 4
 (.seq (.ops [oo 2 (.nil 1 2)])
 .ret)
 .skip))
 (.seq (.ops [oo 5 (.bsl 1 [] []),oo 6 (.mov 0),oo 7 (.app 1 8 5 6 2),oo 2 (.mov 7)])
 .ret)))⟩
def hint80 (P:Program):Hint:={site:=[(7,2)],nils:=[(2,1)],frz:=[],mve:=[],wr:=[] }
theorem eq_c (a b:List Int) (h:a.length<2^62):Fn0 Tryz.prog 18 [.slc 1 (iR a) .non,.slc 1 (iR b) .non] (fun v=>v= .bool (decide (a=b))):=by
 refine RawC.walk (H:=hint18 Tryz.prog) ir18 Tryz.func18 rfl rfl rfl ?_
 unfold ir18
 repeat' (first
  | with_reducible refine Rd.p ?_
  | with_reducible (first|refine zI fun y hy=>?_|refine zL ?_|refine zS ?_|refine zV ?_|refine zC ?_)
  | refine aX ?_|with_reducible intro _
  | with_reducible refine zJ ?_ fun y hy=>?_|refine aP ?_ ?_)
 · rename_i h1
   exact congrArg AV.bool (by simp;intro h;rw[h] at h1;exact h1 rfl)
 rename_i h1
 refine w_loopK [0,1] [] (fun x:List Int×List Int×List Int=>a=x.1++x.2.1∧b=x.1++x.2.2∧x.2.1.length=x.2.2.length) (fun x=>x.2.1.length) (fun x=>[(5,.int .i64 x.1.length)]) (fun _=>[]) ([],a,b) ⟨rfl,rfl,by dsimp only;omega⟩ ⟨rfl,trivial⟩ trivial ?_
 rintro⟨pre,pa,pb⟩ ⟨ha,hb,hl⟩ e σ
 dsimp only at ha hb hl ⊢
 have hlen:=congrArg List.length ha
 cases pa with
 | nil=>
   cases pb with
   | cons _ _=>simp at hl
   | nil=>
     simp only[List.append_nil,List.length_append,List.length_nil] at hlen
     repeat' (first
      | with_reducible refine Rd.p ?_
      | with_reducible (first|refine zI fun y hy=>?_|refine zL ?_|refine zS ?_|refine zV ?_|refine zC ?_)
      | refine aX ?_|with_reducible intro _
      | with_reducible refine zJ ?_ fun y hy=>?_|refine aP ?_ ?_)
     exact congrArg AV.bool (by simp[ha,hb])
 | cons x pa=>
   cases pb with
   | nil=>simp at hl
   | cons y pb=>
     simp only[List.length_append,List.length_cons] at hlen
     repeat' (first
      | with_reducible refine Rd.p ?_
      | (first|refine w_ixP ha rfl rfl ?_|refine w_ixP hb rfl rfl ?_)
      | with_reducible (first|refine zI fun y hy=>?_|refine zL ?_|refine zS ?_|refine zV ?_|refine zC ?_)
      | refine aX ?_|with_reducible intro _
      | with_reducible refine zJ ?_ fun y hy=>?_|refine aP ?_ ?_)
     · rename_i h2
       exact congrArg AV.bool (by simp[ha,hb];intro h;exact absurd h h2)
     · rename_i h2
       obtain rfl:=Decidable.not_not.1 h2
       refine zQ (pre++[x],pa,pb) ?_ ?_
       · exact⟨by rw[ha];simp,by rw[hb];simp,by simpa using hl⟩
       · simp
theorem clone_c (l:List Int) (a:AV) (ha:NowV a l) (h:l.length<2^40):Fn0 Tryz.prog 80 [a] (fun v=>v= .slc 1 (iR l) .non):=by
 rcases ha with⟨rfl,rfl⟩ | ⟨rfl,hne⟩
 · refine RawC.walk (H:=hint80 Tryz.prog) ir80 Tryz.func80 rfl rfl rfl ?_
   unfold ir80
   repeat' (first
    | with_reducible refine Rd.p ?_
    | with_reducible (first|refine zL ?_|refine zS ?_|refine zV ?_|refine zC ?_)
    | refine aX ?_|with_reducible intro _
    | refine aP ?_ ?_)
   exact rfl
 · have hne':(iR l)≠[]:=by simpa using hne
   have hL:(iR l).length=l.length:=by simp
   refine RawC.walk (H:=hint80 Tryz.prog) ir80 Tryz.func80 rfl rfl rfl ?_
   unfold ir80
   repeat' (first
    | with_reducible refine Rd.p ?_
    | with_reducible (first|refine zL ?_|refine zS ?_|refine zV ?_|refine zC ?_)
    | refine aX ?_|with_reducible intro _
    | refine aP ?_ ?_)
   exact rfl
theorem cloneO_c (l:List Int) (a:AV) (ha:NowV a l) (h:l.length<2^40):RawC Tryz.prog 80 [a] (sg []) (SR (fun g:Nat=>fun v=>v= .slc 1 (iR l) (.own 2 g)) (fun g=>[(2,(g,.row []))])):=by
 rcases ha with⟨rfl,rfl⟩ | ⟨rfl,hne⟩
 · refine RawC.walk (H:=hint80 Tryz.prog) ir80 Tryz.func80 rfl rfl rfl ?_
   unfold ir80
   repeat' (first
    | with_reducible (first|refine Rd.p ?_|refine w_alt ?_ ?_|refine zO ?_|refine zE0 ?_)
    | with_reducible (first|refine zL ?_|refine zS ?_|refine zV ?_|refine zC ?_)
    | refine aX ?_|with_reducible intro _
    | refine aP ?_ ?_)
   exact⟨_,rfl,rfl,trivial⟩
 · have hne':(iR l)≠[]:=by simpa using hne
   have hL:(iR l).length=l.length:=by simp
   refine RawC.walk (H:=hint80 Tryz.prog) ir80 Tryz.func80 rfl rfl rfl ?_
   unfold ir80
   repeat' (first
    | with_reducible (first|refine Rd.p ?_|refine w_alt ?_ ?_|refine zO ?_|refine zE0 ?_)
    | with_reducible (first|refine zL ?_|refine zS ?_|refine zV ?_|refine zC ?_)
    | refine aX ?_|with_reducible intro _
    | refine aP ?_ ?_)
   exact⟨_,rfl,rfl,trivial⟩
section
variable {P:Program}
theorem ACall.liftYS {f:Nat} {args0 args:List AV} {l0:List (Nat×(Nat×Res))} {σ:Sig} {α:Type} {V:α→AV→Prop} {L:α→List (Nat×(Nat×Res))} {d:Nat} {Q:AV→Sig→Prop} (h:RawC P f args0 (sg l0) (SR V L)) (ρi:List (Nat×Nat)) (s:Option Nat) (hr:renOK (outs d s++ρi)=true)
  {l:Nat} {xs:Option (List (List AV))} (hy:σ YS=(0,.yld l xs)) (ha:args0=renL (flipL ρi) args) (h0:l0=pull (flipL ρi) σ ρi++[(YS,(0,.yld l xs))]) (hl:liveL σ ρi) (hc:∀x,covers (L x) (outs d s++ρi)=true)
  (Y':α→Nat×Res) (hcy:∀x,lkS YS (L x)=some (Y' x)) (hQ:∀x av,V x av→Q (ren (outs d s++ρi) av) (pushV (outs d s++ρi) (L x) (outs d s++ρi) (upd σ YS (Y' x)))):ACall P f args σ d Q:=
 ACall.liftY h ρi s hr hy ha h0 hl fun av σ0' ⟨x,hV,hs⟩=>by rw[lkS_slots hs (hcy x),push_slots hs (hc x)];exact hQ x av hV
end
end Go.Abs
namespace Go.Abs
theorem nodup_len:∀(n:Nat) (l:List Int),l.Nodup→(∀x∈l,0≤x∧x<n)→l.length≤n
 | 0,l,_,h=>by
   cases l with
   | nil=>simp
   | cons x l=>have:=h x (by simp);omega
 | n+1,l,hn,h=>by
   by_cases hm:(n:Int)∈l
   · have h1:=nodup_len n (l.erase (n:Int)) (hn.erase _) fun x hx=>by
      have h2:=(hn.mem_erase_iff).1 hx
      have h3:=h x h2.2
      have:=h2.1
      omega
     have:=List.length_erase_of_mem hm
     omega
   · have h1:=nodup_len n l hn fun x hx=>by
      have h3:=h x hx
      have:x≠n:=fun e=>hm (e▸hx)
      omega
     omega
structure isPerm (n:Nat) (l:List Int):Prop where
 len:l.length=n
 nd:l.Nodup
 bd:∀x∈l,0≤x∧x<n
theorem isPerm.all {n:Nat} {l:List Int} (h:isPerm n l) {g:Int} (hg:0≤g∧g<n):g∈l:=by
 refine Decidable.byContradiction fun hc=>?_
 have:=nodup_len n (g::l) (List.nodup_cons.2 ⟨hc,h.nd⟩) fun x hx=>by
  rcases List.mem_cons.1 hx with rfl | hx
  · exact hg
  · exact h.bd x hx
 have h2:=h.len
 simp at this;omega
end Go.Abs
namespace Go.Abs
section
variable {P:Program}
theorem w_ldI {K:(Nat→AV)→Sig→Prop} {e:Nat→AV} {σ:Sig} {x:IOpd} {d:Nat} {r:List IStep} {i g off:Nat} {xs:List Int} (hx:x.ev e= .ref i g off) (hσ:σ i=(g,.row (xs.map (AV.int .i64)))) (ho:off<xs.length)
  (hk:stepsW P r K (upd e d (.int .i64 (xs.getD off 0))) σ):stepsW P (⟨some d,none,.ld 1 false x⟩::r) K e σ:=by
 refine w_val (p:=g=g∧True) (v:= .int .i64 (xs.getD off 0)) ?_ ⟨rfl,trivial⟩ hk
 show ldO 1 false σ (x.ev e)=_
 rw[hx]
 simp only[ldO,hσ,partO,List.getElem?_map,List.getElem?_eq_getElem ho,Option.map_some,List.getD_eq_getElem?_getD,Option.getD_some]
 rfl
end
end Go.Abs
namespace Go.Abs
open Go.Proofs
variable {P:Program}
theorem w_ldAt {K:(Nat→AV)→Sig→Prop} {e:Nat→AV} {σ:Sig} {x:IOpd} {d:Nat} {r:List IStep} {i g off:Nat} {c:List AV} {v:AV} (hx:x.ev e= .ref i g off) (hσ:σ i=(g,.row c)) (hc:c[off]?=some v) (hv:forceA v=some v)
  (hk:stepsW P r K (upd e d v) σ):stepsW P (⟨some d,none,.ld 1 false x⟩::r) K e σ:=by
 refine w_val (p:=g=g∧True) (v:=v) ?_ ⟨rfl,trivial⟩ hk
 show ldO 1 false σ (x.ev e)=_
 rw[hx]
 simp only[ldO,hσ,partO,hc,hv,liftV,okV]
def ir54:IFn:=
 ⟨15,[(6,none)],(.seq (.ops [oo 6 (.mov (kB false))])
 (.seq (.ops [oo 7 (.mov 1),oo 8 (.mov 0),oo 9 (.bin .leq 7 8),oo 10 (.mov 9),
 ⟨(some 11),(some (10,true)),(.mov 0)⟩,
 ⟨(some 12),(some (10,true)),(.mov 2)⟩,
 ⟨(some 13),(some (10,true)),(.bin .leq 11 12)⟩,oo 14 (.pick 10 13 (kB false)),oo 6 (.mov 14)])
 .ret))⟩
def hint54 (P:Program):Hint:={}
def ir67:IFn:=
 ⟨22,[(2,none)],(.seq (.ops [oo 2 (.mov (kB false))])
 (.seq (.seq (.ops [oo 5 (.mov 0),oo 6 (.cvSB 5),oo 7 (.len false 6),oo 8 (.mov (kI 0))])
 (.blk 0 (.loop (.seq (.ops [oo 9 (.bin .lss 8 7)])
 (.seq (.cnd 9
 .skip
 (.exit 0))
 (.seq (.blk 1 (.seq (.ops [oo 10 (.ixA 1 6 8),oo 11 (.ld 1 false 10),oo 4 (.mov 11)])
 (.seq (.ops [oo 12 (.mov 4),oo 13 (.bin .lss 12 (.k (.int .u8 97))),oo 14 (.mov 13),
 ⟨(some 15),(some (14,false)),(.mov 4)⟩,
 ⟨(some 16),(some (14,false)),(.bin .gtr 15 (.k (.int .u8 122)))⟩,oo 17 (.pick 14 (kB true) 16)])
 (.cnd 17
 (.seq (.ops [oo 2 (.mov (kB false))])
 .ret)
 .skip))))
 (.ops [oo 18 (.bin .add 8 (kI 1)),oo 8 (.mov 18)])))))))
 (.seq (.ops [oo 19 (.mov 0),oo 20 (.len true 19),oo 21 (.callF 54 [20,(kI 1),(kI 8)]),oo 2 (.mov 21)])
 .ret)))⟩
def hint67 (P:Program):Hint:={}
def ir69:IFn:=
 ⟨29,[(2,none)],(.seq (.ops [oo 1 (.box 5 0),oo 2 (.mov (kB false))])
 (.seq (.ops [oo 4 (.ld 5 true 1),oo 3 (.new [(.int .i64 0),(.int .i64 0),(.int .i64 0),(.int .i64 0),(.int .i64 0)]),
 ⟨none,none,(.st 5 3 4)⟩])
 (.seq (.ops [oo 5 (.flA 0 3),
 ⟨none,none,(.st 1 5 (kI 0))⟩])
 (.seq (.seq (.ops [oo 6 (.flA 0 1),oo 7 (.ld 1 false 6)])
 (.blk 0 (.seq (.seq (.ops [oo 9 (.bin .eql 7 (kI 1)),oo 8 (.mov 9)])
 (.cnd 8
 .skip
 (.ops [oo 10 (.bin .eql 7 (kI 6)),oo 8 (.mov 10)])))
 (.cnd 8
 (.ops [oo 11 (.flA 3 3),
 ⟨none,none,(.st 1 11 (kI 0))⟩])
 (.seq (.ops [oo 13 (.bin .eql 7 (kI 2)),oo 12 (.mov 13)])
 (.cnd 12
 (.ops [oo 14 (.flA 1 3),
 ⟨none,none,(.st 1 14 (kI 0))⟩,oo 15 (.flA 3 3),
 ⟨none,none,(.st 1 15 (kI 0))⟩,oo 16 (.flA 4 3),
 ⟨none,none,(.st 1 16 (kI 0))⟩])
 (.seq (.ops [oo 18 (.bin .eql 7 (kI 3)),oo 17 (.mov 18)])
 (.cnd 17
 (.ops [oo 19 (.flA 1 3),
 ⟨none,none,(.st 1 19 (kI 0))⟩,oo 20 (.flA 2 3),
 ⟨none,none,(.st 1 20 (kI 0))⟩])
 (.seq (.seq (.ops [oo 22 (.bin .eql 7 (kI 4)),oo 21 (.mov 22)])
 (.cnd 21
 .skip
 (.ops [oo 23 (.bin .eql 7 (kI 5)),oo 21 (.mov 23)])))
 (.cnd 21
 (.ops [oo 24 (.flA 1 3),
 ⟨none,none,(.st 1 24 (kI 0))⟩,oo 25 (.flA 4 3),
 ⟨none,none,(.st 1 25 (kI 0))⟩])
 .skip))))))))))
 (.seq (.ops [oo 26 (.ld 5 true 3),oo 27 (.bld [(.int .i64 0),(.int .i64 0),(.int .i64 0),(.int .i64 0),(.int .i64 0)] []),oo 28 (.eqn (.flat [.i,.i,.i,.i,.i]) false 26 27),oo 2 (.mov 28)])
 .ret)))))⟩
def hint69 (P:Program):Hint:={}
def ir114:IFn:=
 ⟨14,[(4,none)],(.seq (.ops [oo 3 (.box 5 1),oo 4 (.mov (kI 0))])
 (.seq (.seq (.ops [oo 5 (.flA 3 3),oo 6 (.ld 1 false 5),oo 7 (.mov 0),oo 8 (.nck 7),oo 9 (.flA 0 8),oo 10 (.ld 1 false 9),oo 11 (.bin .sub 10 (kI 1)),oo 12 (.callF 54 [6,(kI 0),11]),oo 13 (.not 12)])
 (.cnd 13
 (.seq (.ops [oo 4 (.mov (kI 7))])
 .ret)
 .skip))
 (.seq (.ops [oo 4 (.mov (kI 0))])
 .ret)))⟩
def hint114 (P:Program):Hint:={}
def ir115:IFn:=
 ⟨18,[(4,none)],(.seq (.ops [oo 4 (.mov (kI 0))])
 (.seq (.seq (.ops [oo 5 (.mov 0),oo 6 (.nck 5),oo 7 (.flA 2 6),oo 8 (.ld 1 false 7),oo 9 (.mov 1),oo 10 (.bin .add 8 9),oo 11 (.nck 5),oo 12 (.flA 2 11),
 ⟨none,none,(.st 1 12 10)⟩])
 (.seq (.ops [oo 13 (.mov 0),oo 14 (.nck 13),oo 15 (.flA 2 14),oo 16 (.ld 1 false 15),oo 17 (.bin .gtr 16 (kI 9))])
 (.cnd 17
 (.seq (.ops [oo 4 (.mov (kI 8))])
 .ret)
 .skip)))
 (.seq (.ops [oo 4 (.mov (kI 0))])
 .ret)))⟩
def hint115 (P:Program):Hint:={}
def ir99:IFn:=
 ⟨25,[(4,none)],(.seq (.ops [oo 3 (.box 5 1),oo 4 (.mov (kI 0))])
 (.seq (.seq (.ops [oo 6 (.mov 0),oo 7 (.ld 5 true 3),oo 8 (.callF 114 [6,7]),oo 5 (.mov 8)])
 (.seq (.ops [oo 9 (.mov 5),oo 10 (.bin .neq 9 (kI 0))])
 (.cnd 10
 (.seq (.ops [oo 11 (.mov 5),oo 4 (.mov 11)])
 .ret)
 .skip)))
 (.seq (.seq (.ops [oo 12 (.mov 0),oo 13 (.flA 3 3),oo 14 (.ld 1 false 13),oo 15 (.nck 12),oo 16 (.flA 3 15),oo 17 (.ixAr 6 1 16 14),oo 18 (.ld 1 false 17)])
 (.cnd 18
 (.seq (.ops [oo 4 (.mov (kI 9))])
 .ret)
 .skip))
 (.seq (.ops [oo 19 (.mov 0),oo 20 (.flA 3 3),oo 21 (.ld 1 false 20),oo 22 (.nck 19),oo 23 (.flA 3 22),oo 24 (.ixAr 6 1 23 21),
 ⟨none,none,(.st 1 24 (kB true))⟩])
 (.seq (.ops [oo 4 (.mov (kI 0))])
 .ret)))))⟩
def hint99 (P:Program):Hint:={}
def ir100:IFn:=
 ⟨47,[(4,none)],(.seq (.ops [oo 3 (.box 5 1),oo 4 (.mov (kI 0))])
 (.seq (.seq (.ops [oo 6 (.flA 1 3),oo 7 (.ld 1 false 6),oo 8 (.callF 54 [7,(kI 0),(kI 3)]),oo 9 (.not 8)])
 (.cnd 9
 (.seq (.ops [oo 4 (.mov (kI 2))])
 .ret)
 .skip))
 (.seq (.seq (.ops [oo 10 (.mov 0),oo 11 (.ld 5 true 3),oo 12 (.callF 114 [10,11]),oo 5 (.mov 12)])
 (.seq (.ops [oo 13 (.mov 5),oo 14 (.bin .neq 13 (kI 0))])
 (.cnd 14
 (.seq (.ops [oo 15 (.mov 5),oo 4 (.mov 15)])
 .ret)
 .skip)))
 (.seq (.seq (.ops [oo 16 (.flA 4 3),oo 17 (.ld 1 false 16),oo 18 (.callF 54 [17,(kI 1),(kI 12)]),oo 19 (.not 18)])
 (.cnd 19
 (.seq (.ops [oo 4 (.mov (kI 2))])
 .ret)
 .skip))
 (.seq (.seq (.ops [oo 20 (.mov 0),oo 21 (.nck 20),oo 22 (.flA 1 21),oo 23 (.ld 1 false 22),oo 24 (.flA 4 3),oo 25 (.ld 1 false 24),oo 26 (.bin .add 23 25),oo 27 (.nck 20),oo 28 (.flA 1 27),
 ⟨none,none,(.st 1 28 26)⟩])
 (.seq (.ops [oo 29 (.mov 0),oo 30 (.nck 29),oo 31 (.flA 1 30),oo 32 (.ld 1 false 31),oo 33 (.bin .gtr 32 (kI 12))])
 (.cnd 33
 (.seq (.ops [oo 4 (.mov (kI 8))])
 .ret)
 .skip)))
 (.seq (.ops [oo 34 (.mov 0),oo 35 (.flA 1 3),oo 36 (.ld 1 false 35),oo 37 (.nck 34),oo 38 (.flA 9 37),oo 39 (.ixAr 4 1 38 36),oo 40 (.ld 1 false 39),oo 41 (.flA 4 3),oo 42 (.ld 1 false 41),oo 43 (.bin .add 40 42),oo 44 (.nck 34),oo 45 (.flA 9 44),oo 46 (.ixAr 4 1 45 36),
 ⟨none,none,(.st 1 46 43)⟩])
 (.seq (.ops [oo 4 (.mov (kI 0))])
 .ret)))))))⟩
def hint100 (P:Program):Hint:={}
def ir101:IFn:=
 ⟨44,[(4,none)],(.seq (.ops [oo 3 (.box 5 1),oo 4 (.mov (kI 0))])
 (.seq (.blk 0 (.seq (.seq (.ops [oo 6 (.flA 1 3),oo 7 (.ld 1 false 6),oo 8 (.callF 54 [7,(kI 0),(kI 3)]),oo 9 (.not 8),oo 5 (.mov 9)])
 (.cnd 5
 .skip
 (.ops [oo 10 (.flA 2 3),oo 11 (.ld 1 false 10),oo 12 (.callF 54 [11,(kI 0),(kI 3)]),oo 13 (.not 12),oo 5 (.mov 13)])))
 (.cnd 5
 (.seq (.ops [oo 4 (.mov (kI 2))])
 .ret)
 (.seq (.ops [oo 15 (.flA 1 3),oo 16 (.ld 1 false 15),oo 17 (.flA 2 3),oo 18 (.ld 1 false 17),oo 19 (.bin .eql 16 18),oo 14 (.mov 19)])
 (.cnd 14
 (.seq (.ops [oo 4 (.mov (kI 12))])
 .ret)
 .skip)))))
 (.seq (.ops [oo 20 (.mov 0),oo 21 (.flA 2 3),oo 22 (.ld 1 false 21),oo 23 (.nck 20),oo 24 (.flA 9 23),oo 25 (.ixAr 4 1 24 22),oo 26 (.ld 1 false 25),oo 27 (.mov 0),oo 28 (.flA 1 3),oo 29 (.ld 1 false 28),oo 30 (.nck 27),oo 31 (.flA 9 30),oo 32 (.ixAr 4 1 31 29),oo 33 (.ld 1 false 32),oo 34 (.bin .add 26 33),oo 35 (.nck 20),oo 36 (.flA 9 35),oo 37 (.ixAr 4 1 36 22),
 ⟨none,none,(.st 1 37 34)⟩])
 (.seq (.ops [oo 38 (.mov 0),oo 39 (.flA 1 3),oo 40 (.ld 1 false 39),oo 41 (.nck 38),oo 42 (.flA 9 41),oo 43 (.ixAr 4 1 42 40),
 ⟨none,none,(.st 1 43 (kI 0))⟩])
 (.seq (.ops [oo 4 (.mov (kI 0))])
 .ret)))))⟩
def hint101 (P:Program):Hint:={}
def ir102:IFn:=
 ⟨38,[(4,none)],(.seq (.ops [oo 3 (.box 5 1),oo 4 (.mov (kI 0))])
 (.seq (.blk 0 (.seq (.seq (.ops [oo 6 (.flA 1 3),oo 7 (.ld 1 false 6),oo 8 (.callF 54 [7,(kI 0),(kI 3)]),oo 9 (.not 8),oo 5 (.mov 9)])
 (.cnd 5
 .skip
 (.ops [oo 10 (.flA 4 3),oo 11 (.ld 1 false 10),oo 12 (.callF 54 [11,(kI 1),(kI 12)]),oo 13 (.not 12),oo 5 (.mov 13)])))
 (.cnd 5
 (.seq (.ops [oo 4 (.mov (kI 2))])
 .ret)
 (.seq (.ops [oo 15 (.mov 0),oo 16 (.flA 1 3),oo 17 (.ld 1 false 16),oo 18 (.nck 15),oo 19 (.flA 9 18),oo 20 (.ixAr 4 1 19 17),oo 21 (.ld 1 false 20),oo 22 (.flA 4 3),oo 23 (.ld 1 false 22),oo 24 (.bin .lss 21 23),oo 14 (.mov 24)])
 (.cnd 14
 (.seq (.ops [oo 4 (.mov (kI 6))])
 .ret)
 .skip)))))
 (.seq (.ops [oo 25 (.mov 0),oo 26 (.flA 1 3),oo 27 (.ld 1 false 26),oo 28 (.nck 25),oo 29 (.flA 9 28),oo 30 (.ixAr 4 1 29 27),oo 31 (.ld 1 false 30),oo 32 (.flA 4 3),oo 33 (.ld 1 false 32),oo 34 (.bin .sub 31 33),oo 35 (.nck 25),oo 36 (.flA 9 35),oo 37 (.ixAr 4 1 36 27),
 ⟨none,none,(.st 1 37 34)⟩])
 (.seq (.ops [oo 4 (.mov (kI 0))])
 .ret))))⟩
def hint102 (P:Program):Hint:={}
def ir103:IFn:=
 ⟨16,[(4,none)],(.seq (.ops [oo 3 (.box 5 1),oo 4 (.mov (kI 0))])
 (.seq (.seq (.ops [oo 6 (.mov 0),oo 7 (.ld 5 true 3),oo 8 (.callF 102 [6,7]),oo 5 (.mov 8)])
 (.seq (.ops [oo 9 (.mov 5),oo 10 (.bin .neq 9 (kI 0))])
 (.cnd 10
 (.seq (.ops [oo 11 (.mov 5),oo 4 (.mov 11)])
 .ret)
 .skip)))
 (.seq (.ops [oo 12 (.mov 0),oo 13 (.flA 4 3),oo 14 (.ld 1 false 13),oo 15 (.callF 115 [12,14]),oo 4 (.mov 15)])
 .ret)))⟩
def hint103 (P:Program):Hint:={}
def ir104:IFn:=
 ⟨14,[(4,none)],(.seq (.ops [oo 3 (.box 5 1),oo 4 (.mov (kI 0))])
 (.seq (.seq (.ops [oo 6 (.mov 0),oo 7 (.ld 5 true 3),oo 8 (.callF 114 [6,7]),oo 5 (.mov 8)])
 (.seq (.ops [oo 9 (.mov 5),oo 10 (.bin .neq 9 (kI 0))])
 (.cnd 10
 (.seq (.ops [oo 11 (.mov 5),oo 4 (.mov 11)])
 .ret)
 .skip)))
 (.seq (.ops [oo 12 (.mov 0),oo 13 (.callF 115 [12,(kI 1)]),oo 4 (.mov 13)])
 .ret)))⟩
def hint104 (P:Program):Hint:={}
theorem gin_c (n a b:Int):Fn0 Tryz.prog 54 [.int .i64 n,.int .i64 a,.int .i64 b] (fun v=>v= .bool (inB n a b)):=by
 by_cases h1:a≤n
 · by_cases h2:n≤b
   · have:inB n a b=true:=inB_t.2 ⟨h1,h2⟩
     rw[this]
     refine RawC.walk (H:=hint54 Tryz.prog) ir54 Tryz.func54 rfl rfl rfl ?_
     unfold ir54
     repeat' (first
      | with_reducible refine Rd.p ?_
      | with_reducible (first|refine zL ?_|refine zS ?_|refine zV ?_|refine zC ?_)
      | refine aX ?_|with_reducible intro _
      | refine aP ?_ ?_)
     rw[decide_eq_true h2];rfl
   · have:inB n a b=false:=inB_f.2 (by omega)
     rw[this]
     refine RawC.walk (H:=hint54 Tryz.prog) ir54 Tryz.func54 rfl rfl rfl ?_
     unfold ir54
     repeat' (first
      | with_reducible refine Rd.p ?_
      | with_reducible (first|refine zL ?_|refine zS ?_|refine zV ?_|refine zC ?_)
      | refine aX ?_|with_reducible intro _
      | refine aP ?_ ?_)
     rw[decide_eq_false h2];rfl
 · have:inB n a b=false:=inB_f.2 (by omega)
   rw[this]
   refine RawC.walk (H:=hint54 Tryz.prog) ir54 Tryz.func54 rfl rfl rfl ?_
   unfold ir54
   repeat' (first
    | with_reducible refine Rd.p ?_
    | with_reducible (first|refine zL ?_|refine zS ?_|refine zV ?_|refine zC ?_)
    | refine aX ?_|with_reducible intro _
    | refine aP ?_ ?_)
   all_goals first
    | rfl
    | (exfalso;omega)
def ckRow (n:Nat) (t:Tb):List AV:= .int .i64 n:: .int .i64 t.mixed:: .int .i64 t.cens::(t.tried.map AV.bool++t.bags.map (AV.int .i64))
structure tbOK (t:Tb):Prop where
 b:t.bags.length=4
 r:t.tried.length=6
 m:0≤t.mixed∧t.mixed≤12
 c:0≤t.cens∧t.cens≤9
 nn:∀x∈t.bags,0≤x
 s:t.bags.sum≤t.mixed
theorem sum_setI:∀(l:List Int) (i:Nat) (v:Int),i<l.length→(l.set i v).sum=l.sum-l.getD i 0+v
 | a::r,0,v,_=>by simp;omega
 | a::r,i+1,v,h=>by
   have ih:=sum_setI r i v (by simpa using h)
   simp only[List.set_cons_succ,List.sum_cons,List.getD_cons_succ]
   rw[ih];omega
 | [],i,v,h=>by simp at h
theorem sum_nn:∀{l:List Int},(∀x∈l,0≤x)→0≤l.sum
 | [],_=>by simp
 | a::r,h=>by
   have:=sum_nn (l:=r) fun x hx=>h x (by simp[hx])
   have:=h a (by simp)
   simp only[List.sum_cons];omega
theorem le_sum:∀{l:List Int},(∀x∈l,0≤x)→ ∀x∈l,x≤l.sum
 | a::r,h,x,hx=>by
   have h1:=sum_nn (l:=r) fun x hx=>h x (by simp[hx])
   have h2:=h a (by simp)
   simp only[List.sum_cons]
   rcases List.mem_cons.1 hx with rfl | hx
   · omega
   · have:=le_sum (l:=r) (fun x hx=>h x (by simp[hx])) x hx
     omega
theorem mem_setI {l:List Int} {i:Int} {v x:Int} (h:x∈setI l i v):x∈l∨x=v:=List.mem_or_eq_of_mem_set h
theorem tbOK.at {t:Tb} (h:tbOK t) {b:Int} (hb:b.toNat<4):0≤atI t.bags b∧atI t.bags b≤12:=by
 have hl:=h.b
 have hm:atI t.bags b∈t.bags:=by
  unfold atI
  rw[List.getD_eq_getElem?_getD,List.getElem?_eq_getElem (by omega)]
  exact List.getElem_mem _
 have:=le_sum h.nn _ hm
 have:=h.nn _ hm
 have:=h.s
 have:=h.m
 omega
theorem tbOK.set {t:Tb} (h:tbOK t) {b v m c:Int} (hb:b.toNat<4) (hv:0≤v) (hm:0≤m∧m≤12) (hc:0≤c∧c≤9) (hs:t.bags.sum-atI t.bags b+v≤m):tbOK {t with bags:=setI t.bags b v,mixed:=m,cens:=c }:=by
 refine⟨by show (List.set _ _ _).length=4;rw[List.length_set];exact h.b,h.r,hm,hc,fun x hx=>?_,?_⟩
 · rcases mem_setI hx with hx|rfl
   · exact h.nn x hx
   · exact hv
 · have:=sum_setI t.bags b.toNat v (by rw[h.b];exact hb)
   show (t.bags.set b.toNat v).sum≤m
   rw[this];exact hs
theorem ck_tried {n:Nat} {t:Tb} {w:Nat} (h:t.tried.length=6) (hw:w<6):(ckRow n t)[3+w]?=some (.bool (t.tried.getD w false)):=by
 unfold ckRow
 rw[show 3+w=w+1+1+1 by omega,List.getElem?_cons_succ,List.getElem?_cons_succ,List.getElem?_cons_succ,List.getElem?_append_left (by simp;omega),List.getElem?_map,List.getElem?_eq_getElem (by omega)]
 simp[List.getD_eq_getElem?_getD,List.getElem?_eq_getElem (show w<t.tried.length by omega)]
theorem ck_bags {n:Nat} {t:Tb} {w:Nat} (h:t.tried.length=6) (hb:t.bags.length=4) (hw:w<4):(ckRow n t)[9+w]?=some (.int .i64 (t.bags.getD w 0)):=by
 unfold ckRow
 rw[show 9+w=(6+w)+1+1+1 by omega,List.getElem?_cons_succ,List.getElem?_cons_succ,List.getElem?_cons_succ,List.getElem?_append_right (by simp;omega),List.length_map,h,Nat.add_sub_cancel_left,List.getElem?_map,List.getElem?_eq_getElem (by omega)]
 simp[List.getD_eq_getElem?_getD,List.getElem?_eq_getElem (show w<t.bags.length by omega)]
theorem ck_setT {n:Nat} {t:Tb} {w:Nat} {b:Bool} (h:t.tried.length=6) (hw:w<6):(ckRow n t).set (3+w) (.bool b)=ckRow n {t with tried:=t.tried.set w b }:=by
 unfold ckRow
 rw[show 3+w=w+1+1+1 by omega,List.set_cons_succ,List.set_cons_succ,List.set_cons_succ,List.set_append_left _ _ (by simp;omega),←List.map_set]
end Go.Abs
