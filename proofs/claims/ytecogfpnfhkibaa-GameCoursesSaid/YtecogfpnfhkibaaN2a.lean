/- A part of the proofs of the laws of this seat: contracts of the functions that they reach, each proved of the program's form in Lean. No condition beyond those that each contract names. -/
import Derived.Test.YtecogfpnfhkibaaProg
import Derived.Test.YtecogfpnfhkibaaSnd3
import Derived.Test.YtecogfpnfhkibaaA0
import Derived.Test.YtecogfpnfhkibaaN1a
import Derived.Test.YtecogfpnfhkibaaN1b
import Derived.Test.YtecogfpnfhkibaaN1c
import Derived.Test.YtecogfpnfhkibaaN1d
import Derived.Test.YtecogfpnfhkibaaN1e
import Derived.Test.YtecogfpnfhkibaaN1f
import Derived.Test.YtecogfpnfhkibaaN1g
set_option linter.unusedVariables false
set_option linter.unusedSimpArgs false
set_option maxRecDepth 20000
set_option maxHeartbeats 4000000
namespace Go.Abs
open Go.RowKit
variable {P:Program}
theorem field_int {t:TypeId} {fs:Array Field} {H:Type} {enc:TypeId×Value→H} {w:World} {base:Nat} {spare:Nat→Bool} {held:Bool} {fuel:Nat} {cs:List Value} {y:DataW H×List MemPlace} (ht:P.underlying t=some (.struct fs)) (h:DataW.trod enc P w base spare held fuel t cs=some y) (i:Nat) (f:Field) {k:IntKind} (hf:fs[i]?=some f) (hk:P.underlying f.type=some (.int k)) (h1:P.cellsOf f.type=1):∃n,cs[f.offset]?=some (.int k n):=by
 obtain⟨xs,n,_,_,hl,hx,hfs⟩:=DataW.trod_struct ht h
 have hi:i<xs.length:=by rw[hx];exact (Array.getElem?_eq_some_iff.1 hf).1
 have:=hfs i f hf
 rw[List.getElem?_eq_getElem hi,h1] at this
 obtain⟨m,hm,_⟩:=DataW.trod_int hk this
 refine⟨m,?_⟩
 have:=congrArg (·[0]?) hm
 simpa[List.getElem?_take,List.getElem?_drop] using this
theorem field_str {t:TypeId} {fs:Array Field} {H:Type} {enc:TypeId×Value→H} {w:World} {base:Nat} {spare:Nat→Bool} {held:Bool} {fuel:Nat} {cs:List Value} {y:DataW H×List MemPlace} (ht:P.underlying t=some (.struct fs)) (h:DataW.trod enc P w base spare held fuel t cs=some y) (i:Nat) (f:Field) (hf:fs[i]?=some f) (hk:P.underlying f.type=some .string) (h1:P.cellsOf f.type=1):∃s,cs[f.offset]?=some (.string s):=by
 obtain⟨xs,n,_,_,hl,hx,hfs⟩:=DataW.trod_struct ht h
 have hi:i<xs.length:=by rw[hx];exact (Array.getElem?_eq_some_iff.1 hf).1
 have:=hfs i f hf
 rw[List.getElem?_eq_getElem hi,h1] at this
 obtain⟨m,hm,_⟩:=DataW.trod_string hk this
 refine⟨m,?_⟩
 have:=congrArg (·[0]?) hm
 simpa[List.getElem?_take,List.getElem?_drop] using this
end Go.Abs
namespace Go.Proofs.Ytecogfpnfhkibaa
open Go.ChangeShapes Go.WideShapes Go.ChangeAt Go.RowKit Go.Abs
end Go.Proofs.Ytecogfpnfhkibaa
namespace Go.Proofs.Ytecogfpnfhkibaa
open Go.ChangeShapes Go.WideShapes Go.ChangeAt Go.RowKit Go.Abs
theorem cells3g:Try.prog.cellsOf 3=1:=by kernel_rfl
theorem cells9g:Try.prog.cellsOf 9=1:=by kernel_rfl
theorem cellsWd:Try.prog.cellsOf 73=2:=by kernel_rfl
theorem cellsDl:Try.prog.cellsOf 27=5:=by kernel_rfl
theorem cellsWs:Try.prog.cellsOf 22=1:=by kernel_rfl
theorem cellsDs:Try.prog.cellsOf 23=1:=by kernel_rfl
theorem cellsG:Try.prog.cellsOf 25=2:=by kernel_rfl
theorem ctypesG:Try.prog.cellTypes Try.prog.depth 25=some [22,23]:=by kernel_rfl
theorem underWd:Try.prog.underlying 73=Try.prog.underlying 72:=by kernel_rfl
theorem underDl:Try.prog.underlying 27=Try.prog.underlying 26:=by kernel_rfl
theorem two2 {α:Type} {cs:List α} {a b:α} (hl:cs.length=2) (h0:cs[0]?=some a) (h1:cs[1]?=some b):cs=[a,b]:=by
 rcases cs with _ | ⟨x0,_ | ⟨x1,_ | ⟨x2,cs⟩⟩⟩<;>simp_all
theorem five5 {α:Type} {cs:List α} {a b c d f:α} (hl:cs.length=5) (h0:cs[0]?=some a) (h1:cs[1]?=some b) (h2:cs[2]?=some c) (h3:cs[3]?=some d) (h4:cs[4]?=some f):cs=[a,b,c,d,f]:=by
 rcases cs with _ | ⟨x0,_ | ⟨x1,_ | ⟨x2,_ | ⟨x3,_ | ⟨x4,_ | ⟨x5,cs⟩⟩⟩⟩⟩⟩<;>simp_all
def woodT:RowOf Try.prog 73 2 Wd where
 row:=fun w=>[.str w.name,.int .i64 w.fam]
 vals w:=[.string w.name,.int .i64 w.fam]
 cells:=cellsWd
 len _:=rfl
 rel _ _:=⟨_,_,rfl,rfl,_,_,rfl,rfl,rfl⟩
 one x v hv:=by simp only[List.mem_cons,List.not_mem_nil,or_false] at hv;rcases hv with rfl | rfl<;>rfl
 read {H enc w base spare held fuel cs y} h:=by
  have ht:=underWd.trans Try.underlying72
  have hl:cs.length=2:=by obtain⟨_,_,_,_,hl,_⟩:=DataW.trod_struct ht h;rw[hl,cellsWd]
  obtain⟨a0,h0⟩:=field_str ht h 0 _ rfl Try.underlying9 cells9g
  obtain⟨a1,h1⟩:=field_int ht h 1 _ rfl Try.underlying3 cells3g
  exact⟨⟨a0,a1⟩,two2 hl h0 h1⟩
def dealT2:RowOf Try.prog 27 5 Dl where
 row:=fun d=>[.int .i64 d.kind,.int .i64 d.bag,.int .i64 d.other,.int .i64 d.wood,.int .i64 d.count]
 vals d:=[.int .i64 d.kind,.int .i64 d.bag,.int .i64 d.other,.int .i64 d.wood,.int .i64 d.count]
 cells:=cellsDl
 len _:=rfl
 rel _ _:=⟨_,_,rfl,rfl,_,_,rfl,rfl,_,_,rfl,rfl,_,_,rfl,rfl,_,_,rfl,rfl,rfl⟩
 one x v hv:=by simp only[List.mem_cons,List.not_mem_nil,or_false] at hv;rcases hv with rfl | rfl | rfl | rfl | rfl<;>rfl
 read {H enc w base spare held fuel cs y} h:=by
  have ht:=underDl.trans Try.underlying26
  have hl:cs.length=5:=by obtain⟨_,_,_,_,hl,_⟩:=DataW.trod_struct ht h;rw[hl,cellsDl]
  obtain⟨a0,h0⟩:=field_int ht h 0 _ rfl Try.underlying3 cells3g
  obtain⟨a1,h1⟩:=field_int ht h 1 _ rfl Try.underlying3 cells3g
  obtain⟨a2,h2⟩:=field_int ht h 2 _ rfl Try.underlying3 cells3g
  obtain⟨a3,h3⟩:=field_int ht h 3 _ rfl Try.underlying3 cells3g
  obtain⟨a4,h4⟩:=field_int ht h 4 _ rfl Try.underlying3 cells3g
  exact⟨⟨a0,a1,a2,a3,a4⟩,five5 hl h0 h1 h2 h3 h4⟩
theorem spot_cell {t e:TypeId} {W:World} {base:Nat} {v:Value} (ht:Try.prog.underlying t=some (.slice e)) (hv:Cell.okWide Try.prog W .any base t v):∀a len cap,v= .slice (some a) len cap→a.spot=none:=by
 intro a len cap h;subst h
 simp only[ht,Cell.okWide,Cell.ok] at hv
 exact hv.2.2.2.1
theorem open_party {H:Type} {enc:TypeId×Value→H} {W:World} {base:Nat} {v:Value} {d:DataW H} {ps:List MemPlace} (hv:Value.okWide Try.prog W .any base 25 v) (h:DataW.Trod enc Try.prog W 0 (fun _=>true) true 25 v d ps):
  ∃(gs:List Wd) (rs:List Dl),gs.length≤maxLen∧rs.length≤maxLen∧Rel (GS.pure (K0 W)) (gmA ⟨gs,rs⟩) v:=by
 obtain⟨fuel,hf⟩:=h
 simp only[Value.okWide,Try.underlying25] at hv
 obtain⟨cs,rfl,hsz,ts,hts,_,hc⟩:=hv
 rw[ctypesG] at hts;cases hts
 obtain⟨xs,n,_,_,hl,hx,hfs⟩:=DataW.trod_struct Try.underlying25 hf
 rw[cellsG] at hl hsz
 have hcl:(Value.agg cs).cells.toList=cs.toList:=rfl
 rw[hcl] at hl hfs
 obtain⟨v0,v1,hcs⟩:∃v0 v1,cs.toList=[v0,v1]:=by
  generalize cs.toList=l at hl
  rcases l with _ | ⟨x0,_ | ⟨x1,_ | ⟨x2,l⟩⟩⟩
  · simp at hl
  · simp at hl
  · exact⟨_,_,rfl⟩
  · simp at hl
 have e0:cs[0]?=some v0:=by rw[←Array.getElem?_toList,hcs];rfl
 have e1:cs[1]?=some v1:=by rw[←Array.getElem?_toList,hcs];rfl
 have hxl:xs.length=2:=hx
 obtain⟨u0,hu0,o0⟩:=hc 0 v0 e0
 cases hu0
 obtain⟨u1,hu1,o1⟩:=hc 1 v1 e1
 cases hu1
 have f0:DataW.trod enc Try.prog W 0 (fun _=>true) true n 22 (List.take (Try.prog.cellsOf 22) (List.drop 0 cs.toList))=xs[0]?:=hfs 0 _ rfl
 have f1:DataW.trod enc Try.prog W 0 (fun _=>true) true n 23 (List.take (Try.prog.cellsOf 23) (List.drop 1 cs.toList))=xs[1]?:=hfs 1 _ rfl
 rw[List.getElem?_eq_getElem (by omega),hcs] at f0 f1
 rw[cellsWs] at f0
 rw[cellsDs] at f1
 obtain⟨gs,hg,rg⟩:=woodT.open Try.underlying22 (spot_cell Try.underlying22 o0) f0
 obtain⟨rs,hr,rr⟩:=dealT2.open Try.underlying23 (spot_cell Try.underlying23 o1) f1
 exact⟨gs,rs,hg,hr,cs,rfl,by rw[hcs];exact⟨_,_,rfl,rg,_,_,rfl,rr,rfl⟩⟩
end Go.Proofs.Ytecogfpnfhkibaa
namespace Go.Abs
open Go.Proofs
theorem rowB_sum (B:List Int) (i:Int):(rowB B i).sum=bgSize B i:=rfl
theorem pickF_lt:∀{R:List Int} {p:Int},0≤p→p<R.sum→pickF R p<R.length∧0<R.getD (pickF R p) 0
 | [],p,h0,h1=>by simp at h1;omega
 | k::r,p,h0,h1=>by
   rw[pickF]
   by_cases h:p<k
   · rw[if_pos h];exact⟨by simp,by simp;omega⟩
   · rw[if_neg h]
     rw[List.sum_cons] at h1
     obtain⟨h2,h3⟩:=pickF_lt (R:=r) (p:=p-k) (by omega) (by omega)
     exact⟨by simp;omega,by simpa using h3⟩
theorem pickW_ok {B:List Int} {i p:Int} (h0:0≤p) (h1:p<bgSize B i):(0≤pickW B i p∧pickW B i p≤5)∧0<bgAt B i (pickW B i p):=by
 obtain⟨h2,h3⟩:=pickF_lt (R:=rowB B i) h0 (by rw[rowB_sum];exact h1)
 rw[rowB_len] at h2
 rw[rowB_get B i h2] at h3
 exact⟨by unfold pickW;omega,h3⟩
def cntP:List Sp→List Int→List Int→Int
 | [],_,_=>1
 | x::r,c,B=>
   if x.2.1=true then (match c with
    | []=>bgSize B x.1.bag*cntP r [] (drawB B x.1.bag (pickW B x.1.bag 0))
    | w::c'=>nSum 6 fun v=>if x.2.2=true then (if v=w then bgAt B x.1.bag v*cntP r c' (drawB B x.1.bag v) else 0) else bgAt B x.1.bag v*cntP r c (drawB B x.1.bag v))
   else if x.2.2=true then (match c with
    | []=>cntP r [] (mixedB x.1 B)
    | w::c'=>if w=x.1.wood then cntP r c' (mixedB x.1 B) else 0)
   else cntP r c (mixedB x.1 B)
def szL:List Sp→List Int→List Int
 | [],_=>[]
 | x::r,b=>if x.2.1=true then atI b x.1.bag::szL r (spB x b) else szL r (spB x b)
theorem szL_len:∀(l:List Sp) (b:List Int),(szL l b).length=drawN l
 | [],_=>rfl
 | x::r,b=>by
   have:=szL_len r (spB x b)
   rw[szL]
   unfold drawN at this ⊢
   rw[List.filter_cons]
   split
   · rw[List.length_cons,List.length_cons,this]
   · exact this
theorem ACall.exb {P:Program} {f:Nat} {args0 args:List AV} {R:Bool→Prop} {σ:Sig} {d:Nat} {Q:AV→Sig→Prop} (h:Fn0 P f args0 (fun v=>∃b,v= .bool b∧R b)) (ha:args0=renL [] args) (hQ:∀b,R b→Q (.bool b) σ):ACall P f args σ d Q:=
 ACall.fn0 h ha fun av hav=>by
  obtain⟨b,rfl,hb⟩:=hav
  exact hQ b hb
def ir60:IFn:=
 ⟨11,[(2,none)],(.seq (.ops [oo 1 (.box 5 0),
 oo 2 (.mov (kB false))])
 (.seq (.ops [oo 3 (.flA 0 1),
 oo 4 (.ld 1 false 3),
 oo 5 (.bin .eql 4 (kI 4)),
 oo 6 (.mov 5),
 ⟨(some 7),(some (6,false)),(.flA 0 1)⟩,
 ⟨(some 8),(some (6,false)),(.ld 1 false 7)⟩,
 ⟨(some 9),(some (6,false)),(.bin .eql 8 (kI 5))⟩,
 oo 10 (.pick 6 (kB true) 9),
 oo 2 (.mov 10)])
 .ret))⟩
def hint60 (P:Program):Hint:={}
def ir61:IFn:=
 ⟨19,[(4,none)],(.seq (.ops [oo 2 (.box 24 0),
 oo 4 (.mov (kI 0))])
 (.seq (.ops [oo 5 (.mov (kI 0))])
 (.seq (.seq (.ops [oo 6 (.mov (kI 0))])
 (.blk 0 (.loop (.seq (.seq (.ops [oo 7 (.mov 6),
 oo 8 (.bin .lss 7 (kI 6))])
 (.cnd 8
 .skip
 (.exit 0)))
 (.seq (.blk 1 (.ops [oo 11 (.mov 5),
 oo 12 (.mov 1),
 oo 13 (.mov 6),
 oo 14 (.ixAr 4 6 2 12),
 oo 15 (.ixAr 6 1 14 13),
 oo 16 (.ld 1 false 15),
 oo 17 (.bin .add 11 16),
 oo 5 (.mov 17)]))
 (.ops [oo 9 (.mov 6),
 oo 10 (.bin .add 9 (kI 1)),
 oo 6 (.mov 10)]))))))
 (.seq (.ops [oo 18 (.mov 5),
 oo 4 (.mov 18)])
 .ret))))⟩
def hint61 (P:Program):Hint:={}
def ir62:IFn:=
 ⟨16,[(6,some (24,true))],(.seq (.ops [oo 3 (.box 24 0),
 oo 6 (.new [(.int .i64 0),(.int .i64 0),(.int .i64 0),(.int .i64 0),(.int .i64 0),(.int .i64 0),(.int .i64 0),(.int .i64 0),(.int .i64 0),(.int .i64 0),(.int .i64 0),(.int .i64 0),(.int .i64 0),(.int .i64 0),(.int .i64 0),(.int .i64 0),(.int .i64 0),(.int .i64 0),(.int .i64 0),(.int .i64 0),(.int .i64 0),(.int .i64 0),(.int .i64 0),(.int .i64 0)])])
 (.seq (.ops [oo 7 (.mov 1),
 oo 8 (.mov 2),
 oo 9 (.ixAr 4 6 3 7),
 oo 10 (.ixAr 6 1 9 8),
 oo 11 (.ld 1 false 10),
 oo 12 (.bin .sub 11 (kI 1)),
 oo 13 (.ixAr 4 6 3 7),
 oo 14 (.ixAr 6 1 13 8),
 ⟨none,none,(.st 1 14 12)⟩])
 (.seq (.ops [oo 15 (.ld 24 true 3),
 ⟨none,none,(.st 24 6 15)⟩])
 .ret)))⟩
def hint62 (P:Program):Hint:={}
def ir63:IFn:=
 ⟨27,[(6,none)],(.seq (.ops [oo 3 (.box 24 0),
 oo 6 (.mov (kI 0))])
 (.seq (.seq (.ops [oo 7 (.mov (kI 0))])
 (.blk 0 (.loop (.seq (.seq (.ops [oo 8 (.mov 7),
 oo 9 (.bin .lss 8 (kI 6))])
 (.cnd 9
 .skip
 (.exit 0)))
 (.seq (.blk 1 (.seq (.seq (.ops [oo 12 (.mov 2),
 oo 13 (.mov 1),
 oo 14 (.mov 7),
 oo 15 (.ixAr 4 6 3 13),
 oo 16 (.ixAr 6 1 15 14),
 oo 17 (.ld 1 false 16),
 oo 18 (.bin .lss 12 17)])
 (.cnd 18
 (.seq (.ops [oo 19 (.mov 7),
 oo 6 (.mov 19)])
 .ret)
 .skip))
 (.ops [oo 20 (.mov 2),
 oo 21 (.mov 1),
 oo 22 (.mov 7),
 oo 23 (.ixAr 4 6 3 21),
 oo 24 (.ixAr 6 1 23 22),
 oo 25 (.ld 1 false 24),
 oo 26 (.bin .sub 20 25),
 oo 2 (.mov 26)])))
 (.ops [oo 10 (.mov 7),
 oo 11 (.bin .add 10 (kI 1)),
 oo 7 (.mov 11)]))))))
 (.seq (.ops [oo 6 (.mov (kI 0))])
 .ret)))⟩
def hint63 (P:Program):Hint:={}
def ir64:IFn:=
 ⟨56,[(4,some (24,true))],(.seq (.ops [oo 2 (.box 24 0),
 oo 3 (.box 5 1),
 oo 4 (.new [(.int .i64 0),(.int .i64 0),(.int .i64 0),(.int .i64 0),(.int .i64 0),(.int .i64 0),(.int .i64 0),(.int .i64 0),(.int .i64 0),(.int .i64 0),(.int .i64 0),(.int .i64 0),(.int .i64 0),(.int .i64 0),(.int .i64 0),(.int .i64 0),(.int .i64 0),(.int .i64 0),(.int .i64 0),(.int .i64 0),(.int .i64 0),(.int .i64 0),(.int .i64 0),(.int .i64 0)])])
 (.seq (.seq (.ops [oo 6 (.flA 0 3),
 oo 7 (.ld 1 false 6)])
 (.blk 0 (.seq (.ops [oo 9 (.bin .eql 7 (kI 2)),
 oo 8 (.mov 9)])
 (.cnd 8
 (.ops [oo 10 (.flA 1 3),
 oo 11 (.ld 1 false 10),
 oo 12 (.flA 3 3),
 oo 13 (.ld 1 false 12),
 oo 14 (.flA 1 3),
 oo 15 (.ld 1 false 14),
 oo 16 (.flA 3 3),
 oo 17 (.ld 1 false 16),
 oo 18 (.ixAr 4 6 2 15),
 oo 19 (.ixAr 6 1 18 17),
 oo 20 (.ld 1 false 19),
 oo 21 (.flA 4 3),
 oo 22 (.ld 1 false 21),
 oo 23 (.bin .add 20 22),
 oo 24 (.ixAr 4 6 2 11),
 oo 25 (.ixAr 6 1 24 13),
 ⟨none,none,(.st 1 25 23)⟩])
 (.seq (.ops [oo 27 (.bin .eql 7 (kI 3)),
 oo 26 (.mov 27)])
 (.cnd 26
 (.seq (.ops [oo 5 (.mov (kI 0))])
 (.blk 1 (.loop (.seq (.seq (.ops [oo 28 (.mov 5),
 oo 29 (.bin .lss 28 (kI 6))])
 (.cnd 29
 .skip
 (.exit 1)))
 (.seq (.blk 2 (.ops [oo 32 (.flA 2 3),
 oo 33 (.ld 1 false 32),
 oo 34 (.mov 5),
 oo 35 (.flA 1 3),
 oo 36 (.ld 1 false 35),
 oo 37 (.mov 5),
 oo 38 (.flA 2 3),
 oo 39 (.ld 1 false 38),
 oo 40 (.mov 5),
 oo 41 (.ixAr 4 6 2 39),
 oo 42 (.ixAr 6 1 41 40),
 oo 43 (.ld 1 false 42),
 oo 44 (.flA 1 3),
 oo 45 (.ld 1 false 44),
 oo 46 (.mov 5),
 oo 47 (.ixAr 4 6 2 45),
 oo 48 (.ixAr 6 1 47 46),
 oo 49 (.ld 1 false 48),
 oo 50 (.bin .add 43 49),
 oo 51 (.ixAr 4 6 2 33),
 oo 52 (.ixAr 6 1 51 34),
 oo 53 (.ixAr 4 6 2 36),
 ⟨none,none,(.st 1 52 50)⟩,
 ⟨none,none,(.chk 1 false 35 36)⟩,
 oo 54 (.ixAr 6 1 53 37),
 ⟨none,none,(.st 1 54 (kI 0))⟩]))
 (.ops [oo 30 (.mov 5),
 oo 31 (.bin .add 30 (kI 1)),
 oo 5 (.mov 31)]))))))
 .skip))))))
 (.seq (.ops [oo 55 (.ld 24 true 2),
 ⟨none,none,(.st 24 4 55)⟩])
 .ret)))⟩
def hint64 (P:Program):Hint:={}
theorem rdraws_c (d:Dl):Fn0 Try.prog 60 [dlA d] (fun v=>v= .bool (drawsB d)):=by
 by_cases h4:d.kind=4
 · have e1:drawsB d=true:=by simp[drawsB,h4]
   rw[e1]
   refine RawC.walk (H:=hint60 Try.prog) ir60 Try.func60 rfl rfl rfl ?_
   unfold ir60
   repeat' (first
    | refine advE ?_ | with_reducible refine w_alt ?_ ?_
    | with_reducible refine zI fun y hy=>?_ | refine advL ?_
    | refine adv ?_ | with_reducible (first | intro _ | refine Rt.p (fun _=>?_) fun _=>?_)
    | ((with_reducible apply w_ixM);(focus exact rfl);(focus exact rfl);case' hk=>intro y hy) | ((with_reducible (first | apply w_val | apply q_ends));(focus exact rfl)))
   all_goals first
    | (exfalso;omega)
    | rfl
 · have e1:drawsB d=decide (d.kind=5):=by simp[drawsB,h4]
   rw[e1]
   refine RawC.walk (H:=hint60 Try.prog) ir60 Try.func60 rfl rfl rfl ?_
   unfold ir60
   repeat' (first
    | refine advE ?_ | with_reducible refine w_alt ?_ ?_
    | with_reducible refine zI fun y hy=>?_ | refine advL ?_
    | refine adv ?_ | with_reducible (first | intro _ | refine Rt.p (fun _=>?_) fun _=>?_)
    | ((with_reducible apply w_ixM);(focus exact rfl);(focus exact rfl);case' hk=>intro y hy) | ((with_reducible (first | apply w_val | apply q_ends));(focus exact rfl)))
   all_goals first
    | (exfalso;omega)
    | rfl
theorem rsize_c (B:List Int) (h:bgIn B) (i:Int) (hi:0≤i∧i≤3):Fn0 Try.prog 61 [bgV B,.int .i64 i] (fun v=>v= .int .i64 (bgSize B i)):=by
 have hl:=h.l
 obtain⟨R,hR⟩:∃R,rowB B i=R:=⟨_,rfl⟩
 have hRl:R.length=6:=by rw[←hR];exact rowB_len _ _
 have hRs:R.sum=bgSize B i:=by rw[←hR];rfl
 have hRg:∀w,w<6→R.getD w 0=B.getD (i.toNat*6+w) 0:=fun w hw=>by rw[←hR,rowB_get _ _ hw];rfl
 have hRb:∀v∈R,0≤v∧v≤1000000:=fun v hv=>by
  rw[←hR] at hv
  obtain⟨w,_,rfl⟩:=List.mem_map.1 hv
  exact h.at _
 refine RawC.walk (H:=hint61 Try.prog) ir61 Try.func61 rfl rfl rfl ?_
 unfold ir61
 repeat' (first
  | refine advE ?_ | with_reducible refine w_alt ?_ ?_
  | (first | (refine w_boxN rfl hl ?_;intro g2))
  | with_reducible refine zI fun y hy=>?_ | refine advL ?_
  | refine adv ?_ | with_reducible (first | intro _ | refine Rt.p (fun _=>?_) fun _=>?_)
  | ((with_reducible apply w_ixM);(focus exact rfl);(focus exact rfl);case' hk=>intro y hy) | ((with_reducible (first | apply w_val | apply q_ends));(focus exact rfl)))
 refine w_loopK [1,2] [2] (fun k:Nat=>k≤6) (fun k=>6-k) (fun k=>[(6,.int .i64 (k:Int)),(5,.int .i64 ((R.take k).sum))]) (fun _=>[]) 0 (Nat.zero_le _) ⟨rfl,rfl,trivial⟩ trivial ?_
 rintro k hk e σ
 try dsimp only at hk ⊢
 have hb:=sum_bd (M:=1000000) (l:=R.take k) fun x hx=>hRb x (List.mem_of_mem_take hx)
 have hlk:(R.take k).length=k:=by rw[List.length_take];omega
 by_cases hk6:k=6
 · subst hk6
   have e1:R.take 6=R:=List.take_of_length_le (by omega)
   rw[e1,hRs]
   repeat' (first
    | refine advE ?_ | with_reducible refine w_alt ?_ ?_
    | with_reducible refine zI fun y hy=>?_ | refine advL ?_
    | refine adv ?_ | with_reducible (first | intro _ | refine Rt.p (fun _=>?_) fun _=>?_)
    | ((with_reducible apply w_ixM);(focus exact rfl);(focus exact rfl);case' hk=>intro y hy) | ((with_reducible (first | apply w_val | apply q_ends));(focus exact rfl)))
   all_goals first
    | (exfalso;omega)
    | rfl
 have hts:=take_sum (R:=R) (k:=k) (by omega)
 have hrg:=hRg k (by omega)
 have hat:=h.at (i.toNat*6+k)
 have ho:0+i.toNat*6+k*1=i.toNat*6+k:=by omega
 rw[hlk] at hb
 repeat' (first
  | refine advE ?_ | with_reducible refine w_alt ?_ ?_
  | (first | refine w_ldEl rfl ho rfl (by omega) ?_)
  | with_reducible refine zI fun y hy=>?_ | refine advL ?_
  | refine adv ?_ | with_reducible (first | intro _ | refine Rt.p (fun _=>?_) fun _=>?_)
  | ((with_reducible apply w_ixM);(focus exact rfl);(focus exact rfl);case' hk=>intro y hy) | ((with_reducible (first | apply w_val | apply q_ends));(focus exact rfl)))
 all_goals first
  | (exfalso;omega)
  | exact q_loop (k+1) (by show k+1≤6;omega) (by show 6-(k+1)<6-k;omega) ⟨int_eq (by simp),by show AV.int .i64 _=AV.int .i64 _;rw[hts,hrg],trivial⟩ trivial (by repeat' (first | exact kept_nil | apply kept_cons | rfl)) (by repeat' (first | exact kept_nil | apply kept_cons | rfl))
theorem rwithout_c (B:List Int) (h:bgIn B) (i w:Int) (hi:0≤i∧i≤3) (hw:0≤w∧w≤5):Fn0 Try.prog 62 [bgV B,.int .i64 i,.int .i64 w] (fun v=>v=bgV (drawB B i w)):=by
 have hl:=h.l
 have hat:=h.at (i.toNat*6+w.toNat)
 have ho:0+i.toNat*6+w.toNat*1=i.toNat*6+w.toNat:=by omega
 have hdl:=drawB_len hl i w
 refine RawC.walk (H:=hint62 Try.prog) ir62 Try.func62 rfl rfl rfl ?_
 unfold ir62
 repeat' (first
  | refine advE ?_ | with_reducible refine w_alt ?_ ?_
  | (first | (refine w_boxN rfl hl ?_;intro g2) | refine w_ldEl rfl ho rfl (by omega) ?_ | refine w_stElC rfl ho rfl (by omega) rfl (drawB_set B i w) ?_ | refine w_ldN rfl rfl hdl ?_ | refine w_stN rfl rfl rfl rfl hdl ?_)
  | with_reducible refine zI fun y hy=>?_ | refine advL ?_
  | refine adv ?_ | with_reducible (first | intro _ | refine Rt.p (fun _=>?_) fun _=>?_)
  | ((with_reducible apply w_ixM);(focus exact rfl);(focus exact rfl);case' hk=>intro y hy) | ((with_reducible (first | apply w_val | apply q_ends));(focus exact rfl)))
 all_goals first
  | (exfalso;omega)
  | exact end_bg hdl
theorem rwood_c (B:List Int) (h:bgIn B) (i p:Int) (hi:0≤i∧i≤3) (hp:0≤p∧p<bgSize B i) (hp2:p≤1000000):Fn0 Try.prog 63 [bgV B,.int .i64 i,.int .i64 p] (fun v=>v= .int .i64 (pickW B i p)):=by
 have hl:=h.l
 obtain⟨R6,hR6⟩:∃R6,rowB B i=R6:=⟨_,rfl⟩
 have hRl:R6.length=6:=by rw[←hR6];exact rowB_len _ _
 have hRs:R6.sum=bgSize B i:=by rw[←hR6];rfl
 have hpw:pickW B i p=(pickF R6 p:Nat):=by unfold pickW;rw[hR6]
 have hRg:∀w,w<6→R6.getD w 0=B.getD (i.toNat*6+w) 0:=fun w hw=>by rw[←hR6,rowB_get _ _ hw];rfl
 rw[hpw]
 refine RawC.walk (H:=hint63 Try.prog) ir63 Try.func63 rfl rfl rfl ?_
 unfold ir63
 repeat' (first
  | refine advE ?_ | with_reducible refine w_alt ?_ ?_
  | (first | (refine w_boxN rfl hl ?_;intro g2))
  | with_reducible refine zI fun y hy=>?_ | refine advL ?_
  | refine adv ?_ | with_reducible (first | intro _ | refine Rt.p (fun _=>?_) fun _=>?_)
  | ((with_reducible apply w_ixM);(focus exact rfl);(focus exact rfl);case' hk=>intro y hy) | ((with_reducible (first | apply w_val | apply q_ends));(focus exact rfl)))
 refine w_loopK [1,3] [3] (fun x:Nat×Int=>(0≤x.2∧x.2<(R6.drop x.1).sum)∧x.2≤1000000∧x.1+pickF (R6.drop x.1) x.2=pickF R6 p∧x.1≤6) (fun x=>6-x.1) (fun x=>[(7,.int .i64 (x.1:Int)),(2,.int .i64 x.2)]) (fun _=>[]) (0,p) ⟨⟨hp.1,by show p<R6.sum;omega⟩,hp2,Nat.zero_add _,Nat.zero_le 6⟩ ⟨rfl,rfl,trivial⟩ trivial ?_
 rintro⟨w,k⟩ ⟨hk,hk12,hpk,hw6⟩ e3 σ3
 dsimp only at hk hk12 hpk hw6 ⊢
 have hw5:w<6:=by
  apply Classical.byContradiction
  intro h
  have:R6.drop w=[]:=List.drop_of_length_le (by omega)
  rw[this] at hk;simp at hk;omega
 have hdw:R6.drop w=R6.getD w 0::R6.drop (w+1):=by
  rw[List.drop_eq_getElem_cons (by omega),List.getD_eq_getElem?_getD,List.getElem?_eq_getElem (by omega)];rfl
 have hRw:=hRg w hw5
 have hin2:=h.at (i.toNat*6+w)
 have ho:0+i.toNat*6+w*1=i.toNat*6+w:=by omega
 rw[hdw,pickF] at hpk
 rw[hdw,List.sum_cons] at hk
 rw[hRw] at hpk hk
 by_cases hkw:k<B.getD (i.toNat*6+w) 0
 · rw[if_pos hkw] at hpk
   rw[←hpk]
   repeat' (first
    | refine advE ?_ | with_reducible refine w_alt ?_ ?_
    | (first | refine w_ldEl rfl ho rfl (by omega) ?_)
    | with_reducible refine zI fun y hy=>?_ | refine advL ?_
    | refine adv ?_ | with_reducible (first | intro _ | refine Rt.p (fun _=>?_) fun _=>?_)
    | ((with_reducible apply w_ixM);(focus exact rfl);(focus exact rfl);case' hk=>intro y hy) | ((with_reducible (first | apply w_val | apply q_ends));(focus exact rfl)))
   all_goals first
    | (exfalso;omega)
    | rfl
 · rw[if_neg hkw] at hpk
   repeat' (first
    | refine advE ?_ | with_reducible refine w_alt ?_ ?_
    | (first | refine w_ldEl rfl ho rfl (by omega) ?_)
    | with_reducible refine zI fun y hy=>?_ | refine advL ?_
    | refine adv ?_ | with_reducible (first | intro _ | refine Rt.p (fun _=>?_) fun _=>?_)
    | ((with_reducible apply w_ixM);(focus exact rfl);(focus exact rfl);case' hk=>intro y hy) | ((with_reducible (first | apply w_val | apply q_ends));(focus exact rfl)))
   all_goals first
    | (exfalso;omega)
    | exact q_loop (w+1,k-B.getD (i.toNat*6+w) 0) ⟨by dsimp only;omega,by dsimp only;omega,by dsimp only;omega,hw5⟩ (by show 6-(w+1)<6-w;omega) ⟨by show AV.int .i64 _=AV.int .i64 _;exact int_eq (by simp),rfl,trivial⟩ (by repeat' (first | exact slots_nil | apply slots_cons | rfl | (rw[map_snoc];rfl) | (rw[len_snoc];rfl) | (rw[hS];rfl) | (rw[hS,map_snoc];rfl) | (refine int_eq ?_;(try dsimp only);omega) | (refine congrArg AV.bool ?_;simp_all;done))) (by repeat' (first | exact kept_nil | apply kept_cons | rfl)) (by repeat' (first | exact kept_nil | apply kept_cons | rfl))
def pourW (B:List Int) (i k w:Nat):List Int:=(List.range 24).map fun y=>if y/6=k∧y%6<w then B.getD y 0+B.getD (i*6+y%6) 0 else if y/6=i∧y%6<w then 0 else B.getD y 0
theorem pourW_len (B:List Int) (i k w:Nat):(pourW B i k w).length=24:=by simp[pourW]
theorem pourW_zero {B:List Int} (h:B.length=24) (i k:Nat):pourW B i k 0=B:=ext24 (pourW_len ..) h fun y hy=>by
 unfold pourW
 rw[map24_get hy,if_neg (by omega),if_neg (by omega)]
theorem pourW_six {B:List Int} (i k:Int):pourW B i.toNat k.toNat 6=bgPour B i k:=by
 unfold pourW bgPour
 refine List.map_congr_left fun y hy=>?_
 have:y%6<6:=Nat.mod_lt _ (by decide)
 by_cases h1:y/6=k.toNat
 · rw[if_pos ⟨h1,this⟩,if_pos h1]
 · rw[if_neg (fun h=>h1 h.1),if_neg h1]
   by_cases h2:y/6=i.toNat
   · rw[if_pos ⟨h2,this⟩,if_pos h2]
   · rw[if_neg (fun h=>h2 h.1),if_neg h2]
theorem pourW_succ {B:List Int} {i k w:Nat} (hi:i<4) (hk:k<4) (hik:i≠k) (hw:w<6):((pourW B i k w).set (k*6+w) (B.getD (k*6+w) 0+B.getD (i*6+w) 0)).set (i*6+w) 0=pourW B i k (w+1):=ext24 (by rw[List.length_set,List.length_set,pourW_len]) (pourW_len ..) fun y hy=>by
 rw[set_getD (by rw[List.length_set,pourW_len];omega),set_getD (by rw[pourW_len];omega)]
 unfold pourW
 rw[map24_get hy,map24_get hy]
 by_cases e1:y=i*6+w
 · subst e1
   have h1:(i*6+w)/6=i:=by omega
   have h2:(i*6+w)%6=w:=by omega
   rw[if_pos rfl,h1,h2,if_neg (by omega),if_pos (by omega)]
 · rw[if_neg e1]
   by_cases e2:y=k*6+w
   · subst e2
     have h1:(k*6+w)/6=k:=by omega
     have h2:(k*6+w)%6=w:=by omega
     rw[if_pos rfl,h1,h2,if_pos (by omega)]
   · rw[if_neg e2]
     by_cases h1:y/6=k∧y%6<w
     · rw[if_pos h1,if_pos (by omega)]
     · rw[if_neg h1,if_neg (c:=y/6=k∧y%6<w+1) (by omega)]
       by_cases h2:y/6=i∧y%6<w
       · rw[if_pos h2,if_pos (by omega)]
       · rw[if_neg h2,if_neg (by omega)]
theorem pourW_get {B:List Int} {i k w:Nat} (hi:i<4) (hk:k<4) (hw:w<6):(pourW B i k w).getD (k*6+w) 0=B.getD (k*6+w) 0∧(pourW B i k w).getD (i*6+w) 0=B.getD (i*6+w) 0:=by
 unfold pourW
 rw[map24_get (by omega),map24_get (by omega)]
 have h1:(i*6+w)/6=i:=by omega
 have h2:(i*6+w)%6=w:=by omega
 have h3:(k*6+w)/6=k:=by omega
 have h4:(k*6+w)%6=w:=by omega
 rw[h1,h2,h3,h4]
 refine⟨?_,?_⟩
 · rw[if_neg (by omega),if_neg (by omega)]
 · rw[if_neg (by omega),if_neg (by omega)]
theorem rready_c (d:Dl) (B:List Int) (h:bgIn B) (h2:d.kind=2→(0≤d.bag∧d.bag≤3)∧(0≤d.wood∧d.wood≤5)∧0≤d.count∧d.count≤1000000) (h3:d.kind=3→(0≤d.bag∧d.bag≤3)∧(0≤d.other∧d.other≤3)∧d.bag≠d.other):
  Fn0 Try.prog 64 [bgV B,dlA d] (fun v=>v=bgV (mixedB d B)):=by
 have hl:=h.l
 unfold mixedB
 by_cases e2:d.kind=2
 · obtain⟨b1,b2,b3⟩:=h2 e2
   rw[if_pos e2]
   have hp:=h.at (d.bag.toNat*6+d.wood.toNat)
   have ho:0+d.bag.toNat*6+d.wood.toNat*1=d.bag.toNat*6+d.wood.toNat:=by omega
   have hsl:(B.set (d.bag.toNat*6+d.wood.toNat) (B.getD (d.bag.toNat*6+d.wood.toNat) 0+d.count)).length=24:=by rw[List.length_set];exact hl
   refine RawC.walk (H:=hint64 Try.prog) ir64 Try.func64 rfl rfl rfl ?_
   unfold ir64
   repeat' (first
    | refine advE ?_ | with_reducible refine w_alt ?_ ?_
    | (first | (refine w_boxN rfl hl ?_;intro g2) | refine w_ldEl rfl ho rfl (by omega) ?_ | refine w_stEl rfl ho rfl (by omega) rfl ?_ | refine w_ldN rfl rfl hsl ?_ | refine w_stN rfl rfl rfl rfl hsl ?_)
    | with_reducible refine zI fun y hy=>?_ | refine advL ?_
    | refine adv ?_ | with_reducible (first | intro _ | refine Rt.p (fun _=>?_) fun _=>?_)
    | ((with_reducible apply w_ixM);(focus exact rfl);(focus exact rfl);case' hk=>intro y hy) | ((with_reducible (first | apply w_val | apply q_ends));(focus exact rfl)))
   all_goals first
    | (exfalso;omega)
    | exact end_bg hsl
 rw[if_neg e2]
 by_cases e3:d.kind=3
 case neg=>
  rw[if_neg e3]
  refine RawC.walk (H:=hint64 Try.prog) ir64 Try.func64 rfl rfl rfl ?_
  unfold ir64
  repeat' (first
   | refine advE ?_ | with_reducible refine w_alt ?_ ?_
   | (first | (refine w_boxN rfl hl ?_;intro g2) | refine w_ldN rfl rfl hl ?_ | refine w_stN rfl rfl rfl rfl hl ?_)
   | with_reducible refine zI fun y hy=>?_ | refine advL ?_
   | refine adv ?_ | with_reducible (first | intro _ | refine Rt.p (fun _=>?_) fun _=>?_)
   | ((with_reducible apply w_ixM);(focus exact rfl);(focus exact rfl);case' hk=>intro y hy) | ((with_reducible (first | apply w_val | apply q_ends));(focus exact rfl)))
  all_goals first
   | (exfalso;omega)
   | exact end_bg hl
 obtain⟨b1,b2,b3⟩:=h3 e3
 rw[if_pos e3]
 refine RawC.walk (H:=hint64 Try.prog) ir64 Try.func64 rfl rfl rfl ?_
 unfold ir64
 repeat' (first
  | refine advE ?_ | with_reducible refine w_alt ?_ ?_
  | (first | (refine w_boxN rfl hl ?_;intro g2))
  | with_reducible refine zI fun y hy=>?_ | refine advL ?_
  | refine adv ?_ | with_reducible (first | intro _ | refine Rt.p (fun _=>?_) fun _=>?_)
  | ((with_reducible apply w_ixM);(focus exact rfl);(focus exact rfl);case' hk=>intro y hy) | ((with_reducible (first | apply w_val | apply q_ends));(focus exact rfl)))
 all_goals try (exfalso;omega)
 rename_i g3 g4
 refine w_loopK [2,3,4] [3,4] (fun w:Nat=>w≤6) (fun w=>6-w) (fun w=>[(5,.int .i64 (w:Int))]) (fun w=>[(2,(g2,.row (nI (pourW B d.bag.toNat d.other.toNat w))))]) 0 (Nat.zero_le _) ⟨rfl,trivial⟩ ⟨by rw[pourW_zero hl];rfl,trivial⟩ ?_
 rintro w hw e σ
 try dsimp only at hw ⊢
 have hpl:=pourW_len B d.bag.toNat d.other.toNat w
 by_cases hw6:w=6
 · subst hw6
   rw[pourW_six] at hpl ⊢
   repeat' (first
    | refine advE ?_ | with_reducible refine w_alt ?_ ?_
    | (first | refine w_ldN rfl rfl hpl ?_ | refine w_stN rfl rfl rfl rfl hpl ?_)
    | with_reducible refine zI fun y hy=>?_ | refine advL ?_
    | refine adv ?_ | with_reducible (first | intro _ | refine Rt.p (fun _=>?_) fun _=>?_)
    | ((with_reducible apply w_ixM);(focus exact rfl);(focus exact rfl);case' hk=>intro y hy) | ((with_reducible (first | apply w_val | apply q_ends));(focus exact rfl)))
   all_goals first
    | (exfalso;omega)
    | exact end_bg hpl
 have ho:0+d.other.toNat*6+w*1=d.other.toNat*6+w:=by omega
 have hb:0+d.bag.toNat*6+w*1=d.bag.toNat*6+w:=by omega
 have q1:=h.at (d.other.toNat*6+w)
 have q2:=h.at (d.bag.toNat*6+w)
 obtain⟨p1,p2⟩:=pourW_get (B:=B) (i:=d.bag.toNat) (k:=d.other.toNat) (w:=w) (by omega) (by omega) (by omega)
 have hps:=pourW_succ (B:=B) (i:=d.bag.toNat) (k:=d.other.toNat) (w:=w) (by omega) (by omega) (by omega) (by omega)
 generalize pourW B d.bag.toNat d.other.toNat w=PK at*
 have hsl:d.bag.toNat*6+w<(PK.set (d.other.toNat*6+w) (B.getD (d.other.toNat*6+w) 0+B.getD (d.bag.toNat*6+w) 0)).length:=by rw[List.length_set];omega
 repeat' (first
  | refine advE ?_ | with_reducible refine w_alt ?_ ?_
  | (first | refine w_ldV rfl ho rfl (by omega) p1 ?_ | refine w_ldV rfl hb rfl (by omega) p2 ?_ | refine w_stEl rfl ho rfl (by omega) rfl ?_ | refine w_stEl rfl hb rfl hsl rfl ?_)
  | with_reducible refine zI fun y hy=>?_ | refine advL ?_
  | refine adv ?_ | with_reducible (first | intro _ | refine Rt.p (fun _=>?_) fun _=>?_)
  | ((with_reducible apply w_ixM);(focus exact rfl);(focus exact rfl);case' hk=>intro y hy) | ((with_reducible (first | apply w_val | apply q_ends));(focus exact rfl)))
 all_goals first
  | (exfalso;omega)
  | exact q_loop (w+1) (by show w+1≤6;omega) (by show 6-(w+1)<6-w;omega) ⟨int_eq (by simp),trivial⟩ ⟨by rw[←hps];rfl,trivial⟩ (by repeat' (first | exact kept_nil | apply kept_cons | rfl)) (by repeat' (first | exact kept_nil | apply kept_cons | rfl))
def ir58:IFn:=
 ⟨39,[(2,none)],(.seq (.ops [oo 1 (.box 2 0),
 oo 2 (.mov (.k .nsl))])
 (.seq (.ops [oo 3 (.nil 5 3)])
 (.seq (.seq (.ops [oo 4 (.mov (kI 0))])
 (.blk 0 (.loop (.seq (.seq (.ops [oo 7 (.mov 4),
 oo 8 (.flA 1 1),
 oo 9 (.ld 1 false 8),
 oo 10 (.len false 9),
 oo 11 (.bin .lss 7 10)])
 (.cnd 11
 .skip
 (.exit 0)))
 (.seq (.blk 1 (.seq (.ops [oo 14 (.flA 1 1),
 oo 15 (.ld 1 false 14),
 oo 16 (.mov 4),
 oo 17 (.ixA 5 15 16),
 oo 18 (.ld 5 true 17),
 oo 5 (.new [(.int .i64 0),(.int .i64 0),(.int .i64 0),(.int .i64 0),(.int .i64 0)]),
 ⟨none,none,(.st 5 5 18)⟩])
 (.seq (.ops [oo 6 (.mov (kI 1))])
 (.seq (.seq (.ops [oo 19 (.flA 0 5),
 oo 20 (.ld 1 false 19),
 oo 21 (.bin .eql 20 (kI 4)),
 oo 22 (.mov 21),
 ⟨(some 23),(some (22,false)),(.flA 0 5)⟩,
 ⟨(some 24),(some (22,false)),(.ld 1 false 23)⟩,
 ⟨(some 25),(some (22,false)),(.bin .eql 24 (kI 5))⟩,
 oo 26 (.pick 22 (kB true) 25)])
 (.cnd 26
 (.ops [oo 27 (.flA 4 5),
 oo 28 (.ld 1 false 27),
 oo 6 (.mov 28),
 oo 29 (.flA 4 5),
 ⟨none,none,(.st 1 29 (kI 1))⟩])
 .skip))
 (.blk 2 (.loop (.seq (.seq (.ops [oo 30 (.mov 6),
 oo 31 (.bin .gtr 30 (kI 0))])
 (.cnd 31
 .skip
 (.exit 2)))
 (.seq (.blk 3 (.ops [oo 34 (.mov 3),
 oo 35 (.ld 5 true 5),
 oo 36 (.bsl 5 [[(.int .i64 0),(.int .i64 0),(.int .i64 0),(.int .i64 0),(.int .i64 0)]] [(0,35)]),
 oo 37 (.app 5 40 34 36 3),
 oo 3 (.mov 37)]))
 (.ops [oo 32 (.mov 6),
 oo 33 (.bin .sub 32 (kI 1)),
 oo 6 (.mov 33)])))))))))
 (.ops [oo 12 (.mov 4),
 oo 13 (.bin .add 12 (kI 1)),
 oo 4 (.mov 13)]))))))
 (.seq (.ops [oo 38 (.mov 3),
 oo 2 (.mov 38)])
 .ret))))⟩
def hint58 (P:Program):Hint:={site:=[(37,3)],nils:=[(3,5)],frz:=[],mve:=[],wr:=[] }
def spOf (d:Dl):Sp:=(d,drawsB d,decide (d.kind=5) || decide (d.kind=6))
def act1 (d:Dl):List Dl:=if drawsB d=true then List.replicate d.count.toNat {d with count:=1 } else[d]
def actsF (l:List Dl):List Dl:=l.flatMap act1
def nrm (x:Sp):Sp:=if x.2.1=true then ({x.1 with count:=1 },x.2) else x
theorem act1_sp (d:Dl):(act1 d).map spOf=(stp1 d).map nrm:=by
 unfold act1 stp1
 by_cases h:drawsB d=true
 · rw[if_pos h,if_pos h,List.map_replicate,List.map_replicate]
   congr 1
   have hk:d.kind=4∨d.kind=5:=by simpa[drawsB] using h
   have h6:decide (d.kind=6)=false:=decide_eq_false (by omega)
   have h':drawsB {d with count:=1 }=true:=h
   unfold spOf nrm
   rw[h',if_pos rfl]
   show (_,true,decide (d.kind=5) || decide (d.kind=6))=_
   rw[h6,Bool.or_false]
 · have h':drawsB d=false:=by simpa using h
   rw[if_neg h,if_neg h]
   have h5:decide (d.kind=5)=false:=by
    have:¬(d.kind=4∨d.kind=5):=by simpa[drawsB] using h
    exact decide_eq_false (by omega)
   unfold spOf nrm
   simp only[List.map_cons,List.map_nil,h',h5,Bool.false_or,Bool.false_eq_true,if_false]
theorem acts_sp:∀l:List Dl,(actsF l).map spOf=(stepsG l).map nrm
 | []=>rfl
 | d::r=>by
   show (act1 d++actsF r).map spOf=(stp1 d++stepsG r).map nrm
   rw[List.map_append,List.map_append,act1_sp,acts_sp r]
theorem nrm_2 (x:Sp):(nrm x).2=x.2:=by unfold nrm;split<;>rfl
theorem nrm_bag (x:Sp):(nrm x).1.bag=x.1.bag∧(nrm x).1.wood=x.1.wood∧(nrm x).1.kind=x.1.kind∧(nrm x).1.other=x.1.other:=by unfold nrm;split<;>exact⟨rfl,rfl,rfl,rfl⟩
theorem nrm_f {x:Sp} (h:x.2.1=false):nrm x=x:=by unfold nrm;rw[h];rfl
theorem spB_nrm (x:Sp) (b:List Int):spB (nrm x) b=spB x b:=by
 by_cases h:x.2.1=true
 · unfold spB;rw[nrm_2,if_pos h,if_pos h,(nrm_bag x).1]
 · rw[nrm_f (by simpa using h)]
theorem spM_nrm (x:Sp) (m:Int):spM (nrm x) m=spM x m:=by
 by_cases h:x.2.1=true
 · unfold spM;rw[nrm_2,if_pos h,if_pos h]
 · rw[nrm_f (by simpa using h)]
theorem runOK_nrm {n:Nat}:∀{l:List Sp} {b:List Int} {m:Int},runOK n l b m→runOK n (l.map nrm) b m
 | [],_,_,_=>trivial
 | x::r,b,m,h=>by
   refine⟨?_,?_⟩
   · by_cases hd:x.2.1=true
     · refine⟨fun _=>by rw[(nrm_bag x).1];exact h.1.d hd,fun h2=>?_,fun h2=>?_⟩
       · rw[nrm_2,hd] at h2;cases h2
       · rw[nrm_2,hd] at h2;cases h2
     · rw[nrm_f (by simpa using hd)];exact h.1
   · rw[spB_nrm,spM_nrm];exact runOK_nrm h.2
theorem szL_nrm:∀(l:List Sp) (b:List Int),szL (l.map nrm) b=szL l b
 | [],_=>rfl
 | x::r,b=>by rw[List.map_cons,szL,szL,spB_nrm,szL_nrm r,nrm_2,(nrm_bag x).1]
theorem act1_len {d:Dl} (h:drawsB d=true→1≤d.count∧d.count≤12):(act1 d).length≤12:=by
 unfold act1
 split
 · rw[List.length_replicate];have:=h (by assumption);omega
 · simp
theorem acts_len:∀(l:List Dl),(∀d∈l,drawsB d=true→1≤d.count∧d.count≤12)→(actsF l).length≤12*l.length
 | [],_=>Nat.le_refl _
 | d::r,h=>by
   have h1:=act1_len (h d (by simp))
   have h2:=acts_len r fun x hx=>h x (by simp[hx])
   show (act1 d++actsF r).length≤12*(r.length+1)
   rw[List.length_append];omega
theorem dl_snoc (out:List Dl) (d:Dl) (g:Nat):AV.slc 5 (dlR out++[[.int .i64 d.kind,.int .i64 d.bag,.int .i64 d.other,.int .i64 d.wood,.int .i64 d.count]]) (.own 3 g)=AV.slc 5 (dlR (out++[d])) (.own 3 g):=
 congrArg (fun z=>AV.slc 5 z (.own 3 g)) (map_snoc (f:=fun d:Dl=>[AV.int .i64 d.kind,.int .i64 d.bag,.int .i64 d.other,.int .i64 d.wood,.int .i64 d.count]) (x:=d)).symm
theorem acts_c (G:Gm) (hd:G.ds.length≤24) (hc:∀d∈G.ds,drawsB d=true→1≤d.count∧d.count≤12):Fn0 Try.prog 58 [gmA G] (fun v=>v= .slc 5 (dlR (actsF G.ds)) .non):=by
 refine RawC.walk (H:=hint58 Try.prog) ir58 Try.func58 rfl rfl rfl ?_
 unfold ir58
 repeat' (first
  | refine advE ?_ | with_reducible refine w_alt ?_ ?_
  | with_reducible refine zI fun y hy=>?_ | refine advL ?_
  | refine adv ?_ | with_reducible (first | intro _ | refine Rt.p (fun _=>?_) fun _=>?_)
  | ((with_reducible apply w_ixM);(focus exact rfl);(focus exact rfl);case' hk=>intro y hy) | ((with_reducible (first | apply w_val | apply q_ends));(focus exact rfl)))
 rename_i g1 g3
 refine w_loopK [1] [1] (fun x:List Dl×List Dl×List Dl×Nat=>G.ds=x.1++x.2.1∧x.2.2.1++actsF x.2.1=actsF G.ds∧x.2.2.1.length≤12*x.1.length) (fun x=>x.2.1.length) (fun x=>[(4,.int .i64 (x.1.length:Int)),(3,.slc 5 (dlR x.2.2.1) (.own 3 x.2.2.2))]) (fun x=>[(3,(x.2.2.2,.row []))]) ([],G.ds,[],g3) ⟨rfl,rfl,Nat.le_refl _⟩ ⟨rfl,rfl,trivial⟩ ⟨rfl,trivial⟩ ?_
 rintro⟨pre,post,out,g⟩ ⟨hl,he,ho⟩ e σ
 dsimp only at hl he ho ⊢
 have hlen:=congrArg List.length hl
 rw[List.length_append] at hlen
 have hol:(dlR out).length=out.length:=List.length_map _
 cases post with
 | nil=>
   simp only[List.length_nil] at hlen
   rw[show actsF []=[] from rfl,List.append_nil] at he
   repeat' (first
    | refine advE ?_ | with_reducible refine w_alt ?_ ?_
    | with_reducible refine zI fun y hy=>?_ | refine advL ?_
    | refine adv ?_ | with_reducible (first | intro _ | refine Rt.p (fun _=>?_) fun _=>?_)
    | ((with_reducible apply w_ixM);(focus exact rfl);(focus exact rfl);case' hk=>intro y hy) | ((with_reducible (first | apply w_val | apply q_ends));(focus exact rfl)))
   all_goals first
    | (exfalso;omega)
    | (rw[←he];rfl)
 | cons d post=>
   simp only[List.length_cons] at hlen
   have hdc:=hc d (by rw[hl];simp)
   have hl1:=act1_len hdc
   have he1:out++(act1 d++actsF post)=actsF G.ds:=by rw[←he];rfl
   by_cases hdr:drawsB d=true
   · have hk:d.kind=4∨d.kind=5:=by simpa[drawsB] using hdr
     have hdn:=hdc hdr
     have e1:act1 d=List.replicate d.count.toNat {d with count:=1 }:=by unfold act1;rw[hdr];rfl
     rw[e1] at he1
     by_cases h4:d.kind=4
     all_goals
      repeat' (first
       | refine advE ?_ | with_reducible refine w_alt ?_ ?_
       | (refine w_ixP (f:=fun d:Dl=>[AV.int .i64 d.kind,.int .i64 d.bag,.int .i64 d.other,.int .i64 d.wood,.int .i64 d.count]) hl rfl rfl ?_)
       | with_reducible refine zI fun y hy=>?_ | refine advL ?_
       | refine adv ?_ | with_reducible (first | intro _ | refine Rt.p (fun _=>?_) fun _=>?_)
       | ((with_reducible apply w_ixM);(focus exact rfl);(focus exact rfl);case' hk=>intro y hy) | ((with_reducible (first | apply w_val | apply q_ends));(focus exact rfl)))
      all_goals try (exfalso;omega)
      refine w_loopK [1,4,5] [1,5] (fun x:Nat×Nat×Nat=>(x.1:Int)+x.2.1=d.count) (fun x=>x.2.1) (fun x=>[(6,.int .i64 (x.2.1:Int)),(3,.slc 5 (dlR (out++List.replicate x.1 {d with count:=1 })) (.own 3 x.2.2))]) (fun x=>[(3,(x.2.2,.row []))]) (0,d.count.toNat,g) (by show (0:Int)+((d.count.toNat:Nat):Int)=_;omega) ⟨int_eq (by show d.count=((d.count.toNat:Nat):Int);omega),by show AV.slc 5 (dlR out) _=AV.slc 5 (dlR (out++[])) _;rw[List.append_nil],trivial⟩ ⟨rfl,trivial⟩ ?_
      rintro⟨j,k,g'⟩ hj e2 σ2
      dsimp only at hj ⊢
      have hol2:(dlR (out++List.replicate j {d with count:=1 })).length=out.length+j:=by rw[List.length_map,List.length_append,List.length_replicate]
      have hol3:(out++List.replicate j {d with count:=1 }).length=out.length+j:=by rw[List.length_append,List.length_replicate]
      cases k with
      | zero=>
        have hjn:d.count.toNat=j:=by omega
        rw[hjn] at he1
        repeat' (first
         | refine advE ?_ | with_reducible refine w_alt ?_ ?_
         | with_reducible refine zI fun y hy=>?_ | refine advL ?_
         | refine adv ?_ | with_reducible (first | intro _ | refine Rt.p (fun _=>?_) fun _=>?_)
         | ((with_reducible apply w_ixM);(focus exact rfl);(focus exact rfl);case' hk=>intro y hy) | ((with_reducible (first | apply w_val | apply q_ends));(focus exact rfl)))
        all_goals first
         | (exfalso;omega)
         | exact q_loop (pre++[d],post,out++List.replicate j {d with count:=1 },g') ⟨by rw[hl];simp,by rw[←he1];simp,by show (out++List.replicate j _).length≤_;rw[hol3,List.length_append];simp only[List.length_cons,List.length_nil];omega⟩ (by show post.length<post.length+1;omega) ⟨by rw[len_snoc];rfl,rfl,trivial⟩ (by repeat' (first | exact slots_nil | apply slots_cons | rfl | (rw[map_snoc];rfl) | (rw[len_snoc];rfl) | (rw[hS];rfl) | (rw[hS,map_snoc];rfl) | (refine int_eq ?_;(try dsimp only);omega) | (refine congrArg AV.bool ?_;simp_all;done))) (by repeat' (first | exact kept_nil | apply kept_cons | rfl)) (by repeat' (first | exact kept_nil | apply kept_cons | rfl))
      | succ k=>
        repeat' (first
         | refine advE ?_ | with_reducible refine w_alt ?_ ?_
         | with_reducible refine zI fun y hy=>?_ | refine advL ?_
         | refine adv ?_ | with_reducible (first | intro _ | refine Rt.p (fun _=>?_) fun _=>?_)
         | ((with_reducible apply w_ixM);(focus exact rfl);(focus exact rfl);case' hk=>intro y hy) | ((with_reducible (first | apply w_val | apply q_ends));(focus exact rfl)))
        all_goals try (exfalso;omega)
        all_goals
         rename_i g4
         have hsn:out++List.replicate j {d with count:=1 }++[{d with count:=1 }]=out++List.replicate (j+1) {d with count:=1 }:=by rw[List.append_assoc,List.replicate_succ']
         refine q_loop (j+1,k,g4) (by show ((j+1:Nat):Int)+k=_;omega) (Nat.lt_succ_self k) ⟨int_eq (by simp),?_,trivial⟩ (by repeat' (first | exact slots_nil | apply slots_cons | rfl | (rw[map_snoc];rfl) | (rw[len_snoc];rfl) | (rw[hS];rfl) | (rw[hS,map_snoc];rfl) | (refine int_eq ?_;(try dsimp only);omega) | (refine congrArg AV.bool ?_;simp_all;done))) (by repeat' (first | exact kept_nil | apply kept_cons | rfl)) (by repeat' (first | exact kept_nil | apply kept_cons | rfl))
         rw[←hsn]
         exact dl_snoc (out++List.replicate j {d with count:=1 }) {d with count:=1 } g4
   · have hk:¬(d.kind=4∨d.kind=5):=by simpa[drawsB] using hdr
     have e1:act1 d=[d]:=by unfold act1;rw[if_neg hdr]
     rw[e1] at he1
     repeat' (first
      | refine advE ?_ | with_reducible refine w_alt ?_ ?_
      | (refine w_ixP (f:=fun d:Dl=>[AV.int .i64 d.kind,.int .i64 d.bag,.int .i64 d.other,.int .i64 d.wood,.int .i64 d.count]) hl rfl rfl ?_)
      | with_reducible refine zI fun y hy=>?_ | refine advL ?_
      | refine adv ?_ | with_reducible (first | intro _ | refine Rt.p (fun _=>?_) fun _=>?_)
      | ((with_reducible apply w_ixM);(focus exact rfl);(focus exact rfl);case' hk=>intro y hy) | ((with_reducible (first | apply w_val | apply q_ends));(focus exact rfl)))
     all_goals try (exfalso;omega)
     refine w_loopK [1,4,5] [1,5] (fun x:Bool×Nat=>True) (fun x=>if x.1=true then 1 else 0) (fun x=>[(6,.int .i64 (if x.1=true then 1 else 0)),(3,.slc 5 (dlR (if x.1=true then out else out++[d])) (.own 3 x.2))]) (fun x=>[(3,(x.2,.row []))]) (true,g) trivial ⟨rfl,rfl,trivial⟩ ⟨rfl,trivial⟩ ?_
     rintro⟨b,g'⟩ _ e2 σ2
     cases b with
     | true=>
       simp only[if_true]
       repeat' (first
        | refine advE ?_ | with_reducible refine w_alt ?_ ?_
        | with_reducible refine zI fun y hy=>?_ | refine advL ?_
        | refine adv ?_ | with_reducible (first | intro _ | refine Rt.p (fun _=>?_) fun _=>?_)
        | ((with_reducible apply w_ixM);(focus exact rfl);(focus exact rfl);case' hk=>intro y hy) | ((with_reducible (first | apply w_val | apply q_ends));(focus exact rfl)))
       all_goals try (exfalso;omega)
       all_goals
        rename_i g4
        exact q_loop (false,g4) trivial (by show (0:Nat)<1;decide) ⟨rfl,by first | rfl | exact dl_snoc out d g4,trivial⟩ (by repeat' (first | exact slots_nil | apply slots_cons | rfl | (rw[map_snoc];rfl) | (rw[len_snoc];rfl) | (rw[hS];rfl) | (rw[hS,map_snoc];rfl) | (refine int_eq ?_;(try dsimp only);omega) | (refine congrArg AV.bool ?_;simp_all;done))) (by repeat' (first | exact kept_nil | apply kept_cons | rfl)) (by repeat' (first | exact kept_nil | apply kept_cons | rfl))
     | false=>
       simp only[Bool.false_eq_true,if_false]
       repeat' (first
        | refine advE ?_ | with_reducible refine w_alt ?_ ?_
        | with_reducible refine zI fun y hy=>?_ | refine advL ?_
        | refine adv ?_ | with_reducible (first | intro _ | refine Rt.p (fun _=>?_) fun _=>?_)
        | ((with_reducible apply w_ixM);(focus exact rfl);(focus exact rfl);case' hk=>intro y hy) | ((with_reducible (first | apply w_val | apply q_ends));(focus exact rfl)))
       all_goals first
        | (exfalso;omega)
        | exact q_loop (pre++[d],post,out++[d],g') ⟨by rw[hl];simp,by rw[←he1];simp,by show (out++[_]).length≤_;rw[List.length_append,List.length_append];simp only[List.length_cons,List.length_nil];omega⟩ (by show post.length<post.length+1;omega) ⟨by rw[len_snoc];rfl,rfl,trivial⟩ (by repeat' (first | exact slots_nil | apply slots_cons | rfl | (rw[map_snoc];rfl) | (rw[len_snoc];rfl) | (rw[hS];rfl) | (rw[hS,map_snoc];rfl) | (refine int_eq ?_;(try dsimp only);omega) | (refine congrArg AV.bool ?_;simp_all;done))) (by repeat' (first | exact kept_nil | apply kept_cons | rfl)) (by repeat' (first | exact kept_nil | apply kept_cons | rfl))
section
variable {P:Program} {K:(Nat→AV)→Sig→Prop} {e:Nat→AV} {σ:Sig} {x:IOpd} {r:List IStep} {i g t n:Nat} {B:List Int}
theorem w_chkN (hx:x.ev e= .ref i g 0) (hσ:σ i=(g,.row (nI B))) (hn:B.length=n) (ht:e t= .agg (nI B)) (hk:stepsW P r K e σ):stepsW P (⟨none,none,.chk n true x t⟩::r) K e σ:=by
 have e1:ldO n true σ (x.ev e)=some (g=g∧0+n≤(nI B).length,.agg (nI B)):=by
  rw[hx]
  simp only[ldO,hσ,partO]
  rw[List.drop_zero,List.take_of_length_le (by rw[List.length_map];omega)]
 refine w_det0 (p:=(g=g∧0+n≤(nI B).length)∧ .agg (nI B)=e t) (v:= .junk) (σ':=σ) (fun _=>?_) ⟨⟨rfl,by rw[List.length_map];omega⟩,ht.symm⟩ hk
 show (match ldO n true σ (x.ev e) with
  | some (p,v)=>some (p∧v=e t,AV.junk,σ)
  | none=>none)=_
 rw[e1]
end
def ir25:IFn:=
 ⟨51,[(2,none)],(.seq (.ops [oo 1 (.box 2 0),
 oo 2 (.mov (.k .nsl))])
 (.seq (.ops [oo 3 (.nil 1 3)])
 (.seq (.ops [oo 4 (.new [(.int .i64 0),(.int .i64 0),(.int .i64 0),(.int .i64 0),(.int .i64 0),(.int .i64 0),(.int .i64 0),(.int .i64 0),(.int .i64 0),(.int .i64 0),(.int .i64 0),(.int .i64 0),(.int .i64 0),(.int .i64 0),(.int .i64 0),(.int .i64 0),(.int .i64 0),(.int .i64 0),(.int .i64 0),(.int .i64 0),(.int .i64 0),(.int .i64 0),(.int .i64 0),(.int .i64 0)])])
 (.seq (.ops [oo 7 (.ld 2 true 1),
 oo 8 (.callF 58 [7]),
 oo 5 (.mov 8)])
 (.seq (.seq (.ops [oo 6 (.mov (kI 0))])
 (.blk 0 (.loop (.seq (.seq (.ops [oo 9 (.mov 6),
 oo 10 (.mov 5),
 oo 11 (.len false 10),
 oo 12 (.bin .lss 9 11)])
 (.cnd 12
 .skip
 (.exit 0)))
 (.seq (.blk 1 (.seq (.seq (.ops [oo 15 (.mov 5),
 oo 16 (.mov 6),
 oo 17 (.ixA 5 15 16),
 oo 18 (.ld 5 true 17),
 oo 19 (.callF 60 [18])])
 (.cnd 19
 (.seq (.ops [oo 20 (.mov 3),
 oo 21 (.ld 24 true 4),
 oo 22 (.mov 5),
 oo 23 (.mov 6),
 oo 24 (.ixA 5 22 23),
 oo 25 (.flA 1 24),
 oo 26 (.ld 1 false 25),
 oo 27 (.callF 61 [21,26]),
 oo 28 (.bsl 1 [[(.int .i64 0)]] [(0,27)]),
 oo 29 (.app 1 8 20 28 3),
 oo 3 (.mov 29)])
 (.seq (.ops [oo 30 (.ld 24 true 4),
 oo 31 (.mov 5),
 oo 32 (.mov 6),
 oo 33 (.ixA 5 31 32),
 oo 34 (.flA 1 33),
 oo 35 (.ld 1 false 34),
 oo 36 (.ld 24 true 4),
 oo 37 (.mov 5),
 oo 38 (.mov 6),
 oo 39 (.ixA 5 37 38),
 oo 40 (.flA 1 39),
 oo 41 (.ld 1 false 40),
 oo 42 (.callF 63 [36,41,(kI 0)]),
 ⟨none,none,(.chk 24 true 4 30)⟩,
 ⟨none,none,(.chk 1 false 34 35)⟩,
 oo 43 (.callF 62 [30,35,42]),
 ⟨none,none,(.st 24 4 43)⟩])
 (.exit 1)))
 .skip))
 (.ops [oo 44 (.ld 24 true 4),
 oo 45 (.mov 5),
 oo 46 (.mov 6),
 oo 47 (.ixA 5 45 46),
 oo 48 (.ld 5 true 47),
 oo 49 (.callF 64 [44,48]),
 ⟨none,none,(.st 24 4 49)⟩])))
 (.ops [oo 13 (.mov 6),
 oo 14 (.bin .add 13 (kI 1)),
 oo 6 (.mov 14)]))))))
 (.seq (.ops [oo 50 (.mov 3),
 oo 2 (.mov 50)])
 .ret))))))⟩
def hint25 (P:Program):Hint:={site:=[(29,3)],nils:=[(3,1)],frz:=[],mve:=[],wr:=[] }
theorem run_acts {G:Gm} (h:GOK G):runOK G.ws.length ((actsF G.ds).map spOf) tb0.bags tb0.mixed:=by
 rw[acts_sp];exact runOK_nrm h.ex
theorem ACall.bg2i {P:Program} {f:Nat} {B:List Int} {a1 a2:List AV} {r:Int} {σ:Sig} {d:Nat} {Q:AV→Sig→Prop} (h:Fn0 P f (bgV B::a1) (fun a=>a= .int .i64 r)) (ha:a1=renL [] a2) (hQ:Q (.int .i64 r) σ):ACall P f (bgV B::a2) σ d Q:=
 ACall.val h (by show bgV B::a1=ren [] (bgV B)::renL [] a2;rw[ren_bg,ha]) rfl hQ
theorem ACall.bg2b {P:Program} {f:Nat} {B C:List Int} {a1 a2:List AV} {σ:Sig} {d:Nat} {Q:AV→Sig→Prop} (h:Fn0 P f (bgV B::a1) (fun a=>a=bgV C)) (ha:a1=renL [] a2) (hQ:Q (bgV C) σ):ACall P f (bgV B::a2) σ d Q:=
 ACall.val h (by show bgV B::a1=ren [] (bgV B)::renL [] a2;rw[ren_bg,ha]) (ren_bg [] C) hQ
theorem Sizes_c (G:Gm) (h:GOK G):Fn0 Try.prog 25 [gmA G] (fun v=>v= .slc 1 (iR (szL (stepsG G.ds) tb0.bags)) .non):=by
 have hac:=acts_c G h.d24 h.cnt
 have hal:=acts_len G.ds h.cnt
 have hrun:=run_acts h
 have hd24:=h.d24
 have hsz:szL ((actsF G.ds).map spOf) tb0.bags=szL (stepsG G.ds) tb0.bags:=by rw[acts_sp,szL_nrm]
 obtain⟨A,hA⟩:∃A,actsF G.ds=A:=⟨_,rfl⟩
 rw[hA] at hac hal hrun hsz
 rw[←hsz]
 refine RawC.walk (H:=hint25 Try.prog) ir25 Try.func25 rfl rfl rfl ?_
 unfold ir25
 repeat' (first
  | refine advE ?_ | with_reducible refine w_alt ?_ ?_
  | with_reducible refine zI fun y hy=>?_ | refine advL ?_
  | ((with_reducible refine acall_id ?_);refine ACall.val hac rfl rfl ?_)
  | refine adv ?_ | with_reducible (first | intro _ | refine Rt.p (fun _=>?_) fun _=>?_)
  | ((with_reducible apply w_ixM);(focus exact rfl);(focus exact rfl);case' hk=>intro y hy) | ((with_reducible (first | apply w_val | apply q_ends));(focus exact rfl)))
 rename_i g3 g4
 refine w_loopK [4,5] [] (fun x:List Dl×List Dl×List Int×List Int×Nat×List Int×Int=>A=x.1++x.2.1∧x.2.2.2.1++szL (x.2.1.map spOf) x.2.2.2.2.2.1=szL (A.map spOf) tb0.bags∧x.2.2.2.1.length≤x.1.length∧tbIn x.2.2.2.2.2.1 x.2.2.2.2.2.2∧runOK G.ws.length (x.2.1.map spOf) x.2.2.2.2.2.1 x.2.2.2.2.2.2∧bgT G.ws.length x.2.2.2.2.2.1 x.2.2.1) (fun x=>x.2.1.length)
  (fun x=>[(6,.int .i64 (x.1.length:Int)),(3,.slc 1 (iR x.2.2.2.1) (.own 3 x.2.2.2.2.1))]) (fun x=>[(4,(g4,.row (nI x.2.2.1))),(3,(x.2.2.2.2.1,.row []))]) ([],A,bg0,[],g3,tb0.bags,tb0.mixed) ⟨rfl,rfl,Nat.le_refl _,tb0_in,hrun,bgT0 _⟩ ⟨rfl,rfl,trivial⟩ ⟨rfl,rfl,trivial⟩ ?_
 rintro⟨pre,post,B,out,g,b,m⟩ ⟨hl,he,ho,ht,hr,hB⟩ e σ
 dsimp only at hl he ho ht hr hB ⊢
 have hlen:=congrArg List.length hl
 rw[List.length_append] at hlen
 have hol:(iR out).length=out.length:=List.length_map _
 have hBl:=hB.l
 have hin:=hB.bgin ht
 cases post with
 | nil=>
   simp only[List.length_nil] at hlen
   rw[show szL (List.map spOf []) b=[] from rfl,List.append_nil] at he
   rw[←he]
   repeat' (first
    | refine advE ?_ | with_reducible refine w_alt ?_ ?_
    | with_reducible refine zI fun y hy=>?_ | refine advL ?_
    | refine adv ?_ | with_reducible (first | intro _ | refine Rt.p (fun _=>?_) fun _=>?_)
    | ((with_reducible apply w_ixM);(focus exact rfl);(focus exact rfl);case' hk=>intro y hy) | ((with_reducible (first | apply w_val | apply q_ends));(focus exact rfl)))
   all_goals first
    | (exfalso;omega)
    | rfl
 | cons d post=>
   simp only[List.length_cons] at hlen
   have hx:=hr.1
   have hds:=rdraws_c d
   cases hdb:drawsB d with
   | true=>
     rw[hdb] at hds
     obtain⟨hb,ha⟩:=hx.d hdb
     have hsz1:=hB.size hb
     have hle:=ht.le hb
     have hsm:=ht.sm
     have hm:=ht.m
     change 0≤d.bag∧d.bag≤3 at hb
     change 1≤atI b d.bag at ha
     change bgSize B d.bag=atI b d.bag at hsz1
     change atI b d.bag≤sumB b at hle
     have hs1:=rsize_c B hin d.bag hb
     have hp0:0≤(0:Int)∧(0:Int)<bgSize B d.bag:=by omega
     obtain⟨hq,hq2⟩:=pickW_ok hp0.1 hp0.2
     have hs2:=rwood_c B hin d.bag 0 hb hp0 (by decide)
     have hs3:=rwithout_c B hin d.bag (pickW B d.bag 0) hb hq
     have hB2:=hB.draw ht.l h.n6 hb hq hq2
     have hbe:spB (spOf d) b=setI b d.bag (atI b d.bag+ -1):=by unfold spB;rw[if_pos (show (spOf d).2.1=true from hdb)];rfl
     rw[←hbe] at hB2
     have hdl:=hB2.l
     have he1:out++(bgSize B d.bag::szL (post.map spOf) (spB (spOf d) b))=szL (A.map spOf) tb0.bags:=by
      rw[←he,List.map_cons,szL,if_pos (show (spOf d).2.1=true from hdb),hsz1];rfl
     repeat' (first
      | refine advE ?_ | with_reducible refine w_alt ?_ ?_
      | (first | refine w_ixP (f:=fun d:Dl=>[AV.int .i64 d.kind,.int .i64 d.bag,.int .i64 d.other,.int .i64 d.wood,.int .i64 d.count]) hl rfl rfl ?_ | refine w_ldN rfl rfl hBl ?_ | refine w_chkN rfl rfl hBl rfl ?_ | refine w_stN rfl rfl (by rw[List.length_map];exact hBl) rfl hdl ?_)
      | with_reducible refine zI fun y hy=>?_ | refine advL ?_
      | ((with_reducible refine acall_id ?_);refine ACall.val hds rfl rfl ?_)
      | ((with_reducible refine acall_id ?_);refine ACall.bg2i hs1 rfl ?_)
      | ((with_reducible refine acall_id ?_);refine ACall.bg2i hs2 rfl ?_)
      | ((with_reducible refine acall_id ?_);refine ACall.bg2b hs3 rfl ?_)
      | refine adv ?_ | with_reducible (first | intro _ | refine Rt.p (fun _=>?_) fun _=>?_)
      | ((with_reducible apply w_ixM);(focus exact rfl);(focus exact rfl);case' hk=>intro y hy) | ((with_reducible (first | apply w_val | apply q_ends));(focus exact rfl)))
     all_goals try (exfalso;omega)
     all_goals
      rename_i g5
      exact q_loop (pre++[d],post,drawB B d.bag (pickW B d.bag 0),out++[bgSize B d.bag],g5,spB (spOf d) b,spM (spOf d) m) ⟨by rw[hl];simp,by rw[←he1];simp,by dsimp only;rw[len_snoc,len_snoc];omega,(ht.step hx).1,hr.2,hB2⟩ (Nat.lt_succ_self _) ⟨by rw[len_snoc];rfl,rfl,trivial⟩ (by repeat' (first | exact slots_nil | apply slots_cons | rfl | (rw[map_snoc];rfl) | (rw[len_snoc];rfl) | (rw[hS];rfl) | (rw[hS,map_snoc];rfl) | (refine int_eq ?_;(try dsimp only);omega) | (refine congrArg AV.bool ?_;simp_all;done))) (by repeat' (first | exact kept_nil | apply kept_cons | rfl)) (by repeat' (first | exact kept_nil | apply kept_cons | rfl))
   | false=>
     rw[hdb] at hds
     have hm:=ht.m
     have hn6:=h.n6
     have hs1:=rready_c d B hin (fun h2=>by obtain⟨q1,q2,q3,q4⟩:=hx.h2 hdb h2;change 0≤d.wood∧d.wood<_ at q2;change 1≤d.count at q3;change m+d.count≤12 at q4;exact⟨q1,by omega,by omega⟩) (fun h3=>hx.h3 hdb h3)
     have hB2:=hB.mix ht.l h.n6 hx hdb
     have hdl:(mixedB d B).length=24:=hB2.l
     have he1:out++szL (post.map spOf) (spB (spOf d) b)=szL (A.map spOf) tb0.bags:=by
      rw[←he,List.map_cons,szL,if_neg (show ¬(spOf d).2.1=true by show ¬drawsB d=true;rw[hdb];decide)]
     repeat' (first
      | refine advE ?_ | with_reducible refine w_alt ?_ ?_
      | (first | refine w_ixP (f:=fun d:Dl=>[AV.int .i64 d.kind,.int .i64 d.bag,.int .i64 d.other,.int .i64 d.wood,.int .i64 d.count]) hl rfl rfl ?_ | refine w_ldN rfl rfl hBl ?_ | refine w_chkN rfl rfl hBl rfl ?_ | refine w_stN rfl rfl (by rw[List.length_map];exact hBl) rfl hdl ?_)
      | with_reducible refine zI fun y hy=>?_ | refine advL ?_
      | ((with_reducible refine acall_id ?_);refine ACall.val hds rfl rfl ?_)
      | ((with_reducible refine acall_id ?_);refine ACall.bgbg hs1 rfl ?_)
      | refine adv ?_ | with_reducible (first | intro _ | refine Rt.p (fun _=>?_) fun _=>?_)
      | ((with_reducible apply w_ixM);(focus exact rfl);(focus exact rfl);case' hk=>intro y hy) | ((with_reducible (first | apply w_val | apply q_ends));(focus exact rfl)))
     all_goals first
      | (exfalso;omega)
      | exact q_loop (pre++[d],post,mixedB d B,out,g,spB (spOf d) b,spM (spOf d) m) ⟨by rw[hl];simp,he1,by dsimp only;rw[len_snoc];omega,(ht.step hx).1,hr.2,hB2⟩ (Nat.lt_succ_self _) ⟨by rw[len_snoc];rfl,rfl,trivial⟩ (by repeat' (first | exact slots_nil | apply slots_cons | rfl | (rw[map_snoc];rfl) | (rw[len_snoc];rfl) | (rw[hS];rfl) | (rw[hS,map_snoc];rfl) | (refine int_eq ?_;(try dsimp only);omega) | (refine congrArg AV.bool ?_;simp_all;done))) (by repeat' (first | exact kept_nil | apply kept_cons | rfl)) (by repeat' (first | exact kept_nil | apply kept_cons | rfl))
theorem fct_mono:∀{j k:Nat},j≤k→fct j≤fct k:=by
 intro j k h
 induction k with
 | zero=>rw[Nat.le_zero.1 h];exact Int.le_refl _
 | succ k ih=>
   by_cases e:j=k+1
   · rw[e];exact Int.le_refl _
   · have:=ih (by omega)
     have hp:=fct_pos k
     have:1*fct k≤((k+1:Nat):Int)*fct k:=Int.mul_le_mul_of_nonneg_right (by omega) (by omega)
     show fct j≤((k+1:Nat):Int)*fct k
     omega
theorem szP_bd {n:Nat} {l:List Sp} {b:List Int} {m:Int} (ht:tbIn b m) (h:runOK n l b m):1≤szP l b∧szP l b≤479001600:=by
 have h1:=szP_le ht h
 have hs:=ht.sm
 have hm:=ht.m
 have h2:=fct_mono (show (sumB b+12-m).toNat≤12 by omega)
 rw[fct12] at h2
 exact⟨szP_pos h,by omega⟩
section
variable {x:Sp} {r:List Sp} {B c:List Int} {w:Int}
theorem cntP_dn (h:x.2.1=true):cntP (x::r) [] B=bgSize B x.1.bag*cntP r [] (drawB B x.1.bag (pickW B x.1.bag 0)):=by
 show (if x.2.1=true then _ else _)=_
 rw[if_pos h]
def cntW (x:Sp) (r:List Sp) (B:List Int) (w:Int) (c:List Int) (v:Int):Int:=if x.2.2=true then (if v=w then bgAt B x.1.bag v*cntP r c (drawB B x.1.bag v) else 0) else bgAt B x.1.bag v*cntP r (w::c) (drawB B x.1.bag v)
theorem cntP_dc (h:x.2.1=true):cntP (x::r) (w::c) B=nSum 6 (cntW x r B w c):=by
 show (if x.2.1=true then _ else _)=_
 rw[if_pos h];rfl
theorem cntP_pn (h:¬x.2.1=true) (h2:x.2.2=true):cntP (x::r) [] B=cntP r [] (mixedB x.1 B):=by
 show (if x.2.1=true then _ else if x.2.2=true then _ else _)=_
 rw[if_neg h,if_pos h2]
theorem cntP_pc (h:¬x.2.1=true) (h2:x.2.2=true):cntP (x::r) (w::c) B=if w=x.1.wood then cntP r c (mixedB x.1 B) else 0:=by
 show (if x.2.1=true then _ else if x.2.2=true then _ else _)=_
 rw[if_neg h,if_pos h2]
theorem cntP_m (h:¬x.2.1=true) (h2:¬x.2.2=true):cntP (x::r) c B=cntP r c (mixedB x.1 B):=by
 show (if x.2.1=true then _ else if x.2.2=true then _ else _)=_
 rw[if_neg h,if_neg h2]
end
theorem cntP_bd {n:Nat} (hn:n≤6):∀{l:List Sp} {b:List Int} {m:Int} {B:List Int} (c:List Int),tbIn b m→runOK n l b m→bgT n b B→0≤cntP l c B∧cntP l c B≤szP l b
 | [],_,_,_,c,_,_,_=>by
   show 0≤(1:Int)∧(1:Int)≤1
   decide
 | x::r,b,m,B,c,ht,hr,hB=>by
   have hx:=hr.1
   have ht2:=(ht.step hx).1
   have hz:=szP_pos hr.2
   rw[szP]
   by_cases hd:x.2.1=true
   · obtain⟨hb,ha⟩:=hx.d hd
     have hs:=hB.size hb
     have e:spB x b=setI b x.1.bag (atI b x.1.bag+ -1):=by unfold spB;rw[if_pos hd]
     rw[if_pos hd]
     have hdr:∀(v:Int) (c:List Int),0≤v→v≤5→0≤bgAt B x.1.bag v*cntP r c (drawB B x.1.bag v)∧bgAt B x.1.bag v*cntP r c (drawB B x.1.bag v)≤bgAt B x.1.bag v*szP r (spB x b):=fun v c hv hv5=>by
      by_cases h0:bgAt B x.1.bag v=0
      · rw[h0,Int.zero_mul,Int.zero_mul];exact⟨Int.le_refl _,Int.le_refl _⟩
      · have hp:=bgAt_nn hB.nn x.1.bag v
        have hB2:=hB.draw ht.l hn hb (w:=v) ⟨hv,hv5⟩ (by omega)
        obtain⟨i1,i2⟩:=cntP_bd hn c ht2 hr.2 (by rw[e];exact hB2)
        exact⟨Int.mul_nonneg hp i1,Int.mul_le_mul_of_nonneg_left i2 hp⟩
     cases c with
     | nil=>
       rw[cntP_dn hd,hs]
       obtain⟨hp,hq⟩:=pickW_ok (B:=B) (i:=x.1.bag) (p:=0) (Int.le_refl _) (by rw[hs];omega)
       have hB2:=hB.draw ht.l hn hb hp hq
       obtain⟨i1,i2⟩:=cntP_bd hn [] ht2 hr.2 (by rw[e];exact hB2)
       exact⟨Int.mul_nonneg (by omega) i1,Int.mul_le_mul_of_nonneg_left i2 (by omega)⟩
     | cons w c=>
       rw[cntP_dc hd]
       have hF:∀k:Nat,k<6→0≤cntW x r B w c k∧cntW x r B w c k≤bgAt B x.1.bag k*szP r (spB x b):=fun k hk=>by
        unfold cntW
        have hbn:=bgAt_nn hB.nn x.1.bag k
        split
        · split
          · exact hdr k c (by omega) (by omega)
          · exact⟨Int.le_refl _,Int.mul_nonneg hbn (by omega)⟩
        · exact hdr k (w::c) (by omega) (by omega)
       refine⟨nSum_nn fun k hk=>(hF k hk).1,?_⟩
       have hle:∀j:Nat,j≤6→nSum j (cntW x r B w c)≤nSum j fun v=>bgAt B x.1.bag v*szP r (spB x b):=by
        intro j
        induction j with
        | zero=>intro _;exact Int.le_refl _
        | succ j ih=>
          intro hj
          have:=ih (by omega)
          have:=(hF j (by omega)).2
          rw[nSum,nSum];omega
       have h6:=hle 6 (Nat.le_refl _)
       rw[nSum_mulr,hB.s x.1.bag hb] at h6
       exact h6
   · have hdf:x.2.1=false:=by simpa using hd
     have hB2:=hB.mix ht.l hn hx hdf
     rw[if_neg hd,Int.one_mul]
     by_cases hc:x.2.2=true
     · cases c with
       | nil=>rw[cntP_pn hd hc];exact cntP_bd hn [] ht2 hr.2 hB2
       | cons w c=>
         rw[cntP_pc hd hc]
         split
         · exact cntP_bd hn c ht2 hr.2 hB2
         · exact⟨Int.le_refl _,by omega⟩
     · rw[cntP_m hd hc];exact cntP_bd hn c ht2 hr.2 hB2
theorem cntW_bd {n:Nat} (hn:n≤6) {x:Sp} {r:List Sp} {b:List Int} {m:Int} {B:List Int} (ht:tbIn b m) (hr:runOK n (x::r) b m) (hB:bgT n b B) (hd:x.2.1=true) (w:Int) (c:List Int):(∀k:Nat,k<6→0≤cntW x r B w c k)∧ ∀k:Nat,k≤6→0≤nSum k (cntW x r B w c)∧nSum k (cntW x r B w c)≤479001600:=by
 have hx:=hr.1
 obtain⟨hb,ha⟩:=hx.d hd
 have ht2:=(ht.step hx).1
 have e:spB x b=setI b x.1.bag (atI b x.1.bag+ -1):=by unfold spB;rw[if_pos hd]
 have hF:∀k:Nat,k<6→0≤cntW x r B w c k:=fun k hk=>by
  have hdr:∀(c:List Int),0≤bgAt B x.1.bag k*cntP r c (drawB B x.1.bag k):=fun c=>by
   by_cases h0:bgAt B x.1.bag k=0
   · rw[h0,Int.zero_mul];exact Int.le_refl _
   · have hp:=bgAt_nn hB.nn x.1.bag k
     have hB2:=hB.draw ht.l hn hb (w:=(k:Int)) (by omega) (by omega)
     exact Int.mul_nonneg hp (cntP_bd hn c ht2 hr.2 (by rw[e];exact hB2)).1
  unfold cntW
  split
  · split
    · exact hdr c
    · exact Int.le_refl _
  · exact hdr _
 refine⟨hF,fun k hk=>⟨nSum_nn fun j hj=>hF j (by omega),?_⟩⟩
 have h1:=nSum_mono (n:=6) hF hk
 have h2:=(cntP_bd hn (w::c) ht hr hB).2
 rw[cntP_dc hd] at h2
 have:=(szP_bd ht hr).2
 omega
def ir92:IFn:=
 ⟨123,[(6,none)],(.seq (.ops [oo 4 (.box 24 1),
 oo 6 (.mov (kI 0))])
 (.seq (.seq (.ops [oo 11 (.mov 0),
 oo 12 (.len false 11),
 oo 13 (.bin .eql 12 (kI 0))])
 (.cnd 13
 (.seq (.ops [oo 6 (.mov (kI 1))])
 .ret)
 .skip))
 (.seq (.ops [oo 14 (.mov 0),
 oo 15 (.ixA 5 14 (kI 0)),
 oo 16 (.ld 5 true 15),
 oo 7 (.new [(.int .i64 0),(.int .i64 0),(.int .i64 0),(.int .i64 0),(.int .i64 0)]),
 ⟨none,none,(.st 5 7 16)⟩])
 (.seq (.blk 0 (.seq (.ops [oo 18 (.ld 5 true 7),
 oo 19 (.callF 60 [18]),
 oo 20 (.not 19),
 oo 21 (.mov 20),
 ⟨(some 22),(some (21,true)),(.flA 0 7)⟩,
 ⟨(some 23),(some (21,true)),(.ld 1 false 22)⟩,
 ⟨(some 24),(some (21,true)),(.bin .neq 23 (kI 6))⟩,
 oo 25 (.pick 21 24 (kB false)),
 oo 17 (.mov 25)])
 (.cnd 17
 (.seq (.ops [oo 26 (.mov 0),
 oo 27 (.slS 5 26 (some (kI 1)) none none),
 oo 28 (.ld 24 true 4),
 oo 29 (.ld 5 true 7),
 oo 31 (.mov 2),
 oo 30 (.callF 64 [28,29]),
 oo 32 (.callF 92 [27,30,31]),
 oo 6 (.mov 32)])
 .ret)
 (.seq (.ops [oo 34 (.flA 0 7),
 oo 35 (.ld 1 false 34),
 oo 36 (.bin .eql 35 (kI 6)),
 oo 37 (.mov 36),
 ⟨(some 38),(some (37,true)),(.mov 2)⟩,
 ⟨(some 39),(some (37,true)),(.len false 38)⟩,
 ⟨(some 40),(some (37,true)),(.bin .eql 39 (kI 0))⟩,
 oo 41 (.pick 37 40 (kB false)),
 oo 33 (.mov 41)])
 (.cnd 33
 (.seq (.ops [oo 42 (.mov 0),
 oo 43 (.slS 5 42 (some (kI 1)) none none),
 oo 44 (.ld 24 true 4),
 oo 45 (.callF 92 [43,44,(.k .nsl)]),
 oo 6 (.mov 45)])
 .ret)
 (.seq (.ops [oo 47 (.flA 0 7),
 oo 48 (.ld 1 false 47),
 oo 49 (.bin .eql 48 (kI 6)),
 oo 46 (.mov 49)])
 (.cnd 46
 (.seq (.seq (.ops [oo 50 (.mov 2),
 oo 51 (.ixA 1 50 (kI 0)),
 oo 52 (.ld 1 false 51),
 oo 53 (.flA 3 7),
 oo 54 (.ld 1 false 53),
 oo 55 (.bin .neq 52 54)])
 (.cnd 55
 (.seq (.ops [oo 6 (.mov (kI 0))])
 .ret)
 .skip))
 (.seq (.ops [oo 56 (.mov 0),
 oo 57 (.slS 5 56 (some (kI 1)) none none),
 oo 58 (.ld 24 true 4),
 oo 59 (.mov 2),
 oo 60 (.slS 1 59 (some (kI 1)) none none),
 oo 61 (.callF 92 [57,58,60]),
 oo 6 (.mov 61)])
 .ret))
 (.seq (.ops [oo 63 (.mov 2),
 oo 64 (.len false 63),
 oo 65 (.bin .eql 64 (kI 0)),
 oo 62 (.mov 65)])
 (.cnd 62
 (.seq (.ops [oo 66 (.ld 24 true 4),
 oo 67 (.flA 1 7),
 oo 68 (.ld 1 false 67),
 oo 70 (.mov 0),
 oo 71 (.slS 5 70 (some (kI 1)) none none),
 oo 72 (.ld 24 true 4),
 oo 73 (.flA 1 7),
 oo 74 (.ld 1 false 73),
 oo 75 (.ld 24 true 4),
 oo 76 (.flA 1 7),
 oo 77 (.ld 1 false 76),
 oo 69 (.callF 61 [66,68]),
 ⟨none,none,(.chk 24 true 4 72)⟩,
 ⟨none,none,(.chk 1 false 73 74)⟩,
 ⟨none,none,(.chk 24 true 4 75)⟩,
 ⟨none,none,(.chk 1 false 76 77)⟩,
 oo 78 (.callF 63 [75,77,(kI 0)]),
 ⟨none,none,(.chk 24 true 4 72)⟩,
 ⟨none,none,(.chk 1 false 73 74)⟩,
 oo 79 (.callF 62 [72,74,78]),
 oo 80 (.callF 92 [71,79,(.k .nsl)]),
 oo 81 (.bin .mul 69 80),
 oo 6 (.mov 81)])
 .ret)
 .skip)))))))))
 (.seq (.ops [oo 8 (.mov (kI 0))])
 (.seq (.seq (.ops [oo 9 (.mov (kI 0))])
 (.blk 1 (.loop (.seq (.seq (.ops [oo 82 (.mov 9),
 oo 83 (.bin .lss 82 (kI 6))])
 (.cnd 83
 .skip
 (.exit 1)))
 (.seq (.blk 2 (.seq (.seq (.ops [oo 86 (.flA 1 7),
 oo 87 (.ld 1 false 86),
 oo 88 (.mov 9),
 oo 89 (.ixAr 4 6 4 87),
 oo 90 (.ixAr 6 1 89 88),
 oo 91 (.ld 1 false 90),
 oo 92 (.bin .eql 91 (kI 0))])
 (.cnd 92
 (.exit 2)
 .skip))
 (.seq (.ops [oo 93 (.mov 2),
 oo 10 (.mov 93)])
 (.seq (.seq (.ops [oo 94 (.flA 0 7),
 oo 95 (.ld 1 false 94),
 oo 96 (.bin .eql 95 (kI 5))])
 (.cnd 96
 (.seq (.seq (.ops [oo 97 (.mov 9),
 oo 98 (.mov 2),
 oo 99 (.ixA 1 98 (kI 0)),
 oo 100 (.ld 1 false 99),
 oo 101 (.bin .neq 97 100)])
 (.cnd 101
 (.exit 2)
 .skip))
 (.ops [oo 102 (.mov 2),
 oo 103 (.slS 1 102 (some (kI 1)) none none),
 oo 10 (.mov 103)]))
 .skip))
 (.ops [oo 104 (.mov 8),
 oo 105 (.flA 1 7),
 oo 106 (.ld 1 false 105),
 oo 107 (.mov 9),
 oo 108 (.ixAr 4 6 4 106),
 oo 109 (.ixAr 6 1 108 107),
 oo 110 (.ld 1 false 109),
 oo 111 (.mov 0),
 oo 112 (.slS 5 111 (some (kI 1)) none none),
 oo 113 (.ld 24 true 4),
 oo 114 (.flA 1 7),
 oo 115 (.ld 1 false 114),
 oo 116 (.mov 9),
 oo 118 (.mov 10),
 oo 117 (.callF 62 [113,115,116]),
 ⟨none,none,(.chk 1 false 105 106)⟩,
 ⟨none,none,(.chk 1 false 109 110)⟩,
 oo 119 (.callF 92 [112,117,118]),
 ⟨none,none,(.chk 1 false 105 106)⟩,
 ⟨none,none,(.chk 1 false 109 110)⟩,
 oo 120 (.bin .mul 110 119),
 oo 121 (.bin .add 104 120),
 oo 8 (.mov 121)])))))
 (.ops [oo 84 (.mov 9),
 oo 85 (.bin .add 84 (kI 1)),
 oo 9 (.mov 85)]))))))
 (.seq (.ops [oo 122 (.mov 8),
 oo 6 (.mov 122)])
 .ret)))))))⟩
def hint92 (P:Program):Hint:={}
def CV (a:AV) (c:List Int):Prop:=(a= .nsl∧c=[])∨a= .slc 1 (iR c) .non
section
variable {P:Program} {K:(Nat→AV)→Sig→Prop} {e:Nat→AV} {σ:Sig} {x h:IOpd} {r:List IStep}
theorem w_slT {α:Type} {f:α→List AV} {l:List α} {p:α} {d sz:Nat} {t:Tag} (hx:x.ev e= .slc sz ((p::l).map f) t) (hk:stepsW P r K (upd e d (.slc sz (l.map f) .non)) σ):stepsW P (⟨some d,none,.slS sz x (some (.k (.int .i64 1))) none none⟩::r) K e σ:=by
 refine w_slM (a:=1) (b:=((p::l).length:Int)) hx rfl rfl ⟨by decide,by rw[List.length_cons];omega,Int.le_refl _⟩ ?_
 have e1:((p::l).drop (1:Int).toNat).take (((p::l).length:Int)-1).toNat=l:=by
  show l.take _=l
  exact List.take_of_length_le (by rw[List.length_cons];omega)
 rw[e1];exact hk
theorem w_chkAt {i g off t:Nat} {cs:List AV} {a:AV} (hx:x.ev e= .ref i g off) (hσ:σ i=(g,.row cs)) (hc:cs[off]?=some a) (hf:forceA a=some a) (ht:e t=a)
  (hk:stepsW P r K e σ):stepsW P (⟨none,none,.chk 1 false x t⟩::r) K e σ:=by
 refine w_det0 (p:=(g=g∧True)∧a=e t) (v:= .junk) (σ':=σ) (fun _=>?_) ⟨⟨rfl,trivial⟩,ht.symm⟩ hk
 show (match ldO 1 false σ (x.ev e) with
  | some (p,v)=>some (p∧v=e t,AV.junk,σ)
  | none=>none)=_
 rw[hx]
 simp only[ldO,hσ,partO,hc,hf,liftV,okV]
theorem w_chkEl {i g off t p:Nat} {B:List Int} (hx:x.ev e= .ref i g off) (ho:off=p) (hσ:σ i=(g,.row (nI B))) (hp:p<B.length) (ht:e t= .int .i64 (B.getD p 0)) (hk:stepsW P r K e σ):stepsW P (⟨none,none,.chk 1 false x t⟩::r) K e σ:=
 w_chkAt hx hσ (by rw[ho];exact nI_get hp) rfl ht hk
end
end Go.Abs
