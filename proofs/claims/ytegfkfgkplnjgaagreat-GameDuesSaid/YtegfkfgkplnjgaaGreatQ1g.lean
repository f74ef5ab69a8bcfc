/- A part of the proofs of the laws of this seat: contracts of the functions that they reach, each proved of the program's form in Lean. No condition beyond those that each contract names. -/
import Derived.Test.YtegfkfgkplnjgaaGreatProg
import Derived.Test.YtegfkfgkplnjgaaGreatSnd3
import Derived.Test.YtegfkfgkplnjgaaGreatA0
import Derived.Test.YtegfkfgkplnjgaaGreatQ1a
import Derived.Test.YtegfkfgkplnjgaaGreatQ1b
import Derived.Test.YtegfkfgkplnjgaaGreatQ1c
import Derived.Test.YtegfkfgkplnjgaaGreatQ1d
import Derived.Test.YtegfkfgkplnjgaaGreatQ1e
import Derived.Test.YtegfkfgkplnjgaaGreatQ1f
set_option linter.unusedVariables false
set_option linter.unusedSimpArgs false
set_option maxRecDepth 20000
set_option maxHeartbeats 4000000
namespace Go.Abs
open Go.Proofs
theorem idxD_c (k:Nat) (cs:List AV) (p:Dl→Bool) (l:List Dl) (hl:l.length<1000000) (hf:∀x∈l,Fn0 Tryz.prog k [dlA x,.pin cs] (fun v=>v= .bool (p x))):Fn0 Tryz.prog 107 [.slc 5 (dlR l) .non,.clo (.func k) [] [.pin cs]] (fun v=>∃i:Int,v= .int .i64 i∧(0≤i↔l.any p=true)):=by
 refine RawC.walk (H:=hint107 Tryz.prog) ir107 Tryz.func107 rfl rfl rfl ?_
 unfold ir107
 repeat' (first
  | with_reducible refine Rd.p ?_
  | with_reducible (first|refine zL ?_|refine zS ?_|refine zV ?_|refine zC ?_)
  | refine aX ?_|with_reducible intro _
  | refine aP ?_ ?_)
 refine w_loopK [0,1,7] [] (fun x:List Dl×List Dl=>l=x.1++x.2∧x.1.any p=false) (fun x=>x.2.length) (fun x=>[(8,.int .i64 x.1.length)]) (fun _=>[]) ([],l) ⟨rfl,rfl⟩ ⟨rfl,trivial⟩ trivial ?_
 rintro⟨pre,post⟩ ⟨hll,hb⟩ e σ
 dsimp only at hll hb ⊢
 have hlen:=congrArg List.length hll
 cases post with
 | nil=>
   simp only[List.append_nil,List.length_append,List.length_nil] at hlen
   repeat' (first
    | with_reducible refine Rd.p ?_
    | with_reducible (first|refine zL ?_|refine zS ?_|refine zV ?_|refine zC ?_)
    | refine aX ?_|with_reducible intro _
    | refine aP ?_ ?_)
   all_goals first
    | (exfalso;omega)
    | exact⟨-1,rfl,by rw[hll,List.append_nil,hb];simp⟩
 | cons c post=>
   simp only[List.length_append,List.length_cons] at hlen
   have hfc:=hf c (by rw[hll];simp)
   cases hpc:p c with
   | false=>
     rw[hpc] at hfc
     repeat' (first
      | with_reducible refine Rd.p ?_
      | (refine w_ixP (f:=fun d:Dl=>[AV.int .i64 d.kind,.int .i64 d.bag,.int .i64 d.other,.int .i64 d.wood,.int .i64 d.count]) hll rfl rfl ?_)
      | with_reducible (first|refine zL ?_|refine zS ?_|refine zV ?_|refine zC ?_)
      | ((with_reducible refine aC ?_);first|(refine ACall.val hfc rfl rfl ?_))
      | refine aX ?_|with_reducible intro _
      | refine aP ?_ ?_)
     all_goals first
      | (exfalso;omega)
      | exact q_loop (pre++[c],post) ⟨by dsimp only;rw[hll];simp,by rw[List.any_append,hb];simp[hpc]⟩ (Nat.lt_succ_self _) ⟨by rw[len_snoc];rfl,trivial⟩ aS aK aK
   | true=>
     rw[hpc] at hfc
     repeat' (first
      | with_reducible refine Rd.p ?_
      | (refine w_ixP (f:=fun d:Dl=>[AV.int .i64 d.kind,.int .i64 d.bag,.int .i64 d.other,.int .i64 d.wood,.int .i64 d.count]) hll rfl rfl ?_)
      | with_reducible (first|refine zL ?_|refine zS ?_|refine zV ?_|refine zC ?_)
      | ((with_reducible refine aC ?_);first|(refine ACall.val hfc rfl rfl ?_))
      | refine aX ?_|with_reducible intro _
      | refine aP ?_ ?_)
     all_goals first
      | (exfalso;omega)
      | exact⟨pre.length,rfl,by rw[hll];simp[hpc]⟩
theorem conD_c (k:Nat) (cs:List AV) (p:Dl→Bool) (l:List Dl) (hl:l.length<1000000) (hf:∀x∈l,Fn0 Tryz.prog k [dlA x,.pin cs] (fun v=>v= .bool (p x))):Fn0 Tryz.prog 76 [.slc 5 (dlR l) .non,.clo (.func k) [] [.pin cs]] (fun v=>v= .bool (l.any p)):=by
 have hi:=idxD_c k cs p l hl hf
 refine RawC.walk (H:=hint76 Tryz.prog) ir76 Tryz.func76 rfl rfl rfl ?_
 unfold ir76
 repeat' (first
  | with_reducible refine Rd.p ?_
  | with_reducible (first|refine zL ?_|refine zS ?_|refine zV ?_|refine zC ?_)
  | ((with_reducible refine aC ?_);first|(refine ACall.fn0 hi rfl ?_;rintro _ ⟨i,rfl,hk⟩))
  | refine aX ?_|with_reducible intro _
  | refine aP ?_ ?_)
 exact congrArg AV.bool (by rw[Bool.eq_iff_iff];simpa using hk)
theorem due1_c (G:Gm) (x:Int) (hd:G.ds.length<1000):Fn0 Tryz.prog 75 [.int .i64 x,gmP G] (fun v=>v= .bool (!triedB G.ds x)):=by
 have hc:=fun g=>conD_c 77 [.int .i64 x] (fun d=>decide (d.kind=1) && decide (d.wood=x)) G.ds (by omega) fun d _=>due11_c d g x
 refine RawC.walk (H:=hint75 Tryz.prog) ir75 Tryz.func75 rfl rfl rfl ?_
 unfold ir75
 repeat' (first
  | with_reducible refine Rd.p ?_
  | with_reducible (first|refine zL ?_|refine zS ?_|refine zV ?_|refine zC ?_)
  | (refine w_frzR rfl rfl rfl ?_)
  | ((with_reducible refine aC ?_);first|(refine ACall.val (hc 0) rfl rfl ?_))
  | refine aX ?_|with_reducible intro _
  | refine aP ?_ ?_)
 all_goals first
  | (exfalso;omega)
  | rfl
def ir106:IFn:=
 ⟨35,[(2,none)],(.seq (.ops [oo 2 (.mov (.k .nsl))])
 (.seq (.ops [⟨(some 9),none,.mkm⟩,oo 3 (.mov 9)])
 (.seq (.ops [oo 4 (.nil 1 4)])
 (.seq (.seq (.ops [oo 10 (.mov 0),oo 11 (.len false 10),oo 12 (.mov (kI 0))])
 (.blk 0 (.loop (.seq (.ops [oo 13 (.bin .lss 12 11)])
 (.seq (.cnd 13
 .skip
 (.exit 0))
 (.seq (.blk 1 (.seq (.ops [oo 14 (.ixA 1 10 12),oo 15 (.ld 1 false 14),oo 6 (.mov 15)])
 (.seq (.ops [oo 17 (.mov 3),oo 18 (.mov 6),oo 19 (.mlk .i (.int .i64 0) true 17 18),oo 16 (.mov 19),oo 20 (.ext 0 16),oo 21 (.ext 1 16),oo 7 (.mov 20),oo 8 (.mov 21)])
 (.seq (.seq (.ops [oo 22 (.mov 8),oo 23 (.not 22)])
 (.cnd 23
 (.seq (.ops [oo 24 (.mov 3),oo 25 (.mln 24),oo 7 (.mov 25)])
 (.ops [oo 26 (.mov 3),oo 27 (.mov 6),oo 28 (.mov 7),
 ⟨none,none,(.mup .i 26 27 28)⟩]))
 .skip))
 (.ops [oo 29 (.mov 4),oo 30 (.mov 7),oo 31 (.bsl 1 [[(.int .i64 0)]] [(0,30)]),oo 32 (.app 1 8 29 31 4),oo 4 (.mov 32)])))))
 (.ops [oo 33 (.bin .add 12 (kI 1)),oo 12 (.mov 33)])))))))
 (.seq (.ops [oo 34 (.mov 4),oo 2 (.mov 34)])
 .ret)))))⟩
def hint106 (P:Program):Hint:={site:=[(32,4)],nils:=[(4,1)],frz:=[],mve:=[],wr:=[] }
def ir73:IFn:=
 ⟨14,[(2,none),(3,none)],(.seq (.ops [oo 2 (.mov (.k .nsl)),oo 3 (.mov (kI 0))])
 (.seq (.blk 0 (.seq (.ops [oo 5 (.mov 0),oo 6 (.len false 5),oo 7 (.bin .eql 6 (kI 0)),oo 4 (.mov 7)])
 (.cnd 4
 (.seq (.ops [oo 2 (.mov (.k .nsl)),oo 3 (.mov (kI 6))])
 .ret)
 (.seq (.ops [oo 9 (.mov 0),oo 10 (.len false 9),oo 11 (.bin .gtr 10 (kI 9)),oo 8 (.mov 11)])
 (.cnd 8
 (.seq (.ops [oo 2 (.mov (.k .nsl)),oo 3 (.mov (kI 8))])
 .ret)
 .skip)))))
 (.seq (.ops [oo 12 (.mov 0),oo 13 (.callF 106 [12]),oo 2 (.mov 13),oo 3 (.mov (kI 0))])
 .ret)))⟩
def hint73 (P:Program):Hint:={}
def numF:List Int→List Int→List Int
 | _,[]=>[]
 | met,x::r=>if x∈met then (met.idxOf x:Int)::numF met r else (met.length:Int)::numF (met++[x]) r
abbrev fiK (l:List Int):List AV:=l.map (AV.int .i64)
abbrev fiV (l:List Int):List AV:=(List.range l.length).map fun (k:Nat)=>AV.int .i64 (k:Int)
section
variable {P:Program} {K:(Nat→AV)→Sig→Prop} {e:Nat→AV} {σ:Sig} {m k:IOpd} {r:List IStep} {d i h:Nat} {a:Int} {F:List Int}
theorem w_mlkF (hm:m.ev e= .map i h) (hσ:σ i=(h,.row [.mpv (fiK F) (fiV F)])) (hk:k.ev e= .int .i64 a)
  (hK:stepsW P r K (upd e d (.tup [.int .i64 (if a∈F then (F.idxOf a:Int) else 0),.bool (decide (a∈F))])) σ):stepsW P (⟨some d,none,.mlk .i (.int .i64 0) true m k⟩::r) K e σ:=by
 refine w_det (p:=h=h) (v:=fun _=> .tup [.int .i64 (if a∈F then (F.idxOf a:Int) else 0),.bool (decide (a∈F))]) (σ':=fun _=>σ) (fun _=>?_) rfl fun _=>hK
 show mlkO .i (.int .i64 0) true σ (k.ev e) (m.ev e)=_
 rw[hm,hk]
 simp only[mlkO,mapR,hσ,findI]
 by_cases ha:a∈F
 · have hlt:=List.idxOf_lt_length_iff.2 ha
   simp[ha,hlt,lkV]
 · simp[ha,lkV]
theorem w_mupF {v:IOpd} (hm:m.ev e= .map i h) (hσ:σ i=(h,.row [.mpv (fiK F) (fiV F)])) (hk:k.ev e= .int .i64 a) (hv:v.ev e= .int .i64 (F.length:Int)) (ha:¬a∈F)
  (hK:stepsW P r K e (upd σ i (h,.row [.mpv (fiK (F++[a])) (fiV (F++[a]))]))):stepsW P (⟨none,none,.mup .i m k v⟩::r) K e σ:=by
 refine w_det0 (p:=h=h) (v:= .junk) (σ':=upd σ i (h,.row [.mpv (fiK (F++[a])) (fiV (F++[a]))])) (fun _=>?_) rfl hK
 show mupO .i σ (k.ev e) (v.ev e) (m.ev e)=_
 rw[hm,hk,hv]
 simp only[mupO,mapW,hσ,findI,forceA,ha,if_false]
 have e1:fiV F++[AV.int .i64 (F.length:Int)]=fiV (F++[a]):=by
  show _=(List.range (F++[a]).length).map _
  rw[len_snoc,List.range_succ,List.map_append];rfl
 have e2:fiK F++[AV.int .i64 a]=fiK (F++[a]):=by simp
 show some (True,AV.junk,upd σ i (h,Res.row [AV.mpv (fiK F++[AV.int .i64 a]) (fiV F++[AV.int .i64 (F.length:Int)])]))=_
 rw[e1,e2]
end
theorem number_c (l:List Int) (hl:l.length<1000000):Fn0 Tryz.prog 106 [.slc 1 (iR l) .non] (fun v=>v= .slc 1 (iR (numF [] l)) .non):=by
 refine RawC.walk (H:=hint106 Tryz.prog) ir106 Tryz.func106 rfl rfl rfl ?_
 unfold ir106
 repeat' (first
  | with_reducible refine Rd.p ?_
  | with_reducible (first|refine zI fun y hy=>?_|refine zL ?_|refine zS ?_|refine zV ?_|refine zC ?_)
  | refine aX ?_|with_reducible intro _
  | with_reducible refine zJ ?_ fun y hy=>?_|refine aP ?_ ?_)
 rename_i g9 g4
 refine w_loopK [3,10,11] [] (fun x:List Int×List Int×List Int×List Int×Nat=>l=x.1++x.2.1∧x.2.2.1++numF x.2.2.2.1 x.2.1=numF [] l∧x.2.2.1.length≤x.1.length∧x.2.2.2.1.length≤x.1.length) (fun x=>x.2.1.length) (fun x=>[(12,.int .i64 x.1.length),(4,.slc 1 (iR x.2.2.1) (.own 4 x.2.2.2.2))]) (fun x=>[(4,(x.2.2.2.2,.row [])),(9,(g9,.row [.mpv (fiK x.2.2.2.1) (fiV x.2.2.2.1)]))]) ([],l,[],[],g4) ⟨rfl,rfl,Nat.le_refl _,Nat.le_refl _⟩ ⟨rfl,rfl,trivial⟩ ⟨rfl,rfl,trivial⟩ ?_
 rintro⟨pre,post,out,F,g⟩ ⟨hll,hb,ho,hf⟩ e σ
 dsimp only at hll hb ho hf ⊢
 have hlen:=congrArg List.length hll
 have hol:(iR out).length=out.length:=List.length_map _
 have hfl:(fiK F).length=F.length:=List.length_map _
 have hpl:∀c,(pre++[c]).length=pre.length+1:=fun c=>len_snoc
 cases post with
 | nil=>
   simp only[List.append_nil,List.length_append,List.length_nil] at hlen
   rw[show numF F []=[] from rfl,List.append_nil] at hb
   rw[←hb]
   repeat' (first
    | with_reducible refine Rd.p ?_
    | with_reducible (first|refine zI fun y hy=>?_|refine zL ?_|refine zS ?_|refine zV ?_|refine zC ?_)
    | refine aX ?_|with_reducible intro _
    | with_reducible refine zJ ?_ fun y hy=>?_|refine aP ?_ ?_)
   all_goals first
    | (exfalso;omega)
    | rfl
 | cons c post=>
   simp only[List.length_append,List.length_cons] at hlen
   rw[numF] at hb
   by_cases hc:c∈F
   · rw[if_pos hc] at hb
     have hix:(if c∈F then (F.idxOf c:Int) else 0)=F.idxOf c:=if_pos hc
     have hdc:decide (c∈F)=true:=decide_eq_true hc
     repeat' (first
      | with_reducible refine Rd.p ?_
      | (first|refine w_ixP hll rfl rfl ?_|(refine w_mlkF rfl rfl rfl ?_;rw[hix,hdc]))
      | with_reducible (first|refine zI fun y hy=>?_|refine zL ?_|refine zS ?_|refine zV ?_|refine zC ?_)
      | refine aX ?_|with_reducible intro _
      | with_reducible refine zJ ?_ fun y hy=>?_|refine aP ?_ ?_)
     all_goals try (exfalso;omega)
     all_goals
      rename_i g5
      exact q_loop (pre++[c],post,out++[(F.idxOf c:Int)],F,g5) ⟨by dsimp only;rw[hll];simp,by dsimp only;rw[List.append_assoc];exact hb,by dsimp only;rw[len_snoc,hpl];omega,by dsimp only;rw[hpl];omega⟩ (Nat.lt_succ_self _) ⟨by rw[len_snoc];rfl,rfl,trivial⟩ aS aK aK
   · rw[if_neg hc] at hb
     have hix:(if c∈F then (F.idxOf c:Int) else 0)=0:=if_neg hc
     have hdc:decide (c∈F)=false:=decide_eq_false hc
     repeat' (first
      | with_reducible refine Rd.p ?_
      | (first|refine w_ixP hll rfl rfl ?_|(refine w_mlkF rfl rfl rfl ?_;rw[hix,hdc])|refine w_mupF rfl rfl rfl (int_eq (by omega)) hc ?_)
      | with_reducible (first|refine zI fun y hy=>?_|refine zL ?_|refine zS ?_|refine zV ?_|refine zC ?_)
      | refine aX ?_|with_reducible intro _
      | with_reducible refine zJ ?_ fun y hy=>?_|refine aP ?_ ?_)
     all_goals try (exfalso;omega)
     all_goals
      rename_i _ g5
      rw[←hfl] at hb
      exact q_loop (pre++[c],post,out++[((fiK F).length:Int)],F++[c],g5) ⟨by dsimp only;rw[hll];simp,by dsimp only;rw[List.append_assoc];exact hb,by dsimp only;rw[len_snoc,hpl];omega,by dsimp only;rw[len_snoc,hpl];omega⟩ (Nat.lt_succ_self _) ⟨by rw[len_snoc];rfl,rfl,trivial⟩ aS aK aK
theorem chartOf_c (l:List Int) (h1:1≤l.length) (h9:l.length≤9):Fn0 Tryz.prog 73 [.slc 1 (iR l) .non] (fun v=>v= .tup [.slc 1 (iR (numF [] l)) .non,.int .i64 0]):=by
 refine RawC.walk (H:=hint73 Tryz.prog) ir73 Tryz.func73 rfl rfl rfl ?_
 unfold ir73
 repeat' (first
  | with_reducible refine Rd.p ?_
  | with_reducible (first|refine zL ?_|refine zS ?_|refine zV ?_|refine zC ?_)
  | ((with_reducible refine aC ?_);first|(refine ACall.val (number_c l (by omega)) rfl rfl ?_))
  | refine aX ?_|with_reducible intro _
  | refine aP ?_ ?_)
 all_goals first
  | (exfalso;omega)
  | rfl
def ir41:IFn:=
 ⟨75,[(6,none)],(.seq (.ops [oo 3 (.box 2 0),oo 4 (.box 2 1),oo 6 (.mov (.k .nsl))])
 (.seq (.seq (.ops [oo 15 (.flA 0 4),oo 16 (.ld 1 false 15)])
 (.blk 0 (.seq (.ops [oo 18 (.bin .eql 16 (kI 1)),oo 17 (.mov 18)])
 (.cnd 17
 (.seq (.ops [oo 20 (.mov 2),oo 21 (.callF 73 [20]),oo 19 (.mov 21),oo 22 (.ext 0 19),oo 23 (.ext 1 19),oo 7 (.mov 22),oo 8 (.mov 23)])
 (.seq (.ops [oo 24 (.mov 7),oo 6 (.mov 24)])
 .ret))
 (.seq (.ops [oo 26 (.bin .eql 16 (kI 2)),oo 25 (.mov 26)])
 (.cnd 25
 (.seq (.seq (.frz 3)
 (.ops [oo 27 (.mov 2),oo 28 (.mkf (.func 75) [] [3]),oo 29 (.callF 74 [27,28]),oo 6 (.mov 29)]))
 .ret)
 (.seq (.ops [oo 31 (.bin .eql 16 (kI 4)),oo 30 (.mov 31)])
 (.cnd 30
 (.seq (.seq (.frz 4)
 (.ops [oo 32 (.mov 2),oo 33 (.mkf (.func 78) [] [4]),oo 34 (.callF 74 [32,33]),oo 6 (.mov 34)]))
 .ret)
 (.seq (.ops [oo 36 (.bin .eql 16 (kI 5)),oo 35 (.mov 36)])
 (.cnd 35
 (.seq (.ops [oo 9 (.nil 1 9)])
 (.seq (.seq (.ops [oo 37 (.mov 2),oo 38 (.len false 37),oo 39 (.mov (kI 0))])
 (.blk 1 (.loop (.seq (.ops [oo 40 (.bin .lss 39 38)])
 (.seq (.cnd 40
 .skip
 (.exit 1))
 (.seq (.blk 2 (.seq (.ops [oo 41 (.ixA 1 37 39),oo 42 (.ld 1 false 41),oo 11 (.mov 42)])
 (.seq (.ops [oo 43 (.mov 9),oo 44 (.mov 11),oo 45 (.callF 79 [43,44]),oo 46 (.not 45)])
 (.cnd 46
 (.ops [oo 47 (.mov 9),oo 48 (.mov 11),oo 49 (.bsl 1 [[(.int .i64 0)]] [(0,48)]),oo 50 (.app 1 8 47 49 9),oo 9 (.mov 50)])
 .skip))))
 (.ops [oo 51 (.bin .add 39 (kI 1)),oo 39 (.mov 51)])))))))
 (.seq (.ops [oo 52 (.mov 9),oo 6 (.mov 52)])
 .ret)))
 (.seq (.ops [oo 54 (.bin .eql 16 (kI 6)),oo 53 (.mov 54)])
 (.cnd 53
 (.seq (.ops [oo 55 (.flA 0 3),oo 56 (.ld 1 false 55),oo 57 (.len false 56),oo 58 (.mks 1 8 [(.int .i64 0)] 57 57),oo 12 (.mov 58)])
 (.seq (.seq (.ops [oo 59 (.mov 2),oo 60 (.len false 59),oo 61 (.mov (kI 0))])
 (.blk 3 (.loop (.seq (.ops [oo 62 (.bin .lss 61 60)])
 (.seq (.cnd 62
 .skip
 (.exit 3))
 (.seq (.blk 4 (.seq (.ops [oo 63 (.ixA 1 59 61),oo 64 (.ld 1 false 63),oo 14 (.mov 64)])
 (.ops [oo 65 (.mov 12),oo 66 (.mov 14),oo 67 (.ixA 1 65 66),oo 68 (.ld 1 false 67),oo 69 (.bin .add 68 (kI 1)),oo 70 (.ixA 1 65 66),
 ⟨none,none,(.st 1 70 69)⟩])))
 (.ops [oo 71 (.bin .add 61 (kI 1)),oo 61 (.mov 71)])))))))
 (.seq (.seq (.frz 12)
 (.ops [oo 72 (.mov 12),oo 6 (.mov 72)]))
 .ret)))
 .skip))))))))))))
 (.seq (.ops [oo 73 (.mov 2),oo 74 (.callF 80 [73]),oo 6 (.mov 74)])
 .ret)))⟩
def hint41 (P:Program):Hint:={site:=[(50,9)],nils:=[(9,1)],frz:=[(28,3),(33,4),(72,12)],mve:=[],wr:=[] }
theorem w_frzIG {P:Program} {Q:Post} {e:Nat→AV} {σ:Sig} {t i g n:Nat} {xs:List Int} (F:List (Nat×AV)) (S:List (Nat×(Nat×Res))) (hx:e t= .msl i g n 1) (hσ:σ i=(g,.row (xs.map (AV.int .i64)))) (hn:xs.length=n)
  (hF:slots F (frzE i g (xs.map (AV.int .i64)) e)) (hS:slots S (frzS i g (xs.map (AV.int .i64)) σ)) (hk:∀e' σ',Q .nor (updL F e') (updL S σ')):awp P (.frz (.t t)) Q e σ:=by
 show frzW (e t) e σ (Q .nor)
 rw[hx]
 show (match σ i with|(g',.row c)=>g=g'∧c.all AV.scal=true∧Q .nor (frzE i g c e) (frzS i g c σ) | _=>False)
 rw[hσ]
 refine⟨rfl,by simp[AV.scal],?_⟩
 have:=hk (frzE i g (xs.map (AV.int .i64)) e) (frzS i g (xs.map (AV.int .i64)) σ)
 rw[updL_slots hF,updL_slots hS] at this
 exact this
def fstF:List Int→List Int→List Int
 | o,[]=>o
 | o,x::r=>if 0≤idxI o x then fstF o r else fstF (o++[x]) r
def cntX:List Int→List Int→List Int
 | xs,[]=>xs
 | xs,w::r=>cntX (xs.set w.toNat (xs.getD w.toNat 0+1)) r
def dueF (G:Gm) (a:Aq) (c:List Int):List Int:=
 if a.kind=1 then numF [] c else if a.kind=2 then whF (fun x=>!triedB G.ds x) 0 c else if a.kind=4 then whF (fun x=>decide (x=a.wood)) 0 c
 else if a.kind=5 then fstF [] c else if a.kind=6 then cntX (List.replicate G.ws.length 0) c else c
theorem due_c (G:Gm) (a:Aq) (c:List Int) (hn:G.ws.length≤6) (hd:G.ds.length≤24) (h1:1≤c.length) (h9:c.length≤9) (hc:∀x∈c,0≤x∧x<(G.ws.length:Int)):Fn0 Tryz.prog 41 [gmA G,aqA a,.slc 1 (iR c) .non] (fun v=>v= .slc 1 (iR (dueF G a c)) .non):=by
 obtain⟨B,hB⟩:∃B,dueF G a c=B:=⟨_,rfl⟩
 rw[hB]
 unfold dueF at hB
 have hne:c≠[]:=fun h=>by subst h;simp at h1
 by_cases e1:a.kind=1
 · rw[if_pos e1] at hB
   subst hB
   refine RawC.walk (H:=hint41 Tryz.prog) ir41 Tryz.func41 rfl rfl rfl ?_
   unfold ir41
   repeat' (first
    | with_reducible refine Rd.p ?_
    | with_reducible (first|refine zI fun y hy=>?_|refine zL ?_|refine zS ?_|refine zV ?_|refine zC ?_)
    | ((with_reducible refine aC ?_);first|(refine ACall.val (chartOf_c c h1 h9) rfl rfl ?_))
    | refine aX ?_|with_reducible intro _
    | with_reducible refine zJ ?_ fun y hy=>?_|refine aP ?_ ?_)
   all_goals first
    | (exfalso;omega)
    | rfl
 rw[if_neg e1] at hB
 by_cases e2:a.kind=2
 · rw[if_pos e2] at hB
   subst hB
   have hw:=where_c 75 [.slc 2 (wR G.ws) .non,.slc 5 (dlR G.ds) .non] (fun x=>!triedB G.ds x) c (by omega) fun x _=>due1_c G x (by omega)
   refine RawC.walk (H:=hint41 Tryz.prog) ir41 Tryz.func41 rfl rfl rfl ?_
   unfold ir41
   repeat' (first
    | with_reducible refine Rd.p ?_
    | with_reducible (first|refine zI fun y hy=>?_|refine zL ?_|refine zS ?_|refine zV ?_|refine zC ?_)
    | (refine w_frzR rfl rfl rfl ?_)
    | ((with_reducible refine aC ?_);first|(refine ACall.val hw rfl rfl ?_))
    | refine aX ?_|with_reducible intro _
    | with_reducible refine zJ ?_ fun y hy=>?_|refine aP ?_ ?_)
   all_goals first
    | (exfalso;omega)
    | rfl
 rw[if_neg e2] at hB
 by_cases e4:a.kind=4
 · rw[if_pos e4] at hB
   subst hB
   have hw:=where_c 78 [.int .i64 a.kind,.int .i64 a.wood] (fun x=>decide (x=a.wood)) c (by omega) fun x _=>due2_c a x
   refine RawC.walk (H:=hint41 Tryz.prog) ir41 Tryz.func41 rfl rfl rfl ?_
   unfold ir41
   repeat' (first
    | with_reducible refine Rd.p ?_
    | with_reducible (first|refine zI fun y hy=>?_|refine zL ?_|refine zS ?_|refine zV ?_|refine zC ?_)
    | (refine w_frzR rfl rfl rfl ?_)
    | ((with_reducible refine aC ?_);first|(refine ACall.val hw rfl rfl ?_))
    | refine aX ?_|with_reducible intro _
    | with_reducible refine zJ ?_ fun y hy=>?_|refine aP ?_ ?_)
   all_goals first
    | (exfalso;omega)
    | rfl
 rw[if_neg e4] at hB
 by_cases e5:a.kind=5
 · rw[if_pos e5] at hB
   subst hB
   refine RawC.walk (H:=hint41 Tryz.prog) ir41 Tryz.func41 rfl rfl rfl ?_
   unfold ir41
   repeat' (first
    | with_reducible refine Rd.p ?_
    | with_reducible (first|refine zI fun y hy=>?_|refine zL ?_|refine zS ?_|refine zV ?_|refine zC ?_)
    | refine aX ?_|with_reducible intro _
    | with_reducible refine zJ ?_ fun y hy=>?_|refine aP ?_ ?_)
   all_goals try (exfalso;omega)
   rename_i g9
   refine w_loopK [37,38] [] (fun x:List Int×List Int×List Int×Nat=>c=x.1++x.2.1∧fstF x.2.2.1 x.2.1=fstF [] c∧x.2.2.1.length≤x.1.length) (fun x=>x.2.1.length) (fun x=>[(39,.int .i64 x.1.length),(9,.slc 1 (iR x.2.2.1) (.own 9 x.2.2.2))]) (fun x=>[(9,(x.2.2.2,.row []))]) ([],c,[],g9) ⟨rfl,rfl,Nat.le_refl _⟩ ⟨rfl,rfl,trivial⟩ ⟨rfl,trivial⟩ ?_
   rintro⟨pre,post,out,g⟩ ⟨hll,hb,ho⟩ e σ
   dsimp only at hll hb ho ⊢
   have hlen:=congrArg List.length hll
   have hol:(iR out).length=out.length:=List.length_map _
   cases post with
   | nil=>
     simp only[List.append_nil,List.length_append,List.length_nil] at hlen
     rw[show fstF out []=out from rfl] at hb
     rw[←hb]
     repeat' (first
      | with_reducible refine Rd.p ?_
      | with_reducible (first|refine zI fun y hy=>?_|refine zL ?_|refine zS ?_|refine zV ?_|refine zC ?_)
      | refine aX ?_|with_reducible intro _
      | with_reducible refine zJ ?_ fun y hy=>?_|refine aP ?_ ?_)
     all_goals first
      | (exfalso;omega)
      | rfl
   | cons x post=>
     simp only[List.length_append,List.length_cons] at hlen
     rw[fstF] at hb
     have hpl:(pre++[x]).length=pre.length+1:=len_snoc
     have hct:=contains_c out x (by omega)
     by_cases hx:0≤idxI out x
     · rw[if_pos hx] at hb
       rw[decide_eq_true hx] at hct
       repeat' (first
        | with_reducible refine Rd.p ?_
        | (refine w_ixP hll rfl rfl ?_)
        | with_reducible (first|refine zI fun y hy=>?_|refine zL ?_|refine zS ?_|refine zV ?_|refine zC ?_)
        | ((with_reducible refine aC ?_);first|(refine ACall.val hct rfl rfl ?_))
        | refine aX ?_|with_reducible intro _
        | with_reducible refine zJ ?_ fun y hy=>?_|refine aP ?_ ?_)
       all_goals first
        | (exfalso;omega)
        | exact q_loop (pre++[x],post,out,g) ⟨by dsimp only;rw[hll];simp,hb,by dsimp only;omega⟩ (Nat.lt_succ_self _) ⟨by rw[len_snoc];rfl,rfl,trivial⟩ aS aK aK
     · rw[if_neg hx] at hb
       rw[decide_eq_false hx] at hct
       repeat' (first
        | with_reducible refine Rd.p ?_
        | (refine w_ixP hll rfl rfl ?_)
        | with_reducible (first|refine zI fun y hy=>?_|refine zL ?_|refine zS ?_|refine zV ?_|refine zC ?_)
        | ((with_reducible refine aC ?_);first|(refine ACall.val hct rfl rfl ?_))
        | refine aX ?_|with_reducible intro _
        | with_reducible refine zJ ?_ fun y hy=>?_|refine aP ?_ ?_)
       all_goals try (exfalso;omega)
       all_goals
        rename_i g5
        exact q_loop (pre++[x],post,out++[x],g5) ⟨by dsimp only;rw[hll];simp,hb,by dsimp only;rw[len_snoc];omega⟩ (Nat.lt_succ_self _) ⟨by rw[len_snoc];rfl,rfl,trivial⟩ aS aK aK
 rw[if_neg e5] at hB
 by_cases e6:a.kind=6
 · rw[if_pos e6] at hB
   subst hB
   refine RawC.walk (H:=hint41 Tryz.prog) ir41 Tryz.func41 rfl rfl rfl ?_
   unfold ir41
   repeat' (first
    | with_reducible refine Rd.p ?_
    | (refine w_mksI rfl (by omega) ?_;intro g58)
    | with_reducible (first|refine zI fun y hy=>?_|refine zL ?_|refine zS ?_|refine zV ?_|refine zC ?_)
    | refine aX ?_|with_reducible intro _
    | with_reducible refine zJ ?_ fun y hy=>?_|refine aP ?_ ?_)
   all_goals try (exfalso;omega)
   refine w_loopK [12,59,60] [] (fun x:List Int×List Int×List Int=>c=x.1++x.2.1∧cntX x.2.2 x.2.1=cntX (List.replicate G.ws.length 0) c∧x.2.2.length=G.ws.length∧ ∀k,0≤x.2.2.getD k 0∧x.2.2.getD k 0≤x.1.length) (fun x=>x.2.1.length) (fun x=>[(61,.int .i64 x.1.length)]) (fun x=>[(58,(g58,.row (x.2.2.map (AV.int .i64))))]) ([],c,List.replicate G.ws.length 0) ⟨rfl,rfl,List.length_replicate,fun k=>by
    have:(List.replicate G.ws.length (0:Int)).getD k 0=0:=by
     rw[List.getD_eq_getElem?_getD,List.getElem?_replicate];split<;>rfl
    rw[this];exact⟨Int.le_refl _,Int.le_refl _⟩⟩ ⟨rfl,trivial⟩ ⟨rfl,trivial⟩ ?_
   rintro⟨pre,post,xs⟩ ⟨hll,hb,hx,hk⟩ e σ
   dsimp only at hll hb hx hk ⊢
   have hlen:=congrArg List.length hll
   cases post with
   | nil=>
     simp only[List.append_nil,List.length_append,List.length_nil] at hlen
     rw[show cntX xs []=xs from rfl] at hb
     rw[←hb]
     repeat' (first
      | with_reducible refine Rd.p ?_
      | with_reducible (first|refine zI fun y hy=>?_|refine zL ?_|refine zS ?_|refine zV ?_|refine zC ?_)
      | refine aX ?_|with_reducible intro _
      | with_reducible refine zJ ?_ fun y hy=>?_|refine aP ?_ ?_)
     all_goals try (exfalso;omega)
     have hfz:frzA 58 g58 (xs.map (AV.int .i64)) (.msl 58 g58 G.ws.length 1)= .slc 1 (iR xs) .non:=by rw[←hx];simp[frzA,chunk1]
     refine w_frzIG [(12,.slc 1 (iR xs) .non)] [] rfl rfl hx ⟨hfz,trivial⟩ trivial ?_
     intro e2 σ2
     repeat' (first
      | with_reducible refine Rd.p ?_
      | with_reducible (first|refine zI fun y hy=>?_|refine zL ?_|refine zS ?_|refine zV ?_|refine zC ?_)
      | refine aX ?_|with_reducible intro _
      | with_reducible refine zJ ?_ fun y hy=>?_|refine aP ?_ ?_)
     all_goals first
      | rfl
   | cons w post=>
     simp only[List.length_append,List.length_cons] at hlen
     rw[cntX] at hb
     have hw:=hc w (by rw[hll];simp)
     have hkw:=hk w.toNat
     have hwl:w.toNat*1<xs.length:=by omega
     have hw1:w.toNat*1=w.toNat:=Nat.mul_one _
     repeat' (first
      | with_reducible refine Rd.p ?_
      | (first|refine w_ixP hll rfl rfl ?_|(refine w_ldI rfl rfl hwl ?_;rw[hw1])|(refine w_stI rfl rfl rfl hwl ?_;rw[hw1]))
      | with_reducible (first|refine zI fun y hy=>?_|refine zL ?_|refine zS ?_|refine zV ?_|refine zC ?_)
      | refine aX ?_|with_reducible intro _
      | with_reducible refine zJ ?_ fun y hy=>?_|refine aP ?_ ?_)
     all_goals first
      | (exfalso;omega)
      | exact q_loop (pre++[w],post,xs.set w.toNat (xs.getD w.toNat 0+1)) ⟨by dsimp only;rw[hll];simp,hb,by dsimp only;rw[List.length_set];exact hx,fun k=>by
         dsimp only
         rw[set_getD (by omega),len_snoc]
         have:=hk k
         split<;>omega⟩   (Nat.lt_succ_self _) ⟨by rw[len_snoc];rfl,trivial⟩ aS aK aK
 · rw[if_neg e6] at hB
   subst hB
   refine RawC.walk (H:=hint41 Tryz.prog) ir41 Tryz.func41 rfl rfl rfl ?_
   unfold ir41
   repeat' (first
    | with_reducible refine Rd.p ?_
    | with_reducible (first|refine zI fun y hy=>?_|refine zL ?_|refine zS ?_|refine zV ?_|refine zC ?_)
    | ((with_reducible refine aC ?_);first|(refine ACall.val (clone_c c _ (.inr ⟨rfl,hne⟩) (by omega)) rfl rfl ?_))
    | refine aX ?_|with_reducible intro _
    | with_reducible refine zJ ?_ fun y hy=>?_|refine aP ?_ ?_)
   all_goals first
    | (exfalso;omega)
    | rfl
def cmpI (x y:Int):Int:=if x<y then-1 else if y<x then 1 else 0
theorem cmpI_eq {x y:Int}:cmpI x y=0↔x=y:=by unfold cmpI;split<;>(try split)<;>simp<;>omega
theorem cmpI_lt {x y:Int}:cmpI x y<0↔x<y:=by unfold cmpI;split<;>(try split)<;>simp<;>omega
theorem cmpI_anti (x y:Int):cmpI y x= -cmpI x y:=by
 unfold cmpI
 by_cases h1:x<y
 · rw[if_neg (by omega),if_pos h1,if_pos h1];omega
 · by_cases h2:y<x
   · rw[if_pos h2,if_neg h1,if_pos h2]
   · rw[if_neg h2,if_neg h1,if_neg h1,if_neg h2];omega
def lexI:List Int→List Int→Int
 | [],[]=>0
 | [],_::_=> -1
 | _::_,[]=>1
 | x::a,y::b=>if cmpI x y=0 then lexI a b else cmpI x y
theorem lexI_eq:∀{a b:List Int},lexI a b=0↔a=b
 | [],[]=>by simp[lexI]
 | [],_::_=>by simp[lexI]
 | _::_,[]=>by simp[lexI]
 | x::a,y::b=>by
   rw[lexI]
   split
   · rename_i h;rw[lexI_eq,cmpI_eq.1 h];simp
   · rename_i h
     refine⟨fun h2=>absurd h2 h,fun h2=>?_⟩
     cases h2
     exact absurd (cmpI_eq.2 rfl) h
theorem lexI_anti:∀(a b:List Int),lexI b a= -lexI a b
 | [],[]=>by simp[lexI]
 | [],_::_=>by simp[lexI]
 | _::_,[]=>by simp[lexI]
 | x::a,y::b=>by
   rw[lexI,lexI,lexI_anti a b,cmpI_anti x y]
   by_cases h:cmpI x y=0
   · rw[if_pos h,if_pos (by rw[h];rfl)]
   · rw[if_neg h,if_neg (by omega)]
theorem lexI_trans:∀{a b c:List Int},lexI a b<0→lexI b c<0→lexI a c<0
 | [],[],_,h,_=>by simp[lexI] at h
 | _::_,[],_,h,_=>by simp[lexI] at h
 | _,_::_,[],_,h=>by simp[lexI] at h
 | [],_::_,_::_,_,_=>by simp[lexI]
 | x::a,y::b,z::c,h1,h2=>by
   rw[lexI] at h1 h2 ⊢
   by_cases e1:cmpI x y=0
   · rw[if_pos e1] at h1
     obtain rfl:=cmpI_eq.1 e1
     by_cases e2:cmpI x z=0
     · rw[if_pos e2] at h2 ⊢;exact lexI_trans h1 h2
     · rw[if_neg e2] at h2 ⊢;exact h2
   · rw[if_neg e1] at h1
     have h1':=cmpI_lt.1 h1
     by_cases e2:cmpI y z=0
     · obtain rfl:=cmpI_eq.1 e2
       rw[if_neg e1];exact h1
     · rw[if_neg e2] at h2
       have h2':=cmpI_lt.1 h2
       have h3:cmpI x z<0:=cmpI_lt.2 (by omega)
       rw[if_neg (by omega)];exact h3
def lsI (a b:List Int):Int:=if cmpI a.length b.length=0 then lexI a b else cmpI a.length b.length
theorem lsI_eq {a b:List Int}:lsI a b=0↔a=b:=by
 unfold lsI
 split
 · exact lexI_eq
 · rename_i h
   exact⟨fun h2=>absurd h2 h,fun h2=>absurd (by rw[h2];exact cmpI_eq.2 rfl) h⟩
theorem lsI_anti (a b:List Int):lsI b a= -lsI a b:=by
 unfold lsI
 rw[cmpI_anti a.length b.length,lexI_anti a b]
 by_cases h:cmpI a.length b.length=0
 · rw[if_pos h,if_pos (by rw[h];rfl)]
 · rw[if_neg h,if_neg (by omega)]
theorem lsI_trans {a b c:List Int} (h1:lsI a b<0) (h2:lsI b c<0):lsI a c<0:=by
 unfold lsI at*
 by_cases e1:cmpI a.length b.length=0
 · rw[if_pos e1] at h1
   have q1:=cmpI_eq.1 e1
   rw[q1]
   by_cases e2:cmpI b.length c.length=0
   · rw[if_pos e2] at h2 ⊢;exact lexI_trans h1 h2
   · rw[if_neg e2] at h2 ⊢;exact h2
 · rw[if_neg e1] at h1
   have h1':=cmpI_lt.1 h1
   by_cases e2:cmpI b.length c.length=0
   · rw[←cmpI_eq.1 e2,if_neg e1];exact h1
   · rw[if_neg e2] at h2
     have h2':=cmpI_lt.1 h2
     have h3:cmpI a.length c.length<0:=cmpI_lt.2 (by omega)
     rw[if_neg (by omega)];exact h3
def ir111:IFn:=
 ⟨6,[(2,none)],(.seq (.ops [oo 2 (.mov (kB false))])
 (.seq (.ops [oo 3 (.mov 0),oo 4 (.mov 0),oo 5 (.bin .neq 3 4),oo 2 (.mov 5)])
 .ret))⟩
def hint111 (P:Program):Hint:={}
def ir87:IFn:=
 ⟨20,[(4,none)],(.seq (.ops [oo 4 (.mov (kI 0))])
 (.seq (.ops [oo 7 (.mov 0),oo 8 (.callF 111 [7]),oo 5 (.mov 8)])
 (.seq (.ops [oo 9 (.mov 1),oo 10 (.callF 111 [9]),oo 6 (.mov 10)])
 (.seq (.seq (.ops [oo 11 (.mov 5)])
 (.cnd 11
 (.seq (.seq (.ops [oo 12 (.mov 6)])
 (.cnd 12
 (.seq (.ops [oo 4 (.mov (kI 0))])
 .ret)
 .skip))
 (.seq (.ops [oo 4 (.mov (.k (.int .i64 (-1))))])
 .ret))
 .skip))
 (.seq (.seq (.ops [oo 13 (.mov 6)])
 (.cnd 13
 (.seq (.ops [oo 4 (.mov (kI 1))])
 .ret)
 .skip))
 (.seq (.seq (.ops [oo 14 (.mov 0),oo 15 (.mov 1),oo 16 (.bin .lss 14 15)])
 (.cnd 16
 (.seq (.ops [oo 4 (.mov (.k (.int .i64 (-1))))])
 .ret)
 .skip))
 (.seq (.seq (.ops [oo 17 (.mov 0),oo 18 (.mov 1),oo 19 (.bin .gtr 17 18)])
 (.cnd 19
 (.seq (.ops [oo 4 (.mov (kI 1))])
 .ret)
 .skip))
 (.seq (.ops [oo 4 (.mov (kI 0))])
 .ret))))))))⟩
def hint87 (P:Program):Hint:={}
def ir88:IFn:=
 ⟨36,[(4,none)],(.seq (.ops [oo 4 (.mov (kI 0))])
 (.seq (.seq (.ops [oo 9 (.mov 0),oo 10 (.len false 9),oo 11 (.mov (kI 0))])
 (.blk 0 (.loop (.seq (.ops [oo 12 (.bin .lss 11 10)])
 (.seq (.cnd 12
 .skip
 (.exit 0))
 (.seq (.blk 1 (.seq (.ops [oo 13 (.mov 11),oo 14 (.ixA 1 9 11),oo 15 (.ld 1 false 14),oo 5 (.mov 13),oo 6 (.mov 15)])
 (.seq (.seq (.ops [oo 16 (.mov 5),oo 17 (.mov 1),oo 18 (.len false 17),oo 19 (.bin .geq 16 18)])
 (.cnd 19
 (.seq (.ops [oo 4 (.mov (kI 1))])
 .ret)
 .skip))
 (.seq (.ops [oo 20 (.mov 1),oo 21 (.mov 5),oo 22 (.ixA 1 20 21),oo 23 (.ld 1 false 22),oo 7 (.mov 23)])
 (.seq (.ops [oo 24 (.mov 6),oo 25 (.mov 7),oo 26 (.callF 87 [24,25]),oo 8 (.mov 26)])
 (.seq (.ops [oo 27 (.mov 8),oo 28 (.bin .neq 27 (kI 0))])
 (.cnd 28
 (.seq (.ops [oo 29 (.mov 8),oo 4 (.mov 29)])
 .ret)
 .skip)))))))
 (.ops [oo 30 (.bin .add 11 (kI 1)),oo 11 (.mov 30)])))))))
 (.seq (.seq (.ops [oo 31 (.mov 0),oo 32 (.len false 31),oo 33 (.mov 1),oo 34 (.len false 33),oo 35 (.bin .lss 32 34)])
 (.cnd 35
 (.seq (.ops [oo 4 (.mov (.k (.int .i64 (-1))))])
 .ret)
 .skip))
 (.seq (.ops [oo 4 (.mov (kI 0))])
 .ret))))⟩
def hint88 (P:Program):Hint:={}
def ir86:IFn:=
 ⟨18,[(2,none)],(.seq (.ops [oo 2 (.mov (kI 0))])
 (.seq (.ops [oo 3 (.mov (kI 0))])
 (.seq (.seq (.ops [oo 6 (.mov 0),oo 7 (.len false 6),oo 8 (.mov (kI 0))])
 (.blk 0 (.loop (.seq (.ops [oo 9 (.bin .lss 8 7)])
 (.seq (.cnd 9
 .skip
 (.exit 0))
 (.seq (.blk 1 (.seq (.ops [oo 10 (.ixA 1 6 8),oo 11 (.ld 1 false 10),oo 5 (.mov 11)])
 (.seq (.ops [oo 12 (.mov 5),oo 13 (.mov 3),oo 14 (.bin .neq 12 13)])
 (.cnd 14
 (.seq (.ops [oo 15 (.mov 5),oo 2 (.mov 15)])
 .ret)
 .skip))))
 (.ops [oo 16 (.bin .add 8 (kI 1)),oo 8 (.mov 16)])))))))
 (.seq (.ops [oo 17 (.mov 3),oo 2 (.mov 17)])
 .ret))))⟩
def hint86 (P:Program):Hint:={}
theorem isNaN_c (x:Int):Fn0 Tryz.prog 111 [.int .i64 x] (fun v=>v= .bool false):=by
 refine RawC.walk (H:=hint111 Tryz.prog) ir111 Tryz.func111 rfl rfl rfl ?_
 unfold ir111
 repeat' (first
  | with_reducible refine Rd.p ?_
  | with_reducible (first|refine zL ?_|refine zS ?_|refine zV ?_|refine zC ?_)
  | refine aX ?_|with_reducible intro _
  | refine aP ?_ ?_)
 exact congrArg AV.bool (decide_eq_false (by simp))
theorem compare_c (x y:Int):Fn0 Tryz.prog 87 [.int .i64 x,.int .i64 y] (fun v=>v= .int .i64 (cmpI x y)):=by
 refine RawC.walk (H:=hint87 Tryz.prog) ir87 Tryz.func87 rfl rfl rfl ?_
 unfold ir87
 repeat' (first
  | with_reducible refine Rd.p ?_
  | with_reducible (first|refine zL ?_|refine zS ?_|refine zV ?_|refine zC ?_)
  | ((with_reducible refine aC ?_);first|(refine ACall.val (isNaN_c _) rfl rfl ?_))
  | refine aX ?_|with_reducible intro _
  | refine aP ?_ ?_)
 all_goals (refine congrArg (AV.int .i64) ?_;unfold cmpI)
 · rw[if_pos (by assumption)]
 · rw[if_neg (by assumption),if_pos (by assumption)]
 · rw[if_neg (by assumption),if_neg (by assumption)]
theorem lexI_app (p a b:List Int):lexI (p++a) (p++b)=lexI a b:=by
 induction p with
 | nil=>rfl
 | cons x p ih=>rw[List.cons_append,List.cons_append,lexI,if_pos (cmpI_eq.2 rfl),ih]
theorem scompare_c (a b:List Int) (ha:a.length<1000000) (hb:b.length<1000000):Fn0 Tryz.prog 88 [.slc 1 (iR a) .non,.slc 1 (iR b) .non] (fun v=>v= .int .i64 (lexI a b)):=by
 refine RawC.walk (H:=hint88 Tryz.prog) ir88 Tryz.func88 rfl rfl rfl ?_
 unfold ir88
 repeat' (first
  | with_reducible refine Rd.p ?_
  | with_reducible (first|refine zI fun y hy=>?_|refine zL ?_|refine zS ?_|refine zV ?_|refine zC ?_)
  | refine aX ?_|with_reducible intro _
  | with_reducible refine zJ ?_ fun y hy=>?_|refine aP ?_ ?_)
 refine w_loopK [0,1,9,10] [] (fun x:List Int×List Int×List Int=>a=x.1++x.2.1∧b=x.1++x.2.2) (fun x=>x.2.1.length) (fun x=>[(11,.int .i64 x.1.length)]) (fun _=>[]) ([],a,b) ⟨rfl,rfl⟩ ⟨rfl,trivial⟩ trivial ?_
 rintro⟨pre,r,s⟩ ⟨h1,h2⟩ e σ
 dsimp only at h1 h2 ⊢
 have l1:=congrArg List.length h1
 have l2:=congrArg List.length h2
 rw[List.length_append] at l1 l2
 have hL:lexI a b=lexI r s:=by rw[h1,h2,lexI_app]
 cases r with
 | nil=>
   rw[List.length_nil] at l1
   repeat' (first
    | with_reducible refine Rd.p ?_
    | with_reducible (first|refine zI fun y hy=>?_|refine zL ?_|refine zS ?_|refine zV ?_|refine zC ?_)
    | refine aX ?_|with_reducible intro _
    | with_reducible refine zJ ?_ fun y hy=>?_|refine aP ?_ ?_)
   · cases s with
     | nil=>rw[List.length_nil] at l2;omega
     | cons y s=>rw[hL];rfl
   · cases s with
     | nil=>rw[hL];rfl
     | cons y s=>rw[List.length_cons] at l2;omega
 | cons x r=>
   rw[List.length_cons] at l1
   cases s with
   | nil=>
     rw[List.length_nil] at l2
     repeat' (first
      | with_reducible refine Rd.p ?_
      | (refine w_ixP h1 rfl rfl ?_)
      | with_reducible (first|refine zI fun y hy=>?_|refine zL ?_|refine zS ?_|refine zV ?_|refine zC ?_)
      | refine aX ?_|with_reducible intro _
      | with_reducible refine zJ ?_ fun y hy=>?_|refine aP ?_ ?_)
     rw[hL];rfl
   | cons y s=>
     rw[List.length_cons] at l2
     rw[lexI] at hL
     repeat' (first
      | with_reducible refine Rd.p ?_
      | (first|refine w_ixP h1 rfl rfl ?_|refine w_ixP h2 rfl rfl ?_)
      | with_reducible (first|refine zI fun y hy=>?_|refine zL ?_|refine zS ?_|refine zV ?_|refine zC ?_)
      | ((with_reducible refine aC ?_);first|(refine ACall.val (compare_c _ _) rfl rfl ?_))
      | refine aX ?_|with_reducible intro _
      | with_reducible refine zJ ?_ fun y hy=>?_|refine aP ?_ ?_)
     · rename_i h;rw[hL,if_neg h];rfl
     · rename_i h
       rw[if_pos (Decidable.not_not.1 h)] at hL
       have hxy:=cmpI_eq.1 (Decidable.not_not.1 h)
       refine zQ (pre++[x],r,s) ?_ ?_
       · dsimp only
         exact⟨by rw[h1];simp,by rw[h2,hxy];simp⟩
       · simp
def orI:List Int→Int
 | []=>0
 | x::r=>if x=0 then orI r else x
theorem or_c (l:List Int) (hl:l.length<1000000):Fn0 Tryz.prog 86 [.slc 1 (iR l) .non] (fun v=>v= .int .i64 (orI l)):=by
 refine RawC.walk (H:=hint86 Tryz.prog) ir86 Tryz.func86 rfl rfl rfl ?_
 unfold ir86
 repeat' (first
  | with_reducible refine Rd.p ?_
  | with_reducible (first|refine zI fun y hy=>?_|refine zL ?_|refine zS ?_|refine zV ?_|refine zC ?_)
  | refine aX ?_|with_reducible intro _
  | with_reducible refine zJ ?_ fun y hy=>?_|refine aP ?_ ?_)
 refine w_loopK [3,6,7] [] (fun x:List Int×List Int=>l=x.1++x.2∧orI l=orI x.2) (fun x=>x.2.length) (fun x=>[(8,.int .i64 x.1.length)]) (fun _=>[]) ([],l) ⟨rfl,rfl⟩ ⟨rfl,trivial⟩ trivial ?_
 rintro⟨pre,post⟩ ⟨hp,hb⟩ e σ
 dsimp only at hp hb ⊢
 have hlen:=congrArg List.length hp
 cases post with
 | nil=>
   simp only[List.append_nil,List.length_append,List.length_nil] at hlen
   repeat' (first
    | with_reducible refine Rd.p ?_
    | with_reducible (first|refine zI fun y hy=>?_|refine zL ?_|refine zS ?_|refine zV ?_|refine zC ?_)
    | refine aX ?_|with_reducible intro _
    | with_reducible refine zJ ?_ fun y hy=>?_|refine aP ?_ ?_)
   rw[hb];rfl
 | cons c post=>
   simp only[List.length_append,List.length_cons] at hlen
   rw[orI] at hb
   repeat' (first
    | with_reducible refine Rd.p ?_
    | (refine w_ixP hp rfl rfl ?_)
    | with_reducible (first|refine zI fun y hy=>?_|refine zL ?_|refine zS ?_|refine zV ?_|refine zC ?_)
    | refine aX ?_|with_reducible intro _
    | with_reducible refine zJ ?_ fun y hy=>?_|refine aP ?_ ?_)
   · rename_i h;rw[hb,if_neg h];rfl
   · rename_i h
     refine zQ (pre++[c],post) ?_ ?_
     · dsimp only
       exact⟨by rw[hp];simp,by rw[hb,if_pos (Decidable.not_not.1 h)]⟩
     · simp
def ir47:IFn:=
 ⟨15,[(4,none)],(.seq (.ops [oo 4 (.mov (kI 0))])
 (.seq (.ops [oo 5 (.mov 0),oo 6 (.len false 5),oo 7 (.mov 1),oo 8 (.len false 7),oo 9 (.callF 87 [6,8]),oo 10 (.mov 0),oo 11 (.mov 1),oo 12 (.callF 88 [10,11]),oo 13 (.bsl 1 [[(.int .i64 0)],[(.int .i64 0)]] [(0,9),(1,12)]),oo 14 (.callF 86 [13]),oo 4 (.mov 14)])
 .ret))⟩
def hint47 (P:Program):Hint:={}
theorem ordered_c (a b:List Int) (ha:a.length<1000000) (hb:b.length<1000000):Fn0 Tryz.prog 47 [.slc 1 (iR a) .non,.slc 1 (iR b) .non] (fun v=>v= .int .i64 (lsI a b)):=by
 refine RawC.walk (H:=hint47 Tryz.prog) ir47 Tryz.func47 rfl rfl rfl ?_
 unfold ir47
 repeat' (first
  | with_reducible refine Rd.p ?_
  | with_reducible (first|refine zI fun y hy=>?_|refine zL ?_|refine zS ?_|refine zV ?_|refine zC ?_)
  | ((with_reducible refine aC ?_);first|(refine ACall.val (compare_c _ _) rfl rfl ?_)|(refine ACall.val (scompare_c _ _ ha hb) rfl rfl ?_)|(refine ACall.val (or_c [_,_] (by simp)) rfl rfl ?_))
  | refine aX ?_|with_reducible intro _
  | with_reducible refine zJ ?_ fun y hy=>?_|refine aP ?_ ?_)
 refine congrArg (AV.int .i64) ?_
 rw[orI,orI,orI,lsI]
 split
 · split
   · rename_i h;exact h.symm
   · rfl
 · rfl
theorem sub_plA (r:List Int×Int) (h:r.2=0∨r.1=[]):Sub (plA r) (.tup [.slc 1 (iR r.1) .non,.int .i64 r.2]):=by
 unfold plA
 split
 · exact Sub.refl _
 · rename_i h0
   rw[h.resolve_left h0]
   exact Sub.tupM (.cons Sub.nil (.cons (Sub.refl _) .nil))
def ansI (x:List Int) (n:Int):List (List Int×Int)→List (List Int×Int)
 | []=>[(x,n)]
 | y::r=>if lsI y.1 x<0 then y::ansI x n r else if y.1=x then (y.1,y.2+n)::r else (x,n)::y::r
def posI (x:List Int):List (List Int×Int)→Nat
 | []=>0
 | y::r=>if lsI y.1 x<0 then posI x r+1 else 0
def ansL (f:List Int→List Int) (l:List (List Int×Int)):List (List Int×Int):=l.foldl (fun A c=>ansI (f c.1) c.2 A) []
def srtA (L:List (List Int×Int)):Prop:=L.Pairwise fun a b=>lsI a.1 b.1<0
theorem posI_le (x:List Int):∀L,posI x L≤L.length
 | []=>Nat.le_refl _
 | y::r=>by
   have:=posI_le x r
   rw[posI]
   split
   · rw[List.length_cons];omega
   · exact Nat.zero_le _
theorem lsI_tri {a b:List Int} (h1:¬lsI a b<0) (h2:a≠b):lsI b a<0:=by
 have:lsI a b≠0:=fun h=>h2 (lsI_eq.1 h)
 rw[lsI_anti a b];omega
theorem posI_iff {x:List Int}:∀{L},srtA L→ ∀q:Nat,q<L.length→(lsI ((L.map (·.1)).getD q []) x<0↔q<posI x L)
 | [],_,q,hq=>by simp at hq
 | y::r,h,q,hq=>by
   obtain⟨h1,h2⟩:=List.pairwise_cons.1 h
   rw[posI,List.map_cons]
   by_cases hy:lsI y.1 x<0
   · rw[if_pos hy]
     cases q with
     | zero=>simp[hy]
     | succ q=>
       rw[List.getD_cons_succ,posI_iff h2 q (by simpa using hq)];omega
   · rw[if_neg hy]
     cases q with
     | zero=>simp[hy]
     | succ q=>
       rw[List.getD_cons_succ]
       have hq':q<r.length:=by simpa using hq
       constructor
       · intro hlt
         exfalso
         have hm:=h1 r[q] (List.getElem_mem _)
         have e:(r.map (·.1)).getD q []=r[q].1:=by
          rw[List.getD_eq_getElem?_getD,List.getElem?_map,List.getElem?_eq_getElem hq'];rfl
         rw[e] at hlt
         exact hy (lsI_trans hm hlt)
       · intro h;omega
theorem ansI_new {x:List Int} {n:Int}:∀{L},¬(posI x L<L.length∧(L.map (·.1)).getD (posI x L) []=x)→ansI x n L=L.take (posI x L)++(x,n)::L.drop (posI x L)
 | [],_=>rfl
 | y::r,h=>by
   rw[ansI]
   rw[posI] at h ⊢
   by_cases hy:lsI y.1 x<0
   · rw[if_pos hy] at h ⊢
     rw[if_pos hy,List.take_succ_cons,List.drop_succ_cons,List.cons_append,ansI_new fun hh=>h ⟨by rw[List.length_cons];omega,by rw[List.map_cons,List.getD_cons_succ];exact hh.2⟩]
   · rw[if_neg hy] at h ⊢
     rw[if_neg hy,if_neg fun e=>h ⟨by simp,by simpa using e⟩];rfl
theorem ansI_old {x:List Int} {n:Int}:∀{L},posI x L<L.length∧(L.map (·.1)).getD (posI x L) []=x→ansI x n L=L.set (posI x L) (x,(L.map (·.2)).getD (posI x L) 0+n)
 | [],h=>by simp at h
 | y::r,h=>by
   rw[ansI]
   rw[posI] at h ⊢
   by_cases hy:lsI y.1 x<0
   · rw[if_pos hy] at h ⊢
     rw[if_pos hy,List.set_cons_succ,List.map_cons,List.getD_cons_succ,ansI_old ⟨by have:=h.1;rw[List.length_cons] at this;omega,by simpa using h.2⟩]
   · rw[if_neg hy] at h ⊢
     have e:y.1=x:=by simpa using h.2
     rw[if_neg hy,if_pos e]
     simp[e]
theorem ansI_mem {x:List Int} {n:Int}:∀{L} {z:List Int×Int},z∈ansI x n L→z.1=x∨z∈L
 | [],z,h=>by rw[List.mem_singleton.1 h];exact .inl rfl
 | y::r,z,h=>by
   rw[ansI] at h
   split at h
   · rcases List.mem_cons.1 h with rfl | h
     · exact .inr (by simp)
     · rcases ansI_mem h with h | h
       · exact .inl h
       · exact .inr (by simp[h])
   · split at h
     · rename_i e
       rcases List.mem_cons.1 h with rfl | h
       · exact .inl e
       · exact .inr (by simp[h])
     · rcases List.mem_cons.1 h with rfl | h
       · exact .inl rfl
       · exact .inr h
theorem ansI_srt {x:List Int} {n:Int}:∀{L},srtA L→srtA (ansI x n L)
 | [],_=>List.pairwise_singleton _ _
 | y::r,h=>by
   obtain⟨h1,h2⟩:=List.pairwise_cons.1 h
   rw[ansI]
   by_cases hy:lsI y.1 x<0
   · rw[if_pos hy]
     refine List.pairwise_cons.2 ⟨fun z hz=>?_,ansI_srt h2⟩
     rcases ansI_mem hz with e | hz
     · rw[e];exact hy
     · exact h1 z hz
   · rw[if_neg hy]
     by_cases e:y.1=x
     · rw[if_pos e];exact List.pairwise_cons.2 ⟨fun z hz=>h1 z hz,h2⟩
     · rw[if_neg e]
       have hxy:=lsI_tri hy e
       refine List.pairwise_cons.2 ⟨fun z hz=>?_,h⟩
       rcases List.mem_cons.1 hz with rfl | hz
       · exact hxy
       · exact lsI_trans hxy (h1 z hz)
theorem ansI_len (x:List Int) (n:Int):∀L,(ansI x n L).length≤L.length+1∧1≤(ansI x n L).length
 | []=>⟨Nat.le_refl _,Nat.le_refl _⟩
 | y::r=>by
   have:=ansI_len x n r
   rw[ansI]
   split
   · simp only[List.length_cons];omega
   · split<;>simp only[List.length_cons]<;>omega
theorem ansI_sum (x:List Int) (n:Int):∀L,sumA (ansI x n L)=sumA L+n
 | []=>by simp[ansI,sumA]
 | y::r=>by
   rw[ansI]
   split
   · rw[sumA,sumA,ansI_sum x n r];omega
   · split
     · simp only[sumA];omega
     · simp only[sumA];omega
theorem ansI_pos {x:List Int} {n:Int} (hn:0<n):∀{L},(∀y∈L,0<y.2)→ ∀y∈ansI x n L,0<y.2
 | [],_,y,hy=>by rw[List.mem_singleton.1 hy];exact hn
 | z::r,h,y,hy=>by
   have hz:=h z (by simp)
   have hr:∀y∈r,0<y.2:=fun y hy=>h y (by simp[hy])
   rw[ansI] at hy
   split at hy
   · rcases List.mem_cons.1 hy with rfl | hy
     · exact hz
     · exact ansI_pos hn hr y hy
   · split at hy
     · rcases List.mem_cons.1 hy with rfl | hy
       · show 0<z.2+n;omega
       · exact hr y hy
     · rcases List.mem_cons.1 hy with rfl | hy
       · exact hn
       · exact h y hy
theorem sumA_nn:∀{L:List (List Int×Int)},(∀y∈L,0<y.2)→0≤sumA L
 | [],_=>Int.le_refl _
 | y::r,h=>by
   have:=sumA_nn (L:=r) fun z hz=>h z (by simp[hz])
   have:=h y (by simp)
   rw[sumA];omega
theorem sumA_mem:∀{L:List (List Int×Int)},(∀y∈L,0<y.2)→ ∀q:Nat,0≤(L.map (·.2)).getD q 0∧(L.map (·.2)).getD q 0≤sumA L
 | [],_,q=>by simp[sumA]
 | y::r,h,q=>by
   have hr:∀z∈r,0<z.2:=fun z hz=>h z (by simp[hz])
   have h0:=sumA_nn hr
   have hy:=h y (by simp)
   rw[sumA]
   cases q with
   | zero=>simp only[List.map_cons,List.getD_cons_zero];omega
   | succ q=>
     have:=sumA_mem hr q
     simp only[List.map_cons,List.getD_cons_succ];omega
def ansO (G:Gm) (a:Aq):List (List Int×Int)×Int:=
 if gmErr G=0 then (if askErr G.ws.length a=0 then (if (crsO G).2=0 then (ansL (dueF G a) (crsO G).1,0) else ([],(crsO G).2)) else ([],askErr G.ws.length a)) else ([],gmErr G)
theorem whF_len2 (p:Int→Bool) (l:List Int):(whF p 0 l).length≤l.length:=whF_len p 0 l
theorem numF_len:∀(met l:List Int),(numF met l).length=l.length
 | _,[]=>rfl
 | met,x::r=>by
   rw[numF]
   split<;>rw[List.length_cons,List.length_cons,numF_len]
theorem fstF_len:∀(o l:List Int),(fstF o l).length≤o.length+l.length
 | _,[]=>Nat.le_refl _
 | o,x::r=>by
   rw[fstF]
   split
   · have:=fstF_len o r;rw[List.length_cons];omega
   · have:=fstF_len (o++[x]) r;rw[len_snoc] at this;rw[List.length_cons];omega
theorem cntX_len:∀(xs l:List Int),(cntX xs l).length=xs.length
 | _,[]=>rfl
 | xs,w::r=>by rw[cntX,cntX_len,List.length_set]
theorem dueF_len (G:Gm) (a:Aq) (c:List Int):(dueF G a c).length≤c.length+G.ws.length:=by
 unfold dueF
 split
 · rw[numF_len];omega
 split
 · have:=whF_len2 (fun x=>!triedB G.ds x) c;omega
 split
 · have:=whF_len2 (fun x=>decide (x=a.wood)) c;omega
 split
 · have:=fstF_len [] c;rw[List.length_nil] at this;omega
 split
 · rw[cntX_len,List.length_replicate];omega
 · omega
def ir46:IFn:=
 ⟨49,[(6,none),(7,none)],(.seq (.ops [oo 6 (.mov (kI 0)),oo 7 (.mov (kB false))])
 (.seq (.ops [oo 12 (.mov 0),oo 13 (.len false 12),oo 8 (.mov 13)])
 (.seq (.ops [oo 14 (.mov 8),oo 9 (.mov (kI 0)),oo 10 (.mov 14)])
 (.seq (.blk 0 (.loop (.seq (.seq (.ops [oo 15 (.mov 9),oo 16 (.mov 10),oo 17 (.bin .lss 15 16)])
 (.cnd 17
 .skip
 (.exit 0)))
 (.blk 1 (.seq (.ops [oo 18 (.mov 9),oo 19 (.mov 10),oo 20 (.bin .add 18 19),oo 21 (.cvI .u64 20),oo 22 (.bin .shr 21 (.k (.int .u64 1))),oo 23 (.cvI .i64 22),oo 11 (.mov 23)])
 (.seq (.ops [oo 24 (.mov 2),oo 25 (.mov 0),oo 26 (.mov 11),oo 27 (.ixA 1 25 26),oo 28 (.ld 1 false 27),oo 29 (.mov 1),oo 30 (.callV 24 [28,29]),oo 31 (.bin .lss 30 (kI 0))])
 (.cnd 31
 (.ops [oo 32 (.mov 11),oo 33 (.bin .add 32 (kI 1)),oo 9 (.mov 33)])
 (.ops [oo 34 (.mov 11),oo 10 (.mov 34)]))))))))
 (.seq (.ops [oo 35 (.mov 9),oo 36 (.mov 9),oo 37 (.mov 8),oo 38 (.bin .lss 36 37),oo 39 (.mov 38),
 ⟨(some 40),(some (39,true)),(.mov 2)⟩,
 ⟨(some 41),(some (39,true)),(.mov 0)⟩,
 ⟨(some 42),(some (39,true)),(.mov 9)⟩,
 ⟨(some 43),(some (39,true)),(.ixA 1 41 42)⟩,
 ⟨(some 44),(some (39,true)),(.ld 1 false 43)⟩,
 ⟨(some 45),(some (39,true)),(.mov 1)⟩,
 ⟨(some 46),(some (39,true)),(.callV 40 [44,45])⟩,
 ⟨(some 47),(some (39,true)),(.bin .eql 46 (kI 0))⟩,oo 48 (.pick 39 47 (kB false)),oo 6 (.mov 35),oo 7 (.mov 48)])
 .ret)))))⟩
def hint46 (P:Program):Hint:={}
abbrev liC (L:List (List Int)):List AV:=L.map fun l=> .slc 1 (iR l) .non
section
variable {P:Program} {K:(Nat→AV)→Sig→Prop} {e:Nat→AV} {σ:Sig} {x:IOpd} {r:List IStep} {d:Nat}
theorem mid_nat {i j:Nat} (hi:i≤1000000) (hj:j≤1000000):(IntKind.u64.wrap ((i:Int)+(j:Int))).fdiv (2^min (Int.toNat 1) IntKind.u64.bits)=(((i+j)/2:Nat):Int):=by
 rw[wrap_u64_id _ (by omega) (by omega)]
 show ((i:Int)+(j:Int)).fdiv (2^1)=_
 rw[←Int.natCast_add,Int.fdiv_eq_ediv_of_nonneg _ (by decide)]
 omega
theorem w_shrH {a:Int} {m:Nat} (hx:x.ev e= .int .u64 a) (hm:a.fdiv (2^min (Int.toNat 1) IntKind.u64.bits)=(m:Int)) (hk:stepsW P r K (upd e d (.int .u64 (m:Int))) σ):stepsW P (⟨some d,none,.bin .shr x (.k (.int .u64 1))⟩::r) K e σ:=by
 refine w_val (p:=(0:Int)≤1) (v:= .int .u64 (m:Int)) ?_ (by decide) hk
 show binO .shr (x.ev e) (.int .u64 1)=_
 rw[hx,←hm];rfl
theorem w_ldLi {i g off q:Nat} {L:List (List Int)} {l:List Int} (hx:x.ev e= .ref i g off) (ho:off=q) (hσ:σ i=(g,.row (liC L))) (hq:q<L.length) (hl:L.getD q []=l) (hk:stepsW P r K (upd e d (.slc 1 (iR l) .non)) σ):stepsW P (⟨some d,none,.ld 1 false x⟩::r) K e σ:=
 w_ldAt hx hσ (by rw[ho,List.getElem?_map,List.getElem?_eq_getElem hq,←hl,List.getD_eq_getElem?_getD,List.getElem?_eq_getElem hq];rfl) rfl hk
end
theorem bsf_nil (x:List Int):Fn0 Tryz.prog 46 [.nsl,.slc 1 (iR x) .non,.clo (.func 47) [] []] (fun v=>v= .tup [.int .i64 0,.bool false]):=by
 refine RawC.walk (H:=hint46 Tryz.prog) ir46 Tryz.func46 rfl rfl rfl ?_
 unfold ir46
 repeat' (first
  | with_reducible refine Rd.p ?_
  | with_reducible (first|refine zL ?_|refine zS ?_|refine zV ?_|refine zC ?_)
  | refine aX ?_|with_reducible intro _
  | refine aP ?_ ?_)
 refine w_loopK [0,1,2,8] [] (fun _:Unit=>True) (fun _=>0) (fun _=>[(9,.int .i64 0),(10,.int .i64 0)]) (fun _=>[]) () trivial ⟨rfl,rfl,trivial⟩ trivial ?_
 rintro⟨⟩ _ e σ
 repeat' (first
  | with_reducible refine Rd.p ?_
  | with_reducible (first|refine zL ?_|refine zS ?_|refine zV ?_|refine zC ?_)
  | refine aX ?_|with_reducible intro _
  | refine aP ?_ ?_)
 all_goals first
  | (exfalso;omega)
  | rfl
theorem bsf_c (L:List (List Int)) (x:List Int) (p:Nat) (g:Nat) (hL:L.length≤1000000) (hp:p≤L.length) (hx:x.length<1000000) (hl:∀l∈L,l.length<1000000) (h:∀q:Nat,q<L.length→(lsI (L.getD q []) x<0↔q<p)):
  RawC Tryz.prog 46 [.msl 1000 g L.length 1,.slc 1 (iR x) .non,.clo (.func 47) [] []] (sg [(1000,(g,.row (liC L)))])
   (SR (fun (_:Unit) v=>v= .tup [.int .i64 p,.bool (decide (p<L.length∧L.getD p []=x))]) (fun _=>[(1000,(g,.row (liC L)))])):=by
 have hll:(liC L).length=L.length:=List.length_map _
 refine RawC.walk (H:=hint46 Tryz.prog) ir46 Tryz.func46 rfl rfl rfl ?_
 unfold ir46
 repeat' (first
  | with_reducible refine Rd.p ?_
  | with_reducible (first|refine zL ?_|refine zS ?_|refine zV ?_|refine zC ?_)
  | refine aX ?_|with_reducible intro _
  | refine aP ?_ ?_)
 refine w_loopK [0,1,2,8] [1000] (fun x:Nat×Nat=>x.1≤p∧p≤x.2∧x.2≤L.length) (fun x=>x.2-x.1) (fun x=>[(9,.int .i64 (x.1:Int)),(10,.int .i64 (x.2:Int))]) (fun _=>[]) (0,L.length) ⟨Nat.zero_le _,hp,Nat.le_refl _⟩ ⟨rfl,rfl,trivial⟩ trivial ?_
 rintro⟨i,j⟩ ⟨h1,h2,h3⟩ e σ
 dsimp only at h1 h2 h3 ⊢
 have hord:=fun q (hq:q<L.length)=>ordered_c (L.getD q []) x (hl _ (by rw[List.getD_eq_getElem?_getD,List.getElem?_eq_getElem hq];exact List.getElem_mem _)) hx
 by_cases hij:i=j
 · have:i=p:=by omega
   subst this
   by_cases hin:i<L.length
   · have ho:=hord i hin
     repeat' (first
      | with_reducible refine Rd.p ?_
      | (first|refine w_ldLi rfl (by omega) rfl hin rfl ?_)
      | with_reducible (first|refine zL ?_|refine zS ?_|refine zV ?_|refine zC ?_)
      | ((with_reducible refine aC ?_);first|(refine ACall.val ho rfl rfl ?_))
      | refine aX ?_|with_reducible intro _
      | refine aP ?_ ?_)
     all_goals first
      | (exfalso;omega)
      | (refine⟨(),congrArg (fun z=>AV.tup [AV.int .i64 (i:Int),AV.bool z]) ?_,aS⟩
         rw[Bool.eq_iff_iff];simp[hin,lsI_eq])
   · repeat' (first
      | with_reducible refine Rd.p ?_
      | with_reducible (first|refine zL ?_|refine zS ?_|refine zV ?_|refine zC ?_)
      | refine aX ?_|with_reducible intro _
      | refine aP ?_ ?_)
     all_goals first
      | (exfalso;omega)
      | (refine⟨(),congrArg (fun z=>AV.tup [AV.int .i64 (i:Int),AV.bool z]) ?_,aS⟩
         rw[Bool.eq_iff_iff];simp[hin])
 · have hmid:=mid_nat (i:=i) (j:=j) (by omega) (by omega)
   obtain⟨q,hq⟩:∃q,(i+j)/2=q:=⟨_,rfl⟩
   rw[hq] at hmid
   have hq1:i≤q∧q<j:=by omega
   have hqL:q<L.length:=by omega
   have ho:=hord q hqL
   have hqp:=h q hqL
   repeat' (first
    | with_reducible refine Rd.p ?_
    | (first|refine w_shrH rfl hmid ?_|refine w_ldLi rfl (by omega) rfl hqL rfl ?_)
    | with_reducible (first|refine zL ?_|refine zS ?_|refine zV ?_|refine zC ?_)
    | ((with_reducible refine aC ?_);first|(refine ACall.val ho rfl rfl ?_))
    | refine aX ?_|with_reducible intro _
    | refine aP ?_ ?_)
   all_goals first
    | (exfalso;omega)
    | exact q_loop (q+1,j) ⟨by dsimp only;omega,by dsimp only;omega,by dsimp only;omega⟩ (by show j-(q+1)<j-i;omega) ⟨rfl,rfl,trivial⟩ aS aK aK
    | exact q_loop (i,q) ⟨by dsimp only;omega,by dsimp only;omega,by dsimp only;omega⟩ (by show q-i<j-i;omega) ⟨rfl,rfl,trivial⟩ aS aK aK
def ir16:IFn:=
 ⟨77,[(4,none),(5,none),(6,none)],(.seq (.ops [oo 2 (.box 2 0),oo 3 (.box 2 1),oo 4 (.mov (.k .nsl)),oo 5 (.mov (.k .nsl)),oo 6 (.mov (kI 0))])
 (.seq (.seq (.ops [oo 16 (.ld 2 true 2),oo 17 (.callF 38 [16]),oo 7 (.mov 17)])
 (.seq (.ops [oo 18 (.mov 7),oo 19 (.bin .neq 18 (kI 0))])
 (.cnd 19
 (.seq (.ops [oo 20 (.mov 7),oo 4 (.mov (.k .nsl)),oo 5 (.mov (.k .nsl)),oo 6 (.mov 20)])
 .ret)
 .skip)))
 (.seq (.seq (.ops [oo 21 (.ld 2 true 2),oo 22 (.ld 2 true 3),oo 23 (.callF 39 [21,22]),oo 8 (.mov 23)])
 (.seq (.ops [oo 24 (.mov 8),oo 25 (.bin .neq 24 (kI 0))])
 (.cnd 25
 (.seq (.ops [oo 26 (.mov 8),oo 4 (.mov (.k .nsl)),oo 5 (.mov (.k .nsl)),oo 6 (.mov 26)])
 .ret)
 .skip)))
 (.seq (.ops [oo 28 (.ld 2 true 2),oo 29 (.callF 45 [28]),oo 27 (.mov 29),oo 30 (.ext 0 27),oo 31 (.ext 1 27),oo 32 (.ext 2 27),oo 9 (.mov 30),oo 10 (.mov 31),oo 6 (.mov 32)])
 (.seq (.seq (.ops [oo 33 (.mov 6),oo 34 (.bin .neq 33 (kI 0))])
 (.cnd 34
 (.seq (.ops [oo 35 (.mov 6),oo 4 (.mov (.k .nsl)),oo 5 (.mov (.k .nsl)),oo 6 (.mov 35)])
 .ret)
 .skip))
 (.seq (.seq (.ops [oo 36 (.mov 9),oo 37 (.len false 36),oo 38 (.mov (kI 0))])
 (.blk 0 (.loop (.seq (.ops [oo 39 (.bin .lss 38 37)])
 (.seq (.cnd 39
 .skip
 (.exit 0))
 (.seq (.blk 1 (.seq (.ops [oo 40 (.mov 38),oo 41 (.ixA 1 36 38),oo 42 (.ld 1 false 41),oo 11 (.mov 40),oo 12 (.mov 42)])
 (.seq (.ops [oo 43 (.ld 2 true 2),oo 44 (.ld 2 true 3),oo 45 (.mov 12),oo 46 (.callF 41 [43,44,45]),oo 13 (.mov 46)])
 (.seq (.ops [oo 48 (.mov 4),oo 49 (.mov 13),oo 50 (.callF 46 [48,49,(.k (.clo (.func 47) [] []))]),oo 47 (.mov 50),oo 51 (.ext 0 47),oo 52 (.ext 1 47),oo 14 (.mov 51),oo 15 (.mov 52)])
 (.seq (.seq (.ops [oo 53 (.mov 15),oo 54 (.not 53)])
 (.cnd 54
 (.ops [oo 55 (.mov 4),oo 56 (.mov 14),oo 57 (.mov 13),oo 58 (.bsm 1 [[.nsl]] [(0,57)]),oo 59 (.callF 48 [55,56,58]),oo 60 (.mov 5),oo 61 (.mov 14),oo 62 (.bsm 1 [[(.int .i64 0)]] [(0,(kI 0))]),oo 63 (.callF 49 [60,61,62]),oo 4 (.mov 59),oo 5 (.mov 63)])
 .skip))
 (.ops [oo 64 (.mov 5),oo 65 (.mov 14),oo 66 (.ixA 1 64 65),oo 67 (.ld 1 false 66),oo 68 (.mov 10),oo 69 (.mov 11),oo 70 (.ixA 1 68 69),oo 71 (.ld 1 false 70),oo 72 (.bin .add 67 71),oo 73 (.ixA 1 64 65),
 ⟨none,none,(.st 1 73 72)⟩]))))))
 (.ops [oo 74 (.bin .add 38 (kI 1)),oo 38 (.mov 74)])))))))
 (.seq (.seq (.frz 4)
 (.seq (.frz 5)
 (.ops [oo 75 (.mov 4),oo 76 (.mov 5),oo 4 (.mov 75),oo 5 (.mov 76),oo 6 (.mov (kI 0))])))
 .ret)))))))⟩
def hint16 (P:Program):Hint:={site:=[],nils:=[],frz:=[(75,4),(75,5)],mve:=[],wr:=[58,62] }
abbrev anF (L:List (List Int×Int)):List (List Int):=L.map fun z=>z.1
abbrev anS (L:List (List Int×Int)):List Int:=L.map fun z=>z.2
theorem all_liC (A:List (List Int)):(liC A).all AV.scal=true:=by
 rw[List.all_eq_true]
 intro x hx
 obtain⟨y,_,rfl⟩:=List.mem_map.1 hx
 rfl
theorem insA_c (A:List (List Int)) (x:List Int) (g h p n:Nat) (hn:A.length=n) (hp:p≤n) (hb:n≤1000000):RawC Tryz.prog 48 [.msl 1000 g n 1,.int .i64 p,.msl 1001 h 1 1] (sg [(1000,(g,.row (liC A))),(1001,(h,.row [.slc 1 (iR x) .non]))])
  (SR (fun (g':Nat) v=>v= .msl 1000 g' (n+1) 1) (fun g'=>[(1000,(g',.row (liC (A.take p++x::A.drop p)))),(1001,(h,.row [.slc 1 (iR x) .non]))])):=by
 subst hn
 have e1:(liC A).length=A.length:=List.length_map _
 have:=insM insL_f (x:= .slc 1 (iR x) .non) rfl (all_liC A) g h p (by omega) (by omega)
 have e2:layL (liC A) p (.slc 1 (iR x) .non)=liC (A.take p++x::A.drop p):=by
  show List.take p (List.map _ _)++_::List.drop p (List.map _ _)=List.map _ (_++_::_)
  rw[List.map_append,List.map_take,List.map_cons,List.map_drop]
 rw[e1,e2] at this
 exact this
theorem insV_c (V:List Int) (x:Int) (g h p n:Nat) (hn:V.length=n) (hp:p≤n) (hb:n≤1000000):RawC Tryz.prog 49 [.msl 1000 g n 1,.int .i64 p,.msl 1001 h 1 1] (sg [(1000,(g,.row (V.map (AV.int .i64)))),(1001,(h,.row [.int .i64 x]))])
  (SR (fun (g':Nat) v=>v= .msl 1000 g' (n+1) 1) (fun g'=>[(1000,(g',.row ((V.take p++x::V.drop p).map (AV.int .i64)))),(1001,(h,.row [.int .i64 x]))])):=by
 subst hn
 have e1:(V.map (AV.int .i64)).length=V.length:=List.length_map _
 have:=insM insI_f (x:= .int .i64 x) rfl (nI_scal V) g h p (by show p≤(V.map (AV.int .i64)).length;omega) (by show (V.map (AV.int .i64)).length≤_;omega)
 have e2:layL (V.map (AV.int .i64)) p (.int .i64 x)=(V.take p++x::V.drop p).map (AV.int .i64):=by
  show List.take p (List.map _ _)++_::List.drop p (List.map _ _)=List.map _ (_++_::_)
  rw[List.map_append,List.map_take,List.map_cons,List.map_drop]
 rw[show (nI V).length=V.length from e1,show layL (nI V) p (.int .i64 x)=_ from e2] at this
 exact this
theorem chunkLi:∀(A:List (List Int)),chunk 1 A.length (normL (liC A))=llR A
 | []=>rfl
 | x::A=>by
   have:=chunkLi A
   simp only[List.length_cons,List.map_cons,normL,chunk,List.map_cons]
   simp only[normL] at this
   rw[show List.drop 1 (AV.norm (AV.slc 1 (iR x) .non)::List.map AV.norm (liC A))=List.map AV.norm (liC A) from rfl,this]
   rfl
theorem w_frzLi {P:Program} {Q:Post} {e:Nat→AV} {σ:Sig} {t i g n:Nat} {A:List (List Int)} (F:List (Nat×AV)) (S:List (Nat×(Nat×Res))) (hx:e t= .msl i g n 1) (hσ:σ i=(g,.row (liC A))) (hn:A.length=n)
  (hF:slots F (frzE i g (liC A) e)) (hS:slots S (frzS i g (liC A) σ)) (hk:∀e' σ',Q .nor (updL F e') (updL S σ')):awp P (.frz (.t t)) Q e σ:=by
 show frzW (e t) e σ (Q .nor)
 rw[hx]
 show (match σ i with|(g',.row c)=>g=g'∧c.all AV.scal=true∧Q .nor (frzE i g c e) (frzS i g c σ) | _=>False)
 rw[hσ]
 refine⟨rfl,all_liC A,?_⟩
 have:=hk (frzE i g (liC A) e) (frzS i g (liC A) σ)
 rw[updL_slots hF,updL_slots hS] at this
 exact this
theorem frzL_nI (i g:Nat) (c:List AV):∀V:List Int,frzL i g c (V.map (AV.int .i64))=V.map (AV.int .i64)
 | []=>rfl
 | v::V=>by
   show frzA i g c (AV.int .i64 v)::frzL i g c (V.map (AV.int .i64))=_
   rw[frzL_nI i g c V];rfl
theorem renL_liC (ρ:List (Nat×Nat)):∀A:List (List Int),renL ρ (liC A)=liC A
 | []=>rfl
 | x::A=>by
   show ren ρ (AV.slc 1 (iR x) .non)::renL ρ (liC A)=_
   rw[renL_liC ρ A];rfl
theorem upd_id {σ:Sig} {t:Nat} {x:Nat×Res} (h:σ t=x):upd σ t x=σ:=by
 funext j;rw[upd_eq];split
 · rename_i hj;subst hj;exact h.symm
 · rfl
theorem ACall.look {P:Program} {f:Nat} {args0 args:List AV} {c:List AV} {g s d:Nat} {V V':AV} {σ:Sig} {Q:AV→Sig→Prop}
  (h:RawC P f args0 (sg [(1000,(g,.row c))]) (SR (fun (_:Unit) v=>v=V) (fun _=>[(1000,(g,.row c))]))) (hr:renOK [(1000,s)]=true) (ha:args0=renL (flipL [(1000,s)]) args) (hs:σ s=(g,.row c)) (hc:∀ρ,renL ρ c=c) (hV:ren [(1000,s)] V=V') (hQ:Q V' σ):ACall P f args σ d Q:=by
 refine ACall.liftS h [(1000,s)] none hr ha ?_ ⟨⟨c,by rw[hs]⟩,trivial⟩ (fun _=>rfl) ?_
 · show _=[(1000,((σ s).1,renR (flipL [(1000,s)]) (σ s).2))]
   rw[hs]
   simp only[renR,hc]
 · intro _ av hav
   rw[hav]
   show Q (ren [(1000,s)] V) (upd σ s (g,.row (renL [(1000,s)] c)))
   rw[hc,upd_id hs,hV]
   exact hQ
theorem ACall.two {P:Program} {f:Nat} {args0 args:List AV} {c c' c2:List AV} {g h0 s t d n':Nat} {σ:Sig} {Q:AV→Sig→Prop}
  (h:RawC P f args0 (sg [(1000,(g,.row c)),(1001,(h0,.row c2))]) (SR (fun (g':Nat) v=>v= .msl 1000 g' n' 1) (fun g'=>[(1000,(g',.row c')),(1001,(h0,.row c2))])))
  (hr:renOK [(1000,s),(1001,t)]=true) (ha:args0=renL (flipL [(1000,s),(1001,t)]) args) (hs:σ s=(g,.row c)) (ht:σ t=(h0,.row c2)) (hc:∀ρ,renL ρ c=c) (hc2:∀ρ,renL ρ c2=c2) (hc':∀ρ,renL ρ c'=c')
  (hQ:∀g',Q (.msl s g' n' 1) (upd σ s (g',.row c'))):ACall P f args σ d Q:=by
 refine ACall.liftS h [(1000,s),(1001,t)] none hr ha ?_ ⟨⟨c,by rw[hs]⟩,⟨c2,by rw[ht]⟩,trivial⟩ (fun _=>rfl) ?_
 · show _=[(1000,((σ s).1,renR (flipL [(1000,s),(1001,t)]) (σ s).2)),(1001,((σ t).1,renR (flipL [(1000,s),(1001,t)]) (σ t).2))]
   rw[hs,ht]
   simp only[renR,hc,hc2]
 · rintro g' _ rfl
   show Q (.msl s g' n' 1) (upd (upd σ t (h0,.row (renL [(1000,s),(1001,t)] c2))) s (g',.row (renL [(1000,s),(1001,t)] c')))
   rw[hc2,hc',upd_id ht]
   exact hQ g'
def ansV (s:Nat) (L:List (List Int×Int)) (g:Nat):AV:=match L with
 | []=> .nsl
 | _::_=> .msl s g L.length 1
def ansX (L:List (List Int×Int)) (g:Nat):Nat×Res:=match L with
 | []=>(0,.dead)
 | _::_=>(g,.row (liC (L.map (·.1))))
def ansY (L:List (List Int×Int)) (g:Nat):Nat×Res:=match L with
 | []=>(0,.dead)
 | _::_=>(g,.row ((L.map (·.2)).map (AV.int .i64)))
theorem ansV_of {s g:Nat}:∀{L:List (List Int×Int)},L≠[]→ansV s L g= .msl s g L.length 1
 | [],h=>absurd rfl h
 | _::_,_=>rfl
theorem ansX_of {g:Nat}:∀{L:List (List Int×Int)},L≠[]→ansX L g=(g,.row (liC (L.map (·.1))))
 | [],h=>absurd rfl h
 | _::_,_=>rfl
theorem ansY_of {g:Nat}:∀{L:List (List Int×Int)},L≠[]→ansY L g=(g,.row ((L.map (·.2)).map (AV.int .i64)))
 | [],h=>absurd rfl h
 | _::_,_=>rfl
theorem w_ldV {P:Program} {K:(Nat→AV)→Sig→Prop} {e:Nat→AV} {σ:Sig} {x:IOpd} {r:List IStep} {d i g off p:Nat} {B:List Int} {v:Int} (hx:x.ev e= .ref i g off) (ho:off=p) (hσ:σ i=(g,.row (nI B))) (hp:p<B.length) (hv:B.getD p 0=v) (hk:stepsW P r K (upd e d (.int .i64 v)) σ):stepsW P (⟨some d,none,.ld 1 false x⟩::r) K e σ:=by
 subst hv
 exact w_ldEl hx ho hσ hp hk
end Go.Abs
