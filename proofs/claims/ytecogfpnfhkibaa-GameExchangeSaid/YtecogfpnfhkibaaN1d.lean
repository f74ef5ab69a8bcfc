/- A part of the proofs of the laws of this seat: contracts of the functions that they reach, each proved of the program's form in Lean. No condition beyond those that each contract names. -/
import Derived.Test.YtecogfpnfhkibaaProg
import Derived.Test.YtecogfpnfhkibaaSnd3
import Derived.Test.YtecogfpnfhkibaaA0
import Derived.Test.YtecogfpnfhkibaaN1a
import Derived.Test.YtecogfpnfhkibaaN1b
import Derived.Test.YtecogfpnfhkibaaN1c
set_option linter.unusedVariables false
set_option linter.unusedSimpArgs false
set_option maxRecDepth 20000
set_option maxHeartbeats 4000000
namespace Go.Abs
open Go.Proofs
theorem gnamed_c (s:ByteArray) (hs:s.size≤1000):Fn0 Try.prog 49 [.str s] (fun v=>v= .bool (namedB s)):=by
 have hin:=gin_c s.size 1 8
 refine RawC.walk (H:=hint49 Try.prog) ir49 Try.func49 rfl rfl rfl ?_
 unfold ir49
 repeat' (first
  | with_reducible (first | refine Rd.p ?_ | refine w_alt ?_ ?_ | refine zE ?_ | refine zE0 ?_)
  | with_reducible (first | refine zI fun y hy=>?_ | refine zL ?_ | refine zS ?_ | refine zA fun _=>?_ | refine zV ?_ | refine zC ?_ | refine zG ?_ | refine zU ?_ | refine zG0 ?_ | refine zU0 ?_ | refine zF ?_)
  | with_reducible (first | refine zX ?_ | refine zD fun _=>?_ | refine zD0 ?_ | refine zN ?_ | refine zF0 ?_ | refine zX0 ?_ | refine z1 ?_ | refine z2 ?_ | refine z3 ?_ | refine z4 ?_ | refine z5 ?_ | refine z6 ?_ | refine z7 ?_ | refine z8 ?_ | refine y1 ?_ | refine y2 ?_ | refine y3 ?_ | refine y4 ?_ | refine y5 ?_ | refine y6 ?_ | refine y7 ?_ | refine y8 ?_ | refine Rt.p (fun _=>?_) fun _=>?_)
  | ((with_reducible apply w_ixM);(focus exact rfl);(focus exact rfl);case' hk=>intro y hy) | ((with_reducible (first | apply w_val | apply q_ends));(focus exact rfl)))
 have hsz:s.data.toList.length=s.size:=by simp
 refine w_loopK [0,6,7] [] (fun x:List UInt8×List UInt8=>s.data.toList=x.1++x.2∧x.1.all letB=true) (fun x=>x.2.length) (fun x=>[(8,.int .i64 x.1.length)]) (fun _=>[]) ([],s.data.toList) ⟨rfl,rfl⟩ ⟨rfl,trivial⟩ trivial ?_
 rintro⟨pre,post⟩ ⟨hl,hb⟩ e σ
 dsimp only at hl hb ⊢
 have hlen:=congrArg List.length hl
 cases post with
 | nil=>
   simp only[List.append_nil,List.length_append,List.length_nil] at hlen
   repeat' (first
    | with_reducible (first | refine Rd.p ?_ | refine w_alt ?_ ?_ | refine zE ?_ | refine zE0 ?_)
    | with_reducible (first | refine zI fun y hy=>?_ | refine zL ?_ | refine zS ?_ | refine zA fun _=>?_ | refine zV ?_ | refine zC ?_ | refine zG ?_ | refine zU ?_ | refine zG0 ?_ | refine zU0 ?_ | refine zF ?_)
    | ((with_reducible refine acall_id ?_);refine ACall.val hin rfl rfl ?_)
    | with_reducible (first | refine zX ?_ | refine zD fun _=>?_ | refine zD0 ?_ | refine zN ?_ | refine zF0 ?_ | refine zX0 ?_ | refine z1 ?_ | refine z2 ?_ | refine z3 ?_ | refine z4 ?_ | refine z5 ?_ | refine z6 ?_ | refine z7 ?_ | refine z8 ?_ | refine y1 ?_ | refine y2 ?_ | refine y3 ?_ | refine y4 ?_ | refine y5 ?_ | refine y6 ?_ | refine y7 ?_ | refine y8 ?_ | refine Rt.p (fun _=>?_) fun _=>?_)
    | ((with_reducible apply w_ixM);(focus exact rfl);(focus exact rfl);case' hk=>intro y hy) | ((with_reducible (first | apply w_val | apply q_ends));(focus exact rfl)))
   all_goals first
    | (exfalso;simp at*;omega)
    | (refine congrArg AV.bool ?_;unfold namedB;rw[hl,List.append_nil,hb];simp)
 | cons c post=>
   simp only[List.length_append,List.length_cons] at hlen
   have hn:letB c=decide (97≤(c.toNat:Int)∧(c.toNat:Int)≤122):=rfl
   have hbad:letB c=false→namedB s=false:=fun h=>by unfold namedB;rw[hl];simp[h]
   repeat' (first
    | with_reducible (first | refine Rd.p ?_ | refine w_alt ?_ ?_ | refine zE ?_ | refine zE0 ?_)
    | (refine w_ixP (f:=fun b:UInt8=>[AV.int .u8 (b.toNat:Int)]) hl rfl rfl ?_)
    | with_reducible (first | refine zI fun y hy=>?_ | refine zL ?_ | refine zS ?_ | refine zA fun _=>?_ | refine zV ?_ | refine zC ?_ | refine zG ?_ | refine zU ?_ | refine zG0 ?_ | refine zU0 ?_ | refine zF ?_)
    | with_reducible (first | refine zX ?_ | refine zD fun _=>?_ | refine zD0 ?_ | refine zN ?_ | refine zF0 ?_ | refine zX0 ?_ | refine z1 ?_ | refine z2 ?_ | refine z3 ?_ | refine z4 ?_ | refine z5 ?_ | refine z6 ?_ | refine z7 ?_ | refine z8 ?_ | refine y1 ?_ | refine y2 ?_ | refine y3 ?_ | refine y4 ?_ | refine y5 ?_ | refine y6 ?_ | refine y7 ?_ | refine y8 ?_ | refine Rt.p (fun _=>?_) fun _=>?_)
    | ((with_reducible apply w_ixM);(focus exact rfl);(focus exact rfl);case' hk=>intro y hy) | ((with_reducible (first | apply w_val | apply q_ends));(focus exact rfl)))
   · exact congrArg AV.bool (hbad (by rw[hn];simp;omega)).symm
   · exact congrArg AV.bool (hbad (by rw[hn];simp;omega)).symm
   · exact q_loop (pre++[c],post) ⟨by show s.data.toList=_;rw[hl];simp,by show (pre++[c]).all letB=true;rw[List.all_append,hb];simp[hn];omega⟩ (by simp) (slots_cons (by show AV.int .i64 _=AV.int .i64 _;refine int_eq ?_;simp) slots_nil) trivial (by repeat' (first | exact kept_nil | apply kept_cons | rfl)) (by repeat' (first | exact kept_nil | apply kept_cons | rfl))
theorem formed_c (d:Dl) (hk:inB d.kind 1 6=true):Fn0 Try.prog 52 [dlA d] (fun v=>v= .bool (formD d)):=by
 obtain⟨k1,k2⟩:=inB_ex hk
 obtain⟨kind,bag,other,wood,count⟩:=d
 dsimp only at k1 k2
 have hc:kind=1∨kind=2∨kind=3∨kind=4∨kind=5∨kind=6:=by omega
 clear hk k1 k2
 rcases hc with rfl | rfl | rfl | rfl | rfl | rfl
 all_goals
  refine RawC.walk (H:=hint52 Try.prog) ir52 Try.func52 rfl (by kernel_rfl) rfl ?_
  unfold ir52
  repeat' (first
   | with_reducible (first | refine Rd.p ?_ | refine w_alt ?_ ?_ | refine zE ?_ | refine zE0 ?_)
   | with_reducible (first | refine zI fun y hy=>?_ | refine zL ?_ | refine zS ?_ | refine zA fun _=>?_ | refine zV ?_ | refine zC ?_ | refine zG ?_ | refine zU ?_ | refine zG0 ?_ | refine zU0 ?_ | refine zF ?_)
   | with_reducible (first | refine zX ?_ | refine zD fun _=>?_ | refine zD0 ?_ | refine zN ?_ | refine zF0 ?_ | refine zX0 ?_ | refine z1 ?_ | refine z2 ?_ | refine z3 ?_ | refine z4 ?_ | refine z5 ?_ | refine z6 ?_ | refine z7 ?_ | refine z8 ?_ | refine y1 ?_ | refine y2 ?_ | refine y3 ?_ | refine y4 ?_ | refine y5 ?_ | refine y6 ?_ | refine y7 ?_ | refine y8 ?_ | refine Rt.p (fun _=>?_) fun _=>?_)
   | ((with_reducible apply w_ixM);(focus exact rfl);(focus exact rfl);case' hk=>intro y hy) | ((with_reducible (first | apply w_val | apply q_ends));(focus exact rfl)))
 all_goals first
  | (exfalso;simp at*;done)
  | (refine congrArg AV.bool ?_;simp[formD];done)
  | (refine congrArg AV.bool ?_;simp[formD,Bool.and_assoc];done)
theorem checks_c:RawC Try.prog 51 [] (sg []) (SR (fun (x:Nat) v=>v= .map 1 x) (fun x=>[(1,(x,.row [.mpv ([1,2,3,4,5,6].map (AV.int .i64)) [.clo (.func 80) [] [],.clo (.func 81) [] [],.clo (.func 82) [] [],.clo (.func 83) [] [],.clo (.func 84) [] [],.clo (.func 85) [] []]]))])):=by
 refine RawC.walk (H:=hint51 Try.prog) ir51 Try.func51 rfl rfl rfl ?_
 unfold ir51
 repeat' (first
  | with_reducible (first | refine Rd.p ?_ | refine w_alt ?_ ?_ | refine zO ?_ | refine zE0 ?_)
  | with_reducible (first | refine zI fun y hy=>?_ | refine zL ?_ | refine zS ?_ | refine zA fun _=>?_ | refine zV ?_ | refine zC ?_ | refine zG ?_ | refine zU ?_ | refine zG0 ?_ | refine zU0 ?_ | refine zF ?_)
  | with_reducible (first | refine zX ?_ | refine zD fun _=>?_ | refine zD0 ?_ | refine zN ?_ | refine zF0 ?_ | refine zX0 ?_ | refine z1 ?_ | refine z2 ?_ | refine z3 ?_ | refine z4 ?_ | refine z5 ?_ | refine z6 ?_ | refine z7 ?_ | refine z8 ?_ | refine y1 ?_ | refine y2 ?_ | refine y3 ?_ | refine y4 ?_ | refine y5 ?_ | refine y6 ?_ | refine y7 ?_ | refine y8 ?_ | refine Rt.p (fun _=>?_) fun _=>?_)
  | ((with_reducible apply w_ixM);(focus exact rfl);(focus exact rfl);case' hk=>intro y hy) | ((with_reducible (first | apply w_val | apply q_ends));(focus exact rfl)))
 exact⟨_,rfl,rfl,trivial⟩
def ir18:IFn:=
 ⟨100,[(2,none)],(.seq (.ops [oo 1 (.box 2 0),
 oo 2 (.mov (kI 0))])
 (.seq (.blk 0 (.seq (.ops [oo 15 (.flA 0 1),
 oo 16 (.ld 1 false 15),
 oo 17 (.len false 16),
 oo 18 (.bin .eql 17 (kI 0)),
 oo 14 (.mov 18)])
 (.cnd 14
 (.seq (.ops [oo 2 (.mov (kI 6))])
 .ret)
 (.seq (.ops [oo 20 (.flA 0 1),
 oo 21 (.ld 1 false 20),
 oo 22 (.len false 21),
 oo 23 (.bin .gtr 22 (kI 6)),
 oo 19 (.mov 23)])
 (.cnd 19
 (.seq (.ops [oo 2 (.mov (kI 8))])
 .ret)
 .skip)))))
 (.seq (.seq (.ops [oo 24 (.flA 0 1),
 oo 25 (.ld 1 false 24),
 oo 26 (.len false 25),
 oo 27 (.mov (kI 0))])
 (.blk 1 (.loop (.seq (.ops [oo 28 (.bin .lss 27 26)])
 (.seq (.cnd 28
 .skip
 (.exit 1))
 (.seq (.blk 2 (.seq (.ops [oo 29 (.mov 27),
 oo 30 (.ixA 2 25 27),
 oo 31 (.ld 2 true 30),
 oo 4 (.new [(.str ByteArray.empty),(.int .i64 0)]),
 oo 3 (.mov 29),
 ⟨none,none,(.st 2 4 31)⟩])
 (.seq (.seq (.ops [oo 32 (.flA 0 4),
 oo 33 (.ld 1 false 32),
 oo 34 (.callF 49 [33]),
 oo 35 (.not 34)])
 (.cnd 35
 (.seq (.ops [oo 2 (.mov (kI 3))])
 .ret)
 .skip))
 (.seq (.seq (.ops [oo 36 (.flA 0 1),
 oo 37 (.ld 1 false 36),
 oo 38 (.mov 3),
 oo 39 (.slS 2 37 none (some 38) none),
 oo 40 (.len false 39),
 oo 41 (.mov (kI 0))])
 (.blk 3 (.loop (.seq (.ops [oo 42 (.bin .lss 41 40)])
 (.seq (.cnd 42
 .skip
 (.exit 3))
 (.seq (.blk 4 (.seq (.ops [oo 43 (.ixA 2 39 41),
 oo 44 (.ld 2 true 43),
 oo 6 (.new [(.str ByteArray.empty),(.int .i64 0)]),
 ⟨none,none,(.st 2 6 44)⟩])
 (.seq (.ops [oo 45 (.flA 0 6),
 oo 46 (.ld 1 false 45),
 oo 47 (.flA 0 4),
 oo 48 (.ld 1 false 47),
 oo 49 (.bin .eql 46 48)])
 (.cnd 49
 (.seq (.ops [oo 2 (.mov (kI 9))])
 .ret)
 .skip))))
 (.ops [oo 50 (.bin .add 41 (kI 1)),
 oo 41 (.mov 50)])))))))
 (.seq (.ops [oo 51 (.flA 1 4),
 oo 52 (.ld 1 false 51),
 oo 53 (.callF 50 [52,(kI 0),(kI 9)]),
 oo 54 (.not 53)])
 (.cnd 54
 (.seq (.ops [oo 2 (.mov (kI 2))])
 .ret)
 .skip))))))
 (.ops [oo 55 (.bin .add 27 (kI 1)),
 oo 27 (.mov 55)])))))))
 (.seq (.seq (.ops [oo 56 (.flA 1 1),
 oo 57 (.ld 1 false 56),
 oo 58 (.len false 57),
 oo 59 (.bin .gtr 58 (kI 24))])
 (.cnd 59
 (.seq (.ops [oo 2 (.mov (kI 8))])
 .ret)
 .skip))
 (.seq (.seq (.ops [⟨none,none,(.kil 64)⟩])
 (.seq (.ops [oo 60 (.flA 0 1),
 oo 61 (.ld 1 false 60),
 oo 62 (.len false 61),
 oo 63 (.bld [(.int .i64 0),(.int .i64 0),(.int .i64 0),(.bool false),(.bool false),(.bool false),(.bool false),(.bool false),(.bool false),(.int .i64 0),(.int .i64 0),(.int .i64 0),(.int .i64 0)] [(0,1,62)])])
 (.alt (.ops [oo 65 (.callF 51 []),
 ⟨none,none,(.chk 1 false 60 61)⟩,
 oo 64 (.box 13 63),
 oo 7 (.mov 64),
 oo 8 (.mov 65)])
 (.ops [oo 64 (.box 13 63),
 oo 65 (.callF 51 []),
 ⟨none,none,(.chk 1 false 60 61)⟩,
 oo 7 (.mov 64),
 oo 8 (.mov 65)]))))
 (.seq (.seq (.ops [oo 66 (.flA 1 1),
 oo 67 (.ld 1 false 66),
 oo 68 (.len false 67),
 oo 69 (.mov (kI 0))])
 (.blk 5 (.loop (.seq (.ops [oo 70 (.bin .lss 69 68)])
 (.seq (.cnd 70
 .skip
 (.exit 5))
 (.seq (.blk 6 (.seq (.ops [oo 71 (.ixA 5 67 69),
 oo 72 (.ld 5 true 71),
 oo 10 (.new [(.int .i64 0),(.int .i64 0),(.int .i64 0),(.int .i64 0),(.int .i64 0)]),
 ⟨none,none,(.st 5 10 72)⟩])
 (.seq (.ops [oo 74 (.mov 8),
 oo 75 (.flA 0 10),
 oo 76 (.ld 1 false 75),
 oo 77 (.mlk .i .nfn true 74 76),
 oo 73 (.mov 77),
 oo 78 (.ext 0 73),
 oo 79 (.ext 1 73),
 oo 11 (.mov 78),
 oo 12 (.mov 79)])
 (.seq (.blk 7 (.seq (.ops [oo 81 (.mov 12),
 oo 82 (.not 81),
 oo 80 (.mov 82)])
 (.cnd 80
 (.seq (.ops [oo 2 (.mov (kI 4))])
 .ret)
 (.seq (.ops [oo 84 (.ld 5 true 10),
 oo 85 (.callF 52 [84]),
 oo 86 (.not 85),
 oo 83 (.mov 86)])
 (.cnd 83
 (.seq (.ops [oo 2 (.mov (kI 3))])
 .ret)
 .skip)))))
 (.seq (.ops [oo 87 (.mov 11),
 oo 88 (.mov 7),
 oo 89 (.ld 5 true 10),
 oo 90 (.callV 87 [88,89]),
 oo 13 (.mov 90)])
 (.seq (.ops [oo 91 (.mov 13),
 oo 92 (.bin .neq 91 (kI 0))])
 (.cnd 92
 (.seq (.ops [oo 93 (.mov 13),
 oo 2 (.mov 93)])
 .ret)
 .skip)))))))
 (.ops [oo 94 (.bin .add 69 (kI 1)),
 oo 69 (.mov 94)])))))))
 (.seq (.seq (.ops [oo 95 (.mov 7),
 oo 96 (.nck 95),
 oo 97 (.flA 2 96),
 oo 98 (.ld 1 false 97),
 oo 99 (.bin .eql 98 (kI 0))])
 (.cnd 99
 (.seq (.ops [oo 2 (.mov (kI 6))])
 .ret)
 .skip))
 (.seq (.ops [oo 2 (.mov (kI 0))])
 .ret))))))))⟩
def hint18 (P:Program):Hint:={}
def fnK (k:Int):Nat:=if k=1 then 80 else if k=2 then 81 else if k=3 then 82 else if k=4 then 83 else if k=5 then 84 else 85
def ckVs:List AV:=[.clo (.func 80) [] [],.clo (.func 81) [] [],.clo (.func 82) [] [],.clo (.func 83) [] [],.clo (.func 84) [] [],.clo (.func 85) [] []]
def ckKs:List Int:=[1,2,3,4,5,6]
section
variable {P:Program} {K:(Nat→AV)→Sig→Prop} {e:Nat→AV} {σ:Sig} {m k:IOpd} {r:List IStep} {d i h:Nat} {a:Int}
theorem w_mlkT (hm:m.ev e= .map i h) (hσ:σ i=(h,.row [.mpv (ckKs.map (AV.int .i64)) ckVs])) (hk:k.ev e= .int .i64 a) (ha:inB a 1 6=true)
  (hK:stepsW P r K (upd e d (.tup [.clo (.func (fnK a)) [] [],.bool true])) σ):stepsW P (⟨some d,none,.mlk .i .nfn true m k⟩::r) K e σ:=by
 refine w_det (p:=h=h) (v:=fun _=> .tup [.clo (.func (fnK a)) [] [],.bool true]) (σ':=fun _=>σ) (fun _=>?_) rfl fun _=>hK
 show mlkO .i .nfn true σ (k.ev e) (m.ev e)=_
 rw[hm,hk]
 simp only[mlkO,mapR,hσ,findI]
 obtain⟨a1,a2⟩:=inB_ex ha
 have hc:a=1∨a=2∨a=3∨a=4∨a=5∨a=6:=by omega
 rcases hc with rfl | rfl | rfl | rfl | rfl | rfl<;>rfl
theorem w_mlkN (hm:m.ev e= .map i h) (hσ:σ i=(h,.row [.mpv (ckKs.map (AV.int .i64)) ckVs])) (hk:k.ev e= .int .i64 a) (ha:inB a 1 6=false)
  (hK:stepsW P r K (upd e d (.tup [.nfn,.bool false])) σ):stepsW P (⟨some d,none,.mlk .i .nfn true m k⟩::r) K e σ:=by
 refine w_det (p:=h=h) (v:=fun _=> .tup [.nfn,.bool false]) (σ':=fun _=>σ) (fun _=>?_) rfl fun _=>hK
 show mlkO .i .nfn true σ (k.ev e) (m.ev e)=_
 rw[hm,hk]
 simp only[mlkO,mapR,hσ,findI]
 have hc:=inB_f.1 ha
 rw[if_neg (by unfold ckKs;simp;omega)]
 rfl
end
theorem deal_c (g n:Nat) (d:Dl) (t:Tb) (hn:n≤6) (h:tbOK t) (hk:inB d.kind 1 6=true):RawC Try.prog (fnK d.kind) [.ref 1000 g 0,dlA d] (sg (ckS g n t)) (SR (fun t' v=>v= .int .i64 (dealE n d t)∧(dealE n d t=0→dealT d t=t')) (ckS g n)):=by
 obtain⟨k1,k2⟩:=inB_ex hk
 unfold fnK dealE dealT
 by_cases e1:d.kind=1
 · simp only[if_pos e1];exact cktrial_c g n d t hn h
 simp only[if_neg e1]
 by_cases e2:d.kind=2
 · simp only[if_pos e2];exact ckmix_c g n d t hn h
 simp only[if_neg e2]
 by_cases e3:d.kind=3
 · simp only[if_pos e3];exact ckpour_c g n d t hn h
 simp only[if_neg e3]
 by_cases e4:d.kind=4
 · simp only[if_pos e4];exact ckaside_c g n d t hn h
 simp only[if_neg e4]
 by_cases e5:d.kind=5
 · simp only[if_pos e5];exact ckpass_c g n d t hn h
 simp only[if_neg e5]
 exact ckplace_c g n d t hn h
theorem w_slPre {P:Program} {K:(Nat→AV)→Sig→Prop} {e:Nat→AV} {σ:Sig} {α:Type} {f:α→List AV} {l pre post:List α} {d sz:Nat} {t:Tag} {x y:IOpd} {r:List IStep} (hl:l=pre++post) (hx:x.ev e= .slc sz (l.map f) t) (hy:y.ev e= .int .i64 (pre.length:Int))
  (hk:stepsW P r K (upd e d (.slc sz (pre.map f) .non)) σ):stepsW P (⟨some d,none,.slS sz x none (some y) none⟩::r) K e σ:=by
 refine w_slM (a:=0) (b:=(pre.length:Int)) hx rfl (by show (match y.ev e with | .int _ i=>some i | _=>none)=_;rw[hy]) ⟨Int.le_refl _,by omega,by rw[hl,List.length_append];omega⟩ ?_
 have e1:(l.drop (0:Int).toNat).take ((pre.length:Int)-0).toNat=pre:=by
  rw[hl];simp
 rw[e1];exact hk
theorem gCheck_c (G:Gm) (hw:G.ws.length<1000) (hd:G.ds.length<1000) (hs:∀w∈G.ws,w.name.size≤1000):Fn0 Try.prog 18 [gmA G] (fun v=>v= .int .i64 (gmErr G)):=by
 obtain⟨B,hB⟩:∃B,gmErr G=B:=⟨_,rfl⟩
 rw[hB]
 unfold gmErr at hB
 by_cases h0:G.ws=[]
 · rw[if_pos h0] at hB
   subst hB
   have hl:G.ws.length=0:=by rw[h0];rfl
   refine RawC.walk (H:=hint18 Try.prog) ir18 Try.func18 rfl rfl rfl ?_
   unfold ir18
   repeat' (first
    | with_reducible (first | refine Rd.p ?_ | refine w_alt ?_ ?_ | refine zE ?_ | refine zE0 ?_)
    | with_reducible (first | refine zI fun y hy=>?_ | refine zL ?_ | refine zS ?_ | refine zA fun _=>?_ | refine zV ?_ | refine zC ?_ | refine zG ?_ | refine zU ?_ | refine zG0 ?_ | refine zU0 ?_ | refine zF ?_)
    | with_reducible (first | refine zX ?_ | refine zD fun _=>?_ | refine zD0 ?_ | refine zN ?_ | refine zF0 ?_ | refine zX0 ?_ | refine z1 ?_ | refine z2 ?_ | refine z3 ?_ | refine z4 ?_ | refine z5 ?_ | refine z6 ?_ | refine z7 ?_ | refine z8 ?_ | refine y1 ?_ | refine y2 ?_ | refine y3 ?_ | refine y4 ?_ | refine y5 ?_ | refine y6 ?_ | refine y7 ?_ | refine y8 ?_ | refine Rt.p (fun _=>?_) fun _=>?_)
    | ((with_reducible apply w_ixM);(focus exact rfl);(focus exact rfl);case' hk=>intro y hy) | ((with_reducible (first | apply w_val | apply q_ends));(focus exact rfl)))
   all_goals first
    | (exfalso;omega)
    | rfl
 rw[if_neg h0] at hB
 have hl0:G.ws.length≠0:=fun h=>h0 (List.eq_nil_of_length_eq_zero h)
 by_cases h6:6<G.ws.length
 · rw[if_pos h6] at hB
   subst hB
   refine RawC.walk (H:=hint18 Try.prog) ir18 Try.func18 rfl rfl rfl ?_
   unfold ir18
   repeat' (first
    | with_reducible (first | refine Rd.p ?_ | refine w_alt ?_ ?_ | refine zE ?_ | refine zE0 ?_)
    | with_reducible (first | refine zI fun y hy=>?_ | refine zL ?_ | refine zS ?_ | refine zA fun _=>?_ | refine zV ?_ | refine zC ?_ | refine zG ?_ | refine zU ?_ | refine zG0 ?_ | refine zU0 ?_ | refine zF ?_)
    | with_reducible (first | refine zX ?_ | refine zD fun _=>?_ | refine zD0 ?_ | refine zN ?_ | refine zF0 ?_ | refine zX0 ?_ | refine z1 ?_ | refine z2 ?_ | refine z3 ?_ | refine z4 ?_ | refine z5 ?_ | refine z6 ?_ | refine z7 ?_ | refine z8 ?_ | refine y1 ?_ | refine y2 ?_ | refine y3 ?_ | refine y4 ?_ | refine y5 ?_ | refine y6 ?_ | refine y7 ?_ | refine y8 ?_ | refine Rt.p (fun _=>?_) fun _=>?_)
    | ((with_reducible apply w_ixM);(focus exact rfl);(focus exact rfl);case' hk=>intro y hy) | ((with_reducible (first | apply w_val | apply q_ends));(focus exact rfl)))
   all_goals first
    | (exfalso;omega)
    | rfl
 rw[if_neg h6] at hB
 refine RawC.walk (H:=hint18 Try.prog) ir18 Try.func18 rfl rfl rfl ?_
 unfold ir18
 repeat' (first
  | with_reducible (first | refine Rd.p ?_ | refine w_alt ?_ ?_ | refine zE ?_ | refine zE0 ?_)
  | with_reducible (first | refine zI fun y hy=>?_ | refine zL ?_ | refine zS ?_ | refine zA fun _=>?_ | refine zV ?_ | refine zC ?_ | refine zG ?_ | refine zU ?_ | refine zG0 ?_ | refine zU0 ?_ | refine zF ?_)
  | with_reducible (first | refine zX ?_ | refine zD fun _=>?_ | refine zD0 ?_ | refine zN ?_ | refine zF0 ?_ | refine zX0 ?_ | refine z1 ?_ | refine z2 ?_ | refine z3 ?_ | refine z4 ?_ | refine z5 ?_ | refine z6 ?_ | refine z7 ?_ | refine z8 ?_ | refine y1 ?_ | refine y2 ?_ | refine y3 ?_ | refine y4 ?_ | refine y5 ?_ | refine y6 ?_ | refine y7 ?_ | refine y8 ?_ | refine Rt.p (fun _=>?_) fun _=>?_)
  | ((with_reducible apply w_ixM);(focus exact rfl);(focus exact rfl);case' hk=>intro y hy) | ((with_reducible (first | apply w_val | apply q_ends));(focus exact rfl)))
 all_goals try (exfalso;omega)
 rename_i g1
 refine w_loopK [1,25,26] [1] (fun x:List Wd×List Wd=>G.ws=x.1++x.2∧wsErr [] G.ws=wsErr x.1 x.2) (fun x=>x.2.length) (fun x=>[(27,.int .i64 x.1.length)]) (fun _=>[]) ([],G.ws) ⟨rfl,rfl⟩ ⟨rfl,trivial⟩ trivial ?_
 rintro⟨pre,post⟩ ⟨hl,he⟩ e σ
 dsimp only at hl he ⊢
 have hlen:=congrArg List.length hl
 rw[List.length_append] at hlen
 cases post with
 | nil=>
   simp only[List.length_nil] at hlen
   rw[if_pos (by rw[he];rfl)] at hB
   by_cases h24:24<G.ds.length
   · rw[if_pos h24] at hB
     subst hB
     repeat' (first
      | with_reducible (first | refine Rd.p ?_ | refine w_alt ?_ ?_ | refine zE ?_ | refine zE0 ?_)
      | with_reducible (first | refine zI fun y hy=>?_ | refine zL ?_ | refine zS ?_ | refine zA fun _=>?_ | refine zV ?_ | refine zC ?_ | refine zG ?_ | refine zU ?_ | refine zG0 ?_ | refine zU0 ?_ | refine zF ?_)
      | with_reducible (first | refine zX ?_ | refine zD fun _=>?_ | refine zD0 ?_ | refine zN ?_ | refine zF0 ?_ | refine zX0 ?_ | refine z1 ?_ | refine z2 ?_ | refine z3 ?_ | refine z4 ?_ | refine z5 ?_ | refine z6 ?_ | refine z7 ?_ | refine z8 ?_ | refine y1 ?_ | refine y2 ?_ | refine y3 ?_ | refine y4 ?_ | refine y5 ?_ | refine y6 ?_ | refine y7 ?_ | refine y8 ?_ | refine Rt.p (fun _=>?_) fun _=>?_)
      | ((with_reducible apply w_ixM);(focus exact rfl);(focus exact rfl);case' hk=>intro y hy) | ((with_reducible (first | apply w_val | apply q_ends));(focus exact rfl)))
     all_goals first
      | (exfalso;omega)
      | rfl
   rw[if_neg h24] at hB
   repeat' (first
    | with_reducible (first | refine Rd.p ?_ | refine w_alt ?_ ?_ | refine zE ?_ | refine zE0 ?_)
    | with_reducible (first | refine zI fun y hy=>?_ | refine zL ?_ | refine zS ?_ | refine zA fun _=>?_ | refine zV ?_ | refine zC ?_ | refine zG ?_ | refine zU ?_ | refine zG0 ?_ | refine zU0 ?_ | refine zF ?_)
    | ((with_reducible refine acall_id ?_);refine ACall.liftS checks_c [] (some 1) rfl rfl rfl trivial (fun _=>rfl) ?_;rintro gm _ rfl)
    | with_reducible (first | refine zX ?_ | refine zD fun _=>?_ | refine zD0 ?_ | refine zN ?_ | refine zF0 ?_ | refine zX0 ?_ | refine z1 ?_ | refine z2 ?_ | refine z3 ?_ | refine z4 ?_ | refine z5 ?_ | refine z6 ?_ | refine z7 ?_ | refine z8 ?_ | refine y1 ?_ | refine y2 ?_ | refine y3 ?_ | refine y4 ?_ | refine y5 ?_ | refine y6 ?_ | refine y7 ?_ | refine y8 ?_ | refine Rt.p (fun _=>?_) fun _=>?_)
    | ((with_reducible apply w_ixM);(focus exact rfl);(focus exact rfl);case' hk=>intro y hy) | ((with_reducible (first | apply w_val | apply q_ends));(focus exact rfl)))
   all_goals try (exfalso;omega)
   all_goals
    rename_i g64
    refine w_loopK [7,8,67,68] [] (fun x:List Dl×List Dl×Tb=>G.ds=x.1++x.2.1∧tbOK x.2.2∧(if dsErr G.ws.length x.2.2 x.2.1=0 then (if (dsTab x.2.2 x.2.1).cens=0 then 6 else 0) else dsErr G.ws.length x.2.2 x.2.1)=B) (fun x=>x.2.1.length) (fun x=>[(69,.int .i64 x.1.length)]) (fun x=>[(64,(g64,.row (ckRow G.ws.length x.2.2))),(65,(gm,.row [.mpv (ckKs.map (AV.int .i64)) ckVs]))]) ([],G.ds,tb0) ⟨rfl,tb0_ok,hB⟩ ⟨rfl,trivial⟩ ⟨rfl,rfl,trivial⟩ ?_
    rintro⟨pre,post,t⟩ ⟨hl2,hok,hB2⟩ e2 σ2
    dsimp only at hl2 hok hB2 ⊢
    have hlen2:=congrArg List.length hl2
    rw[List.length_append] at hlen2
    cases post with
    | nil=>
      simp only[List.length_nil] at hlen2
      have hB2:(if t.cens=0 then (6:Int) else 0)=B:=hB2
      have htc:=hok.c
      by_cases hc0:t.cens=0
      · rw[if_pos hc0] at hB2
        subst hB2
        repeat' (first
         | with_reducible (first | refine Rd.p ?_ | refine w_alt ?_ ?_ | refine zE ?_ | refine zE0 ?_)
         | with_reducible (first | refine zI fun y hy=>?_ | refine zL ?_ | refine zS ?_ | refine zA fun _=>?_ | refine zV ?_ | refine zC ?_ | refine zG ?_ | refine zU ?_ | refine zG0 ?_ | refine zU0 ?_ | refine zF ?_)
         | with_reducible (first | refine zX ?_ | refine zD fun _=>?_ | refine zD0 ?_ | refine zN ?_ | refine zF0 ?_ | refine zX0 ?_ | refine z1 ?_ | refine z2 ?_ | refine z3 ?_ | refine z4 ?_ | refine z5 ?_ | refine z6 ?_ | refine z7 ?_ | refine z8 ?_ | refine y1 ?_ | refine y2 ?_ | refine y3 ?_ | refine y4 ?_ | refine y5 ?_ | refine y6 ?_ | refine y7 ?_ | refine y8 ?_ | refine Rt.p (fun _=>?_) fun _=>?_)
         | ((with_reducible apply w_ixM);(focus exact rfl);(focus exact rfl);case' hk=>intro y hy) | ((with_reducible (first | apply w_val | apply q_ends));(focus exact rfl)))
        all_goals first
         | (exfalso;omega)
         | rfl
      · rw[if_neg hc0] at hB2
        subst hB2
        repeat' (first
         | with_reducible (first | refine Rd.p ?_ | refine w_alt ?_ ?_ | refine zE ?_ | refine zE0 ?_)
         | with_reducible (first | refine zI fun y hy=>?_ | refine zL ?_ | refine zS ?_ | refine zA fun _=>?_ | refine zV ?_ | refine zC ?_ | refine zG ?_ | refine zU ?_ | refine zG0 ?_ | refine zU0 ?_ | refine zF ?_)
         | with_reducible (first | refine zX ?_ | refine zD fun _=>?_ | refine zD0 ?_ | refine zN ?_ | refine zF0 ?_ | refine zX0 ?_ | refine z1 ?_ | refine z2 ?_ | refine z3 ?_ | refine z4 ?_ | refine z5 ?_ | refine z6 ?_ | refine z7 ?_ | refine z8 ?_ | refine y1 ?_ | refine y2 ?_ | refine y3 ?_ | refine y4 ?_ | refine y5 ?_ | refine y6 ?_ | refine y7 ?_ | refine y8 ?_ | refine Rt.p (fun _=>?_) fun _=>?_)
         | ((with_reducible apply w_ixM);(focus exact rfl);(focus exact rfl);case' hk=>intro y hy) | ((with_reducible (first | apply w_val | apply q_ends));(focus exact rfl)))
        all_goals first
         | (exfalso;omega)
         | rfl
    | cons d post=>
      simp only[List.length_cons] at hlen2
      cases hk6:inB d.kind 1 6 with
      | false=>
        have hdl:dlErr G.ws.length d t=4:=by rw[dlErr,hk6];rfl
        have hds:dsErr G.ws.length t (d::post)=4:=by rw[dsErr,hdl];rfl
        rw[hds,if_neg (by decide)] at hB2
        subst hB2
        repeat' (first
         | with_reducible (first | refine Rd.p ?_ | refine w_alt ?_ ?_ | refine zE ?_ | refine zE0 ?_)
         | (first | refine w_ixP (f:=fun d:Dl=>[AV.int .i64 d.kind,.int .i64 d.bag,.int .i64 d.other,.int .i64 d.wood,.int .i64 d.count]) hl2 rfl rfl ?_ | refine w_mlkN rfl rfl rfl hk6 ?_)
         | with_reducible (first | refine zI fun y hy=>?_ | refine zL ?_ | refine zS ?_ | refine zA fun _=>?_ | refine zV ?_ | refine zC ?_ | refine zG ?_ | refine zU ?_ | refine zG0 ?_ | refine zU0 ?_ | refine zF ?_)
         | with_reducible (first | refine zX ?_ | refine zD fun _=>?_ | refine zD0 ?_ | refine zN ?_ | refine zF0 ?_ | refine zX0 ?_ | refine z1 ?_ | refine z2 ?_ | refine z3 ?_ | refine z4 ?_ | refine z5 ?_ | refine z6 ?_ | refine z7 ?_ | refine z8 ?_ | refine y1 ?_ | refine y2 ?_ | refine y3 ?_ | refine y4 ?_ | refine y5 ?_ | refine y6 ?_ | refine y7 ?_ | refine y8 ?_ | refine Rt.p (fun _=>?_) fun _=>?_)
         | ((with_reducible apply w_ixM);(focus exact rfl);(focus exact rfl);case' hk=>intro y hy) | ((with_reducible (first | apply w_val | apply q_ends));(focus exact rfl)))
        all_goals first
         | (exfalso;omega)
         | rfl
      | true=>
      have hfo:=formed_c d hk6
      cases hfd:formD d with
      | false=>
        have hdl:dlErr G.ws.length d t=3:=by rw[dlErr,hk6,if_pos rfl,hfd];rfl
        have hds:dsErr G.ws.length t (d::post)=3:=by rw[dsErr,hdl];rfl
        rw[hds,if_neg (by decide)] at hB2
        subst hB2
        rw[hfd] at hfo
        repeat' (first
         | with_reducible (first | refine Rd.p ?_ | refine w_alt ?_ ?_ | refine zE ?_ | refine zE0 ?_)
         | (first | refine w_ixP (f:=fun d:Dl=>[AV.int .i64 d.kind,.int .i64 d.bag,.int .i64 d.other,.int .i64 d.wood,.int .i64 d.count]) hl2 rfl rfl ?_ | refine w_mlkT rfl rfl rfl hk6 ?_)
         | with_reducible (first | refine zI fun y hy=>?_ | refine zL ?_ | refine zS ?_ | refine zA fun _=>?_ | refine zV ?_ | refine zC ?_ | refine zG ?_ | refine zU ?_ | refine zG0 ?_ | refine zU0 ?_ | refine zF ?_)
         | ((with_reducible refine acall_id ?_);refine ACall.val hfo rfl rfl ?_)
         | with_reducible (first | refine zX ?_ | refine zD fun _=>?_ | refine zD0 ?_ | refine zN ?_ | refine zF0 ?_ | refine zX0 ?_ | refine z1 ?_ | refine z2 ?_ | refine z3 ?_ | refine z4 ?_ | refine z5 ?_ | refine z6 ?_ | refine z7 ?_ | refine z8 ?_ | refine y1 ?_ | refine y2 ?_ | refine y3 ?_ | refine y4 ?_ | refine y5 ?_ | refine y6 ?_ | refine y7 ?_ | refine y8 ?_ | refine Rt.p (fun _=>?_) fun _=>?_)
         | ((with_reducible apply w_ixM);(focus exact rfl);(focus exact rfl);case' hk=>intro y hy) | ((with_reducible (first | apply w_val | apply q_ends));(focus exact rfl)))
        all_goals first
         | (exfalso;omega)
         | rfl
      | true=>
      have hdl:dlErr G.ws.length d t=dealE G.ws.length d t:=by rw[dlErr,hk6,if_pos rfl,hfd,if_pos rfl]
      rw[hfd] at hfo
      have hC:=deal_c g64 G.ws.length d t (by omega) hok hk6
      have hok2:=dealT_ok (n:=G.ws.length) hk6 hok
      rw[dsErr,dsTab,hdl] at hB2
      by_cases hE0:dealE G.ws.length d t=0
      · rw[if_pos hE0] at hB2
        rw[hE0] at hC
        have hok2:=hok2 hE0
        repeat' (first
         | with_reducible (first | refine Rd.p ?_ | refine w_alt ?_ ?_ | refine zE ?_ | refine zE0 ?_)
         | (first | refine w_ixP (f:=fun d:Dl=>[AV.int .i64 d.kind,.int .i64 d.bag,.int .i64 d.other,.int .i64 d.wood,.int .i64 d.count]) hl2 rfl rfl ?_ | refine w_mlkT rfl rfl rfl hk6 ?_)
         | with_reducible (first | refine zI fun y hy=>?_ | refine zL ?_ | refine zS ?_ | refine zA fun _=>?_ | refine zV ?_ | refine zC ?_ | refine zG ?_ | refine zU ?_ | refine zG0 ?_ | refine zU0 ?_ | refine zF ?_)
         | ((with_reducible refine acall_id ?_);refine ACall.val hfo rfl rfl ?_)
         | ((with_reducible refine acall_id ?_);refine ACall.ck hC rfl rfl rfl ?_;rintro _ t' ⟨rfl,ht'⟩;obtain rfl:=ht' rfl)
         | with_reducible (first | refine zX ?_ | refine zD fun _=>?_ | refine zD0 ?_ | refine zN ?_ | refine zF0 ?_ | refine zX0 ?_ | refine z1 ?_ | refine z2 ?_ | refine z3 ?_ | refine z4 ?_ | refine z5 ?_ | refine z6 ?_ | refine z7 ?_ | refine z8 ?_ | refine y1 ?_ | refine y2 ?_ | refine y3 ?_ | refine y4 ?_ | refine y5 ?_ | refine y6 ?_ | refine y7 ?_ | refine y8 ?_ | refine Rt.p (fun _=>?_) fun _=>?_)
         | ((with_reducible apply w_ixM);(focus exact rfl);(focus exact rfl);case' hk=>intro y hy) | ((with_reducible (first | apply w_val | apply q_ends));(focus exact rfl)))
        all_goals first
         | (exfalso;omega)
         | exact q_loop (pre++[d],post,dealT d t) ⟨by show G.ds=_;rw[hl2];simp,hok2,hB2⟩ (by simp) (slots_cons (by show AV.int .i64 _=AV.int .i64 _;refine int_eq ?_;simp) slots_nil) ⟨rfl,rfl,trivial⟩ (by repeat' (first | exact kept_nil | apply kept_cons | rfl)) (by repeat' (first | exact kept_nil | apply kept_cons | rfl))
      · rw[if_neg hE0,if_neg hE0] at hB2
        generalize dealE G.ws.length d t=E at*
        subst hB2
        repeat' (first
         | with_reducible (first | refine Rd.p ?_ | refine w_alt ?_ ?_ | refine zE ?_ | refine zE0 ?_)
         | (first | refine w_ixP (f:=fun d:Dl=>[AV.int .i64 d.kind,.int .i64 d.bag,.int .i64 d.other,.int .i64 d.wood,.int .i64 d.count]) hl2 rfl rfl ?_ | refine w_mlkT rfl rfl rfl hk6 ?_)
         | with_reducible (first | refine zI fun y hy=>?_ | refine zL ?_ | refine zS ?_ | refine zA fun _=>?_ | refine zV ?_ | refine zC ?_ | refine zG ?_ | refine zU ?_ | refine zG0 ?_ | refine zU0 ?_ | refine zF ?_)
         | ((with_reducible refine acall_id ?_);refine ACall.val hfo rfl rfl ?_)
         | ((with_reducible refine acall_id ?_);refine ACall.ck hC rfl rfl rfl ?_;rintro _ t' ⟨rfl,ht'⟩)
         | with_reducible (first | refine zX ?_ | refine zD fun _=>?_ | refine zD0 ?_ | refine zN ?_ | refine zF0 ?_ | refine zX0 ?_ | refine z1 ?_ | refine z2 ?_ | refine z3 ?_ | refine z4 ?_ | refine z5 ?_ | refine z6 ?_ | refine z7 ?_ | refine z8 ?_ | refine y1 ?_ | refine y2 ?_ | refine y3 ?_ | refine y4 ?_ | refine y5 ?_ | refine y6 ?_ | refine y7 ?_ | refine y8 ?_ | refine Rt.p (fun _=>?_) fun _=>?_)
         | ((with_reducible apply w_ixM);(focus exact rfl);(focus exact rfl);case' hk=>intro y hy) | ((with_reducible (first | apply w_val | apply q_ends));(focus exact rfl)))
        all_goals first
         | (exfalso;omega)
         | rfl
 | cons w post=>
   simp only[List.length_cons] at hlen
   have hwm:=hs w (by rw[hl];simp)
   have hnm:=gnamed_c w.name hwm
   have hfm:=gin_c w.fam 0 9
   cases hnb:namedB w.name with
   | false=>
     have h3:wsErr [] G.ws=3:=by rw[he,wsErr,hnb];rfl
     rw[h3,if_neg (by decide)] at hB
     subst hB
     rw[hnb] at hnm
     repeat' (first
      | with_reducible (first | refine Rd.p ?_ | refine w_alt ?_ ?_ | refine zE ?_ | refine zE0 ?_)
      | (first | refine w_ixP (f:=fun w:Wd=>[AV.str w.name,.int .i64 w.fam]) hl rfl rfl ?_)
      | with_reducible (first | refine zI fun y hy=>?_ | refine zL ?_ | refine zS ?_ | refine zA fun _=>?_ | refine zV ?_ | refine zC ?_ | refine zG ?_ | refine zU ?_ | refine zG0 ?_ | refine zU0 ?_ | refine zF ?_)
      | ((with_reducible refine acall_id ?_);refine ACall.val hnm rfl rfl ?_)
      | with_reducible (first | refine zX ?_ | refine zD fun _=>?_ | refine zD0 ?_ | refine zN ?_ | refine zF0 ?_ | refine zX0 ?_ | refine z1 ?_ | refine z2 ?_ | refine z3 ?_ | refine z4 ?_ | refine z5 ?_ | refine z6 ?_ | refine z7 ?_ | refine z8 ?_ | refine y1 ?_ | refine y2 ?_ | refine y3 ?_ | refine y4 ?_ | refine y5 ?_ | refine y6 ?_ | refine y7 ?_ | refine y8 ?_ | refine Rt.p (fun _=>?_) fun _=>?_)
      | ((with_reducible apply w_ixM);(focus exact rfl);(focus exact rfl);case' hk=>intro y hy) | ((with_reducible (first | apply w_val | apply q_ends));(focus exact rfl)))
     all_goals first
      | (exfalso;omega)
      | rfl
   | true=>
   rw[hnb] at hnm
   repeat' (first
    | with_reducible (first | refine Rd.p ?_ | refine w_alt ?_ ?_ | refine zE ?_ | refine zE0 ?_)
    | (first | refine w_ixP (f:=fun w:Wd=>[AV.str w.name,.int .i64 w.fam]) hl rfl rfl ?_ | refine w_slPre (f:=fun w:Wd=>[AV.str w.name,.int .i64 w.fam]) hl rfl rfl ?_)
    | with_reducible (first | refine zI fun y hy=>?_ | refine zL ?_ | refine zS ?_ | refine zA fun _=>?_ | refine zV ?_ | refine zC ?_ | refine zG ?_ | refine zU ?_ | refine zG0 ?_ | refine zU0 ?_ | refine zF ?_)
    | ((with_reducible refine acall_id ?_);refine ACall.val hnm rfl rfl ?_)
    | with_reducible (first | refine zX ?_ | refine zD fun _=>?_ | refine zD0 ?_ | refine zN ?_ | refine zF0 ?_ | refine zX0 ?_ | refine z1 ?_ | refine z2 ?_ | refine z3 ?_ | refine z4 ?_ | refine z5 ?_ | refine z6 ?_ | refine z7 ?_ | refine z8 ?_ | refine y1 ?_ | refine y2 ?_ | refine y3 ?_ | refine y4 ?_ | refine y5 ?_ | refine y6 ?_ | refine y7 ?_ | refine y8 ?_ | refine Rt.p (fun _=>?_) fun _=>?_)
    | ((with_reducible apply w_ixM);(focus exact rfl);(focus exact rfl);case' hk=>intro y hy) | ((with_reducible (first | apply w_val | apply q_ends));(focus exact rfl)))
   all_goals try (exfalso;omega)
   rename_i g4
   refine w_loopK [1,4,25,26,27,39,40] [1,4] (fun x:List Wd×List Wd=>pre=x.1++x.2∧x.1.any (fun x=>decide (x.name=w.name))=false) (fun x=>x.2.length) (fun x=>[(41,.int .i64 x.1.length)]) (fun _=>[]) ([],pre) ⟨rfl,rfl⟩ ⟨rfl,trivial⟩ trivial ?_
   rintro⟨p1,p2⟩ ⟨hl3,hany⟩ e3 σ3
   dsimp only at hl3 hany ⊢
   have hlen3:=congrArg List.length hl3
   rw[List.length_append] at hlen3
   cases p2 with
   | nil=>
     simp only[List.length_nil] at hlen3
     rw[List.append_nil] at hl3
     rw[←hl3] at hany
     cases hfb:inB w.fam 0 9 with
     | false=>
       have h2:wsErr [] G.ws=2:=by rw[he,wsErr,if_pos hnb,hany,hfb];rfl
       rw[h2,if_neg (by decide)] at hB
       subst hB
       rw[hfb] at hfm
       repeat' (first
        | with_reducible (first | refine Rd.p ?_ | refine w_alt ?_ ?_ | refine zE ?_ | refine zE0 ?_)
        | with_reducible (first | refine zI fun y hy=>?_ | refine zL ?_ | refine zS ?_ | refine zA fun _=>?_ | refine zV ?_ | refine zC ?_ | refine zG ?_ | refine zU ?_ | refine zG0 ?_ | refine zU0 ?_ | refine zF ?_)
        | ((with_reducible refine acall_id ?_);refine ACall.val hfm rfl rfl ?_)
        | with_reducible (first | refine zX ?_ | refine zD fun _=>?_ | refine zD0 ?_ | refine zN ?_ | refine zF0 ?_ | refine zX0 ?_ | refine z1 ?_ | refine z2 ?_ | refine z3 ?_ | refine z4 ?_ | refine z5 ?_ | refine z6 ?_ | refine z7 ?_ | refine z8 ?_ | refine y1 ?_ | refine y2 ?_ | refine y3 ?_ | refine y4 ?_ | refine y5 ?_ | refine y6 ?_ | refine y7 ?_ | refine y8 ?_ | refine Rt.p (fun _=>?_) fun _=>?_)
        | ((with_reducible apply w_ixM);(focus exact rfl);(focus exact rfl);case' hk=>intro y hy) | ((with_reducible (first | apply w_val | apply q_ends));(focus exact rfl)))
       all_goals first
        | (exfalso;omega)
        | rfl
     | true=>
       have h2:wsErr pre (w::post)=wsErr (pre++[w]) post:=by rw[wsErr,if_pos hnb,hany,hfb];rfl
       rw[h2] at he
       rw[hfb] at hfm
       repeat' (first
        | with_reducible (first | refine Rd.p ?_ | refine w_alt ?_ ?_ | refine zE ?_ | refine zE0 ?_)
        | with_reducible (first | refine zI fun y hy=>?_ | refine zL ?_ | refine zS ?_ | refine zA fun _=>?_ | refine zV ?_ | refine zC ?_ | refine zG ?_ | refine zU ?_ | refine zG0 ?_ | refine zU0 ?_ | refine zF ?_)
        | ((with_reducible refine acall_id ?_);refine ACall.val hfm rfl rfl ?_)
        | with_reducible (first | refine zX ?_ | refine zD fun _=>?_ | refine zD0 ?_ | refine zN ?_ | refine zF0 ?_ | refine zX0 ?_ | refine z1 ?_ | refine z2 ?_ | refine z3 ?_ | refine z4 ?_ | refine z5 ?_ | refine z6 ?_ | refine z7 ?_ | refine z8 ?_ | refine y1 ?_ | refine y2 ?_ | refine y3 ?_ | refine y4 ?_ | refine y5 ?_ | refine y6 ?_ | refine y7 ?_ | refine y8 ?_ | refine Rt.p (fun _=>?_) fun _=>?_)
        | ((with_reducible apply w_ixM);(focus exact rfl);(focus exact rfl);case' hk=>intro y hy) | ((with_reducible (first | apply w_val | apply q_ends));(focus exact rfl)))
       all_goals first
        | (exfalso;omega)
        | exact q_loop (pre++[w],post) ⟨by show G.ws=_;rw[hl];simp,he⟩ (by simp) (slots_cons (by show AV.int .i64 _=AV.int .i64 _;refine int_eq ?_;simp) slots_nil) trivial (by repeat' (first | exact kept_nil | apply kept_cons | rfl)) (by repeat' (first | exact kept_nil | apply kept_cons | rfl))
   | cons x p2=>
     simp only[List.length_cons] at hlen3
     by_cases hx:x.name=w.name
     · have h9:wsErr [] G.ws=9:=by
        rw[he,wsErr,if_pos hnb,if_pos]
        rw[hl3,List.any_append,List.any_cons,decide_eq_true hx];simp
       rw[h9,if_neg (by decide)] at hB
       subst hB
       repeat' (first
        | with_reducible (first | refine Rd.p ?_ | refine w_alt ?_ ?_ | refine zE ?_ | refine zE0 ?_)
        | (first | refine w_ixP (f:=fun w:Wd=>[AV.str w.name,.int .i64 w.fam]) hl3 rfl rfl ?_)
        | with_reducible (first | refine zI fun y hy=>?_ | refine zL ?_ | refine zS ?_ | refine zA fun _=>?_ | refine zV ?_ | refine zC ?_ | refine zG ?_ | refine zU ?_ | refine zG0 ?_ | refine zU0 ?_ | refine zF ?_)
        | with_reducible (first | refine zX ?_ | refine zD fun _=>?_ | refine zD0 ?_ | refine zN ?_ | refine zF0 ?_ | refine zX0 ?_ | refine z1 ?_ | refine z2 ?_ | refine z3 ?_ | refine z4 ?_ | refine z5 ?_ | refine z6 ?_ | refine z7 ?_ | refine z8 ?_ | refine y1 ?_ | refine y2 ?_ | refine y3 ?_ | refine y4 ?_ | refine y5 ?_ | refine y6 ?_ | refine y7 ?_ | refine y8 ?_ | refine Rt.p (fun _=>?_) fun _=>?_)
        | ((with_reducible apply w_ixM);(focus exact rfl);(focus exact rfl);case' hk=>intro y hy) | ((with_reducible (first | apply w_val | apply q_ends));(focus exact rfl)))
       all_goals first
        | (exfalso;omega)
        | rfl
     · repeat' (first
        | with_reducible (first | refine Rd.p ?_ | refine w_alt ?_ ?_ | refine zE ?_ | refine zE0 ?_)
        | (first | refine w_ixP (f:=fun w:Wd=>[AV.str w.name,.int .i64 w.fam]) hl3 rfl rfl ?_)
        | with_reducible (first | refine zI fun y hy=>?_ | refine zL ?_ | refine zS ?_ | refine zA fun _=>?_ | refine zV ?_ | refine zC ?_ | refine zG ?_ | refine zU ?_ | refine zG0 ?_ | refine zU0 ?_ | refine zF ?_)
        | with_reducible (first | refine zX ?_ | refine zD fun _=>?_ | refine zD0 ?_ | refine zN ?_ | refine zF0 ?_ | refine zX0 ?_ | refine z1 ?_ | refine z2 ?_ | refine z3 ?_ | refine z4 ?_ | refine z5 ?_ | refine z6 ?_ | refine z7 ?_ | refine z8 ?_ | refine y1 ?_ | refine y2 ?_ | refine y3 ?_ | refine y4 ?_ | refine y5 ?_ | refine y6 ?_ | refine y7 ?_ | refine y8 ?_ | refine Rt.p (fun _=>?_) fun _=>?_)
        | ((with_reducible apply w_ixM);(focus exact rfl);(focus exact rfl);case' hk=>intro y hy) | ((with_reducible (first | apply w_val | apply q_ends));(focus exact rfl)))
       all_goals first
        | (exfalso;omega)
        | exact absurd ‹x.name=w.name› hx
        | exact q_loop (p1++[x],p2) ⟨by show pre=_;rw[hl3];simp,by show (p1++[x]).any _=false;rw[List.any_append,hany,List.any_cons,decide_eq_false hx];rfl⟩ (by simp) (slots_cons (by show AV.int .i64 _=AV.int .i64 _;refine int_eq ?_;simp) slots_nil) trivial (by repeat' (first | exact kept_nil | apply kept_cons | rfl)) (by repeat' (first | exact kept_nil | apply kept_cons | rfl))
def ir21:IFn:=
 ⟨30,[(2,some (1,false)),(3,some (1,false)),(4,some (1,false))],(.seq (.ops [oo 1 (.box 2 0),
 oo 2 (.new [.nsl]),
 oo 3 (.new [.nsl]),
 oo 4 (.new [(.int .i64 0)])])
 (.seq (.seq (.ops [oo 8 (.ld 2 true 1),
 oo 9 (.callF 18 [8]),
 oo 5 (.mov 9)])
 (.seq (.ops [oo 10 (.mov 5),
 oo 11 (.bin .neq 10 (kI 0))])
 (.cnd 11
 (.seq (.ops [oo 12 (.mov 5),
 ⟨none,none,(.st 1 2 (.k .nsl))⟩,
 ⟨none,none,(.st 1 3 (.k .nsl))⟩,
 ⟨none,none,(.st 1 4 12)⟩])
 .ret)
 .skip)))
 (.seq (.seq (.ops [oo 13 (.ld 2 true 1),
 oo 14 (.callF 57 [13])])
 (.blk 0 (.rf 14 [15,16] (.seq (.ops [oo 6 (.mov 15)])
 (.ops [oo 7 (.mov 16)]))
 (.blk 1 (.seq (.seq (.ops [oo 17 (.ld 1 false 2),
 oo 18 (.len false 17),
 oo 19 (.bin .eql 18 (kI 5000))])
 (.cnd 19
 (.seq (.ops [⟨none,none,(.st 1 2 (.k .nsl))⟩,
 ⟨none,none,(.st 1 3 (.k .nsl))⟩,
 ⟨none,none,(.st 1 4 (kI 8))⟩])
 .ret)
 .skip))
 (.ops [oo 20 (.ld 1 false 2),
 oo 21 (.mov 6),
 oo 22 (.bsl 1 [[.nsl]] [(0,21)]),
 oo 24 (.ld 1 false 3),
 oo 25 (.mov 7),
 oo 26 (.bsl 1 [[(.int .i64 0)]] [(0,25)]),
 oo 23 (.app 1 24 20 22 23),
 ⟨none,none,(.chk 1 false 3 24)⟩,
 oo 27 (.app 1 8 24 26 27),
 ⟨none,none,(.st 1 2 23)⟩,
 ⟨none,none,(.st 1 3 27)⟩]))))))
 (.seq (.ops [oo 28 (.ld 1 false 2),
 oo 29 (.ld 1 false 3),
 ⟨none,none,(.st 1 2 28)⟩,
 ⟨none,none,(.chk 1 false 3 29)⟩,
 ⟨none,none,(.st 1 3 29)⟩,
 ⟨none,none,(.st 1 4 (kI 0))⟩])
 .ret))))⟩
def hint21 (P:Program):Hint:={}
theorem Sub.tupM {l m:List AV} (h:SubL l m):Sub (.tup l) (.tup m):=fun G v ⟨vs,h1,h2⟩=>⟨vs,h1,SubL.rel h h2⟩
def crsO (G:Gm):List (List Int×Int)×Int:=if gmErr G=0 then (if (crsG G).length≤5000 then (crsG G,0) else ([],8)) else ([],gmErr G)
def rV (l:List (List Int×Int)):AV:=match l with
 | []=> .nsl
 | _::_=> .slc 1 (llR (l.map (·.1))) .non
def rW (l:List (List Int×Int)):AV:=match l with
 | []=> .nsl
 | _::_=> .slc 1 (iR (l.map (·.2))) .non
abbrev crsA (l:List (List Int×Int)) (e:Int):AV:= .tup [rV l,rW l,.int .i64 e]
theorem sub_crsA (l:List (List Int×Int)) (e:Int):Sub (crsA l e) (.tup [.slc 1 (llR (l.map (·.1))) .non,.slc 1 (iR (l.map (·.2))) .non,.int .i64 e]):=by
 cases l with
 | nil=>exact Sub.tupM (.cons Sub.nil (.cons Sub.nil (.cons (Sub.refl _) .nil)))
 | cons=>exact Sub.refl _
def takV (l:List (List Int×Int)) (g:Nat):AV:=match l with
 | []=> .nsl
 | _::_=> .slc 1 (llR (l.map (·.1))) (.own 23 g)
def takW (l:List (List Int×Int)) (g:Nat):AV:=match l with
 | []=> .nsl
 | _::_=> .slc 1 (iR (l.map (·.2))) (.own 27 g)
def takX (l:List (List Int×Int)) (g:Nat):Nat×Res:=match l with
 | []=>(0,.dead)
 | _::_=>(g,.row [])
theorem courses_f (G:Gm) (I:List Sp→Wt→Prop) (hw:G.ws.length<1000) (hd:G.ds.length<1000) (hs:∀w∈G.ws,w.name.size≤1000) (hI:gmErr G=0→GmIn G I):Fn0 Try.prog 21 [gmA G] (fun v=>v=crsA (crsO G).1 (crsO G).2):=by
 have hck:=gCheck_c G hw hd hs
 obtain⟨B,hB⟩:∃B,crsO G=B:=⟨_,rfl⟩
 rw[hB]
 unfold crsO at hB
 by_cases h0:gmErr G=0
 rotate_left
 · rw[if_neg h0] at hB
   subst hB
   refine RawC.walk (H:=hint21 Try.prog) ir21 Try.func21 rfl rfl rfl ?_
   unfold ir21
   repeat' (first
    | with_reducible (first | refine Rd.p ?_ | refine w_alt ?_ ?_ | refine zE ?_ | refine zE0 ?_)
    | with_reducible (first | refine zI fun y hy=>?_ | refine zL ?_ | refine zS ?_ | refine zA fun _=>?_ | refine zV ?_ | refine zC ?_ | refine zG ?_ | refine zU ?_ | refine zG0 ?_ | refine zU0 ?_ | refine zF ?_)
    | ((with_reducible refine acall_id ?_);refine ACall.val hck rfl rfl ?_)
    | with_reducible (first | refine zX ?_ | refine zD fun _=>?_ | refine zD0 ?_ | refine zN ?_ | refine zF0 ?_ | refine zX0 ?_ | refine z1 ?_ | refine z2 ?_ | refine z3 ?_ | refine z4 ?_ | refine z5 ?_ | refine z6 ?_ | refine z7 ?_ | refine z8 ?_ | refine y1 ?_ | refine y2 ?_ | refine y3 ?_ | refine y4 ?_ | refine y5 ?_ | refine y6 ?_ | refine y7 ?_ | refine y8 ?_ | refine Rt.p (fun _=>?_) fun _=>?_)
    | ((with_reducible apply w_ixM);(focus exact rfl);(focus exact rfl);case' hk=>intro y hy) | ((with_reducible (first | apply w_val | apply q_ends));(focus exact rfl)))
   all_goals first
    | (exfalso;omega)
    | (simp;done)
    | rfl
 rw[if_pos h0] at hB
 have hG:=hI h0
 rw[h0] at hck
 refine RawC.walk (H:=hint21 Try.prog) ir21 Try.func21 rfl rfl rfl ?_
 unfold ir21
 repeat' (first
  | with_reducible (first | refine Rd.p ?_ | refine w_alt ?_ ?_ | refine zE ?_ | refine zE0 ?_)
  | with_reducible (first | refine zI fun y hy=>?_ | refine zL ?_ | refine zS ?_ | refine zA fun _=>?_ | refine zV ?_ | refine zC ?_ | refine zG ?_ | refine zU ?_ | refine zG0 ?_ | refine zU0 ?_ | refine zF ?_)
  | ((with_reducible refine acall_id ?_);refine ACall.val hck rfl rfl ?_)
  | ((with_reducible refine acall_id ?_);refine ACall.val (courses_c G) rfl rfl ?_)
  | with_reducible (first | refine zX ?_ | refine zD fun _=>?_ | refine zD0 ?_ | refine zN ?_ | refine zF0 ?_ | refine zX0 ?_ | refine z1 ?_ | refine z2 ?_ | refine z3 ?_ | refine z4 ?_ | refine z5 ?_ | refine z6 ?_ | refine z7 ?_ | refine z8 ?_ | refine y1 ?_ | refine y2 ?_ | refine y3 ?_ | refine y4 ?_ | refine y5 ?_ | refine y6 ?_ | refine y7 ?_ | refine y8 ?_ | refine Rt.p (fun _=>?_) fun _=>?_)
  | ((with_reducible apply w_ixM);(focus exact rfl);(focus exact rfl);case' hk=>intro y hy) | ((with_reducible (first | apply w_val | apply q_ends));(focus exact rfl)))
 all_goals try (exfalso;omega)
 rename_i g1 g2 g3 g4
 refine w_rfM encC (crsG G) rfl (courses_it G I hG) (fun _=>rfl) [4] (fun (rest:List (List Int×Int)) (y:List (List Int×Int)×Nat×Nat)=>y.1++rest=crsG G∧y.1.length≤5000) (fun y=>[(2,(g2,.row [takV y.1 y.2.1])),(3,(g3,.row [takW y.1 y.2.2])),(23,takX y.1 y.2.1),(27,takX y.1 y.2.2)]) ([],0,0) ⟨rfl,by simp⟩ ⟨rfl,rfl,rfl,rfl,trivial⟩ ?_ ?_
 · rintro⟨c,n⟩ rest ⟨l,ga,gb⟩ ⟨hl,h5⟩ σ'
   dsimp only at hl h5 ⊢
   have hlen:=congrArg List.length hl
   rw[List.length_append,List.length_cons] at hlen
   by_cases hf:l.length=5000
   · rw[if_neg (by omega)] at hB
     subst hB
     cases l with
     | nil=>exact absurd hf (by decide)
     | cons x l=>
       have hml:(List.map (fun x=>x.1) (x::l)).length=5000:=by rw[List.length_map];exact hf
       repeat' (first
        | with_reducible (first | refine Rd.p ?_ | refine w_alt ?_ ?_ | refine zE ?_ | refine zE0 ?_)
        | with_reducible (first | refine zI fun y hy=>?_ | refine zL ?_ | refine zS ?_ | refine zA fun _=>?_ | refine zV ?_ | refine zC ?_ | refine zG ?_ | refine zU ?_ | refine zG0 ?_ | refine zU0 ?_ | refine zF ?_)
        | with_reducible (first | refine zX ?_ | refine zD fun _=>?_ | refine zD0 ?_ | refine zN ?_ | refine zF0 ?_ | refine zX0 ?_ | refine z1 ?_ | refine z2 ?_ | refine z3 ?_ | refine z4 ?_ | refine z5 ?_ | refine z6 ?_ | refine z7 ?_ | refine z8 ?_ | refine y1 ?_ | refine y2 ?_ | refine y3 ?_ | refine y4 ?_ | refine y5 ?_ | refine y6 ?_ | refine y7 ?_ | refine y8 ?_ | refine Rt.p (fun _=>?_) fun _=>?_)
        | ((with_reducible apply w_ixM);(focus exact rfl);(focus exact rfl);case' hk=>intro y hy) | ((with_reducible (first | apply w_val | apply q_ends));(focus exact rfl)))
       all_goals first
        | (exfalso;omega)
        | (simp;done)
        | rfl
   · cases l with
     | nil=>
       repeat' (first
        | with_reducible (first | refine Rd.p ?_ | refine w_alt ?_ ?_ | refine zE ?_ | refine zE0 ?_)
        | with_reducible (first | refine zI fun y hy=>?_ | refine zL ?_ | refine zS ?_ | refine zA fun _=>?_ | refine zV ?_ | refine zC ?_ | refine zG ?_ | refine zU ?_ | refine zG0 ?_ | refine zU0 ?_ | refine zF ?_)
        | with_reducible (first | refine zX ?_ | refine zD fun _=>?_ | refine zD0 ?_ | refine zN ?_ | refine zF0 ?_ | refine zX0 ?_ | refine z1 ?_ | refine z2 ?_ | refine z3 ?_ | refine z4 ?_ | refine z5 ?_ | refine z6 ?_ | refine z7 ?_ | refine z8 ?_ | refine y1 ?_ | refine y2 ?_ | refine y3 ?_ | refine y4 ?_ | refine y5 ?_ | refine y6 ?_ | refine y7 ?_ | refine y8 ?_ | refine Rt.p (fun _=>?_) fun _=>?_)
        | ((with_reducible apply w_ixM);(focus exact rfl);(focus exact rfl);case' hk=>intro y hy) | ((with_reducible (first | apply w_val | apply q_ends));(focus exact rfl)))
       all_goals try (exfalso;omega)
       all_goals
        rename_i ga' gb'
        exact q_rnd ([(c,n)],ga',gb') ⟨hl,by simp⟩ (by repeat' (first | exact slots_nil | apply slots_cons | rfl | (rw[map_snoc];rfl) | (rw[len_snoc];rfl) | (rw[hS];rfl) | (rw[hS,map_snoc];rfl) | (refine int_eq ?_;(try dsimp only);omega) | (refine congrArg AV.bool ?_;simp_all;done))) (by repeat' (first | exact kept_nil | apply kept_cons | rfl))
     | cons x l=>
       have hml:(List.map (fun x=>x.1) (x::l)).length=(x::l).length:=by rw[List.length_map]
       have hml2:(List.map (fun x=>x.2) (x::l)).length=(x::l).length:=by rw[List.length_map]
       repeat' (first
        | with_reducible (first | refine Rd.p ?_ | refine w_alt ?_ ?_ | refine zE ?_ | refine zE0 ?_)
        | with_reducible (first | refine zI fun y hy=>?_ | refine zL ?_ | refine zS ?_ | refine zA fun _=>?_ | refine zV ?_ | refine zC ?_ | refine zG ?_ | refine zU ?_ | refine zG0 ?_ | refine zU0 ?_ | refine zF ?_)
        | with_reducible (first | refine zX ?_ | refine zD fun _=>?_ | refine zD0 ?_ | refine zN ?_ | refine zF0 ?_ | refine zX0 ?_ | refine z1 ?_ | refine z2 ?_ | refine z3 ?_ | refine z4 ?_ | refine z5 ?_ | refine z6 ?_ | refine z7 ?_ | refine z8 ?_ | refine y1 ?_ | refine y2 ?_ | refine y3 ?_ | refine y4 ?_ | refine y5 ?_ | refine y6 ?_ | refine y7 ?_ | refine y8 ?_ | refine Rt.p (fun _=>?_) fun _=>?_)
        | ((with_reducible apply w_ixM);(focus exact rfl);(focus exact rfl);case' hk=>intro y hy) | ((with_reducible (first | apply w_val | apply q_ends));(focus exact rfl)))
       all_goals try (exfalso;omega)
       all_goals
        rename_i ga' gb'
        have e1:llR (List.map (fun x=>x.1) (x::l)++[c])=llR ((x::l++[(c,n)]).map (·.1)):=by simp
        have e2:iR (List.map (fun x=>x.2) (x::l)++[n])=iR ((x::l++[(c,n)]).map (·.2)):=by simp
        exact q_rnd (x::l++[(c,n)],ga',gb') ⟨by show (x::l++[(c,n)])++rest=_;rw[List.append_assoc];exact hl,by show (x::l++[(c,n)]).length≤5000;rw[len_snoc];omega⟩ ⟨congrArg (fun z=>(g2,Res.row [AV.slc 1 z (.own 23 ga')])) e1,congrArg (fun z=>(g3,Res.row [AV.slc 1 z (.own 27 gb')])) e2,rfl,rfl,trivial⟩ (by repeat' (first | exact kept_nil | apply kept_cons | rfl))
 · rintro⟨l,ga,gb⟩ ⟨hl,h5⟩ σ'
   dsimp only at hl h5 ⊢
   rw[List.append_nil] at hl
   rw[←hl,if_pos h5] at hB
   subst hB
   cases l with
   | nil=>
     repeat' (first
      | with_reducible (first | refine Rd.p ?_ | refine w_alt ?_ ?_ | refine zE ?_ | refine zE0 ?_)
      | with_reducible (first | refine zI fun y hy=>?_ | refine zL ?_ | refine zS ?_ | refine zA fun _=>?_ | refine zV ?_ | refine zC ?_ | refine zG ?_ | refine zU ?_ | refine zG0 ?_ | refine zU0 ?_ | refine zF ?_)
      | with_reducible (first | refine zX ?_ | refine zD fun _=>?_ | refine zD0 ?_ | refine zN ?_ | refine zF0 ?_ | refine zX0 ?_ | refine z1 ?_ | refine z2 ?_ | refine z3 ?_ | refine z4 ?_ | refine z5 ?_ | refine z6 ?_ | refine z7 ?_ | refine z8 ?_ | refine y1 ?_ | refine y2 ?_ | refine y3 ?_ | refine y4 ?_ | refine y5 ?_ | refine y6 ?_ | refine y7 ?_ | refine y8 ?_ | refine Rt.p (fun _=>?_) fun _=>?_)
      | ((with_reducible apply w_ixM);(focus exact rfl);(focus exact rfl);case' hk=>intro y hy) | ((with_reducible (first | apply w_val | apply q_ends));(focus exact rfl)))
     all_goals first
      | (exfalso;omega)
      | (simp;done)
      | rfl
   | cons x l=>
     repeat' (first
      | with_reducible (first | refine Rd.p ?_ | refine w_alt ?_ ?_ | refine zE ?_ | refine zE0 ?_)
      | with_reducible (first | refine zI fun y hy=>?_ | refine zL ?_ | refine zS ?_ | refine zA fun _=>?_ | refine zV ?_ | refine zC ?_ | refine zG ?_ | refine zU ?_ | refine zG0 ?_ | refine zU0 ?_ | refine zF ?_)
      | with_reducible (first | refine zX ?_ | refine zD fun _=>?_ | refine zD0 ?_ | refine zN ?_ | refine zF0 ?_ | refine zX0 ?_ | refine z1 ?_ | refine z2 ?_ | refine z3 ?_ | refine z4 ?_ | refine z5 ?_ | refine z6 ?_ | refine z7 ?_ | refine z8 ?_ | refine y1 ?_ | refine y2 ?_ | refine y3 ?_ | refine y4 ?_ | refine y5 ?_ | refine y6 ?_ | refine y7 ?_ | refine y8 ?_ | refine Rt.p (fun _=>?_) fun _=>?_)
      | ((with_reducible apply w_ixM);(focus exact rfl);(focus exact rfl);case' hk=>intro y hy) | ((with_reducible (first | apply w_val | apply q_ends));(focus exact rfl)))
     all_goals first
      | (exfalso;omega)
      | (simp;done)
      | rfl
def fct:Nat→Int
 | 0=>1
 | k+1=>(k+1:Nat)*fct k
theorem fct_pos:∀k,1≤fct k
 | 0=>Int.le_refl _
 | k+1=>by
   have h:=fct_pos k
   show 1≤((k+1:Nat):Int)*fct k
   have:1*1≤((k+1:Nat):Int)*fct k:=Int.mul_le_mul (by omega) h (by decide) (by omega)
   omega
theorem fct12:fct 12=479001600:=by decide
structure bgT (n:Nat) (b:List Int) (B:List Int):Prop where
 l:B.length=24
 nn:∀v∈B,0≤v
 z:∀i w:Int,0≤i∧i≤3→(n:Int)≤w∧w≤5→bgAt B i w=0
 s:∀i:Int,0≤i∧i≤3→nSum 6 (fun w=>bgAt B i w)=atI b i
theorem bgAt_nn {B:List Int} (h:∀v∈B,0≤v) (i w:Int):0≤bgAt B i w:=by
 unfold bgAt
 rw[List.getD_eq_getElem?_getD]
 cases hh:B[i.toNat*6+w.toNat]? with
 | none=>exact Int.le_refl _
 | some v=>exact h v (List.mem_of_getElem? hh)
theorem nSum6 (f:Int→Int):nSum 6 f=f 0+f 1+f 2+f 3+f 4+f 5:=by simp[nSum]
theorem bgT.at {n:Nat} {b B:List Int} (h:bgT n b B) {i w:Int} (hi:0≤i∧i≤3) (hw:0≤w∧w≤5):0≤bgAt B i w∧bgAt B i w≤atI b i:=by
 refine⟨bgAt_nn h.nn i w,?_⟩
 have:=nSum_mem (n:=6) (f:=fun w=>bgAt B i w) (fun k _=>bgAt_nn h.nn i k) w.toNat (by omega)
 rw[h.s i hi] at this
 rwa [show ((w.toNat:Nat):Int)=w by omega] at this
theorem bgT.sum {n:Nat} {b B:List Int} (h:bgT n b B) (hn:n≤6) {i:Int} (hi:0≤i∧i≤3):nSum n (fun w=>bgAt B i w)=atI b i:=by
 rw[←h.s i hi]
 have:∀m:Nat,n+m≤6→nSum (n+m) (fun w=>bgAt B i w)=nSum n (fun w=>bgAt B i w):=by
  intro m
  induction m with
  | zero=>intro _;rfl
  | succ m ih=>
    intro hm
    show nSum (n+m) (fun w=>bgAt B i w)+bgAt B i ((n+m:Nat):Int)=_
    rw[ih (by omega),h.z i _ hi (by omega)];omega
 have h6:=this (6-n) (by omega)
 rw[show n+(6-n)=6 by omega] at h6
 exact h6.symm
theorem bgAt_add {B:List Int} (hl:B.length=24) {i j x k w:Int} (hi:0≤i∧i≤3) (hj:0≤j∧j≤5) (hk:0≤k∧k≤3) (hw:0≤w∧w≤5):bgAt (bgAdd B i j x) k w=if k=i∧w=j then bgAt B i j+x else bgAt B k w:=by
 show (B.set (i.toNat*6+j.toNat) (bgAt B i j+x)).getD (k.toNat*6+w.toNat) 0=_
 rw[set_getD (by omega)]
 by_cases h:k=i∧w=j
 · rw[if_pos h,if_pos (by rw[h.1,h.2])]
 · rw[if_neg h,if_neg (by omega)];rfl
theorem bgAt_pour {B:List Int} {i j k w:Int} (hi:0≤i∧i≤3) (hj:0≤j∧j≤3) (hk:0≤k∧k≤3) (hw:0≤w∧w≤5):bgAt (bgPour B i j) k w=if k=j then bgAt B k w+bgAt B i w else if k=i then 0 else bgAt B k w:=by
 show (((List.range 24).map _).getD (k.toNat*6+w.toNat) 0:Int)=_
 rw[map24_get (by omega)]
 have e1:(k.toNat*6+w.toNat)/6=k.toNat:=by omega
 have e2:(k.toNat*6+w.toNat)%6=w.toNat:=by omega
 rw[e1,e2]
 by_cases h:k=j
 · rw[if_pos h,if_pos (by rw[h])];rfl
 · rw[if_neg h,if_neg (by omega)]
   by_cases h2:k=i
   · rw[if_pos h2,if_pos (by rw[h2])]
   · rw[if_neg h2,if_neg (by omega)];rfl
theorem atI_set {b:List Int} (hb:b.length=4) {i k v:Int} (hi:0≤i∧i≤3) (hk:0≤k∧k≤3):atI (setI b i v) k=if k=i then v else atI b k:=by
 show (b.set i.toNat v).getD k.toNat 0=_
 rw[set_getD (by omega)]
 by_cases h:k=i
 · rw[if_pos h,if_pos (by rw[h])]
 · rw[if_neg h,if_neg (by omega)];rfl
theorem bgT.add {n:Nat} {b B:List Int} (h:bgT n b B) (hb:b.length=4) (hn:n≤6) {i j x:Int} (hi:0≤i∧i≤3) (hj:0≤j∧j<n) (hx:0≤bgAt B i j+x):bgT n (setI b i (atI b i+x)) (bgAdd B i j x):=by
 refine⟨by unfold bgAdd;rw[List.length_set];exact h.l,fun v hv=>?_,fun k w hk hw=>?_,fun k hk=>?_⟩
 · unfold bgAdd at hv
   rcases List.mem_or_eq_of_mem_set hv with hv | rfl
   · exact h.nn v hv
   · exact hx
 · rw[bgAt_add h.l hi (by omega) hk (by omega),if_neg (by omega)]
   exact h.z k w hk hw
 · rw[atI_set hb hi hk]
   have hs:=h.s k hk
   rw[nSum6] at hs ⊢
   try dsimp only at hs ⊢
   have hi':0≤j∧j≤5:=by omega
   rw[bgAt_add h.l hi hi' hk (by omega),bgAt_add h.l hi hi' hk (by omega),bgAt_add h.l hi hi' hk (by omega),bgAt_add h.l hi hi' hk (by omega),bgAt_add h.l hi hi' hk (by omega),bgAt_add h.l hi hi' hk (by omega)]
   by_cases e:k=i
   · subst e
     rw[if_pos rfl]
     rcases (by omega:j=0∨j=1∨j=2∨j=3∨j=4∨j=5) with rfl | rfl | rfl | rfl | rfl | rfl
     all_goals simp only[true_and,Int.reduceEq,if_true,if_false]
     all_goals omega
   · simp only[e,false_and,if_false]
     exact hs
theorem bgT.pour {n:Nat} {b B:List Int} (h:bgT n b B) (hb:b.length=4) {i j:Int} (hi:0≤i∧i≤3) (hj:0≤j∧j≤3) (hij:i≠j):bgT n (setI (setI b j (atI b j+atI b i)) i 0) (bgPour B i j):=by
 have hb2:(setI b j (atI b j+atI b i)).length=4:=by unfold setI;rw[List.length_set];exact hb
 refine⟨by simp[bgPour],fun v hv=>?_,fun k w hk hw=>?_,fun k hk=>?_⟩
 · unfold bgPour at hv
   obtain⟨y,hy,rfl⟩:=List.mem_map.1 hv
   have hg:∀p,0≤B.getD p 0:=fun p=>by
    rw[List.getD_eq_getElem?_getD]
    cases hh:B[p]? with
    | none=>exact Int.le_refl _
    | some v=>exact h.nn v (List.mem_of_getElem? hh)
   split
   · have:=hg y;have:=hg (i.toNat*6+y%6);omega
   · split
     · exact Int.le_refl _
     · exact hg y
 · rw[bgAt_pour hi hj hk (by omega),h.z k w hk hw,h.z i w hi hw]
   split
   · rfl
   · split<;>rfl
 · rw[atI_set hb2 hi hk,atI_set hb hj hk]
   have hs:=h.s k hk
   have hsi:=h.s i hi
   have hsj:=h.s j hj
   rw[nSum6] at hs hsi hsj ⊢
   try dsimp only at hs hsi hsj ⊢
   rw[bgAt_pour hi hj hk (by omega),bgAt_pour hi hj hk (by omega),bgAt_pour hi hj hk (by omega),bgAt_pour hi hj hk (by omega),bgAt_pour hi hj hk (by omega),bgAt_pour hi hj hk (by omega)]
   by_cases e:k=j
   · subst e
     rw[if_neg (Ne.symm hij)]
     simp only[if_true]
     omega
   · by_cases e2:k=i
     · subst e2
       simp only[e,if_false,if_true];rfl
     · simp only[e,e2,if_false]
       exact hs
def sumB (b:List Int):Int:=atI b 0+atI b 1+atI b 2+atI b 3
theorem sumB_set {b:List Int} (hb:b.length=4) {i x:Int} (hi:0≤i∧i≤3):sumB (setI b i (atI b i+x))=sumB b+x:=by
 unfold sumB
 rw[atI_set hb hi (by omega),atI_set hb hi (by omega),atI_set hb hi (by omega),atI_set hb hi (by omega)]
 rcases (by omega:i=0∨i=1∨i=2∨i=3) with rfl | rfl | rfl | rfl
 all_goals simp only[Int.reduceEq,if_true,if_false]
 all_goals omega
theorem setI_len {b:List Int} (hb:b.length=4) (i v:Int):(setI b i v).length=4:=by unfold setI;rw[List.length_set];exact hb
def spB (x:Sp) (b:List Int):List Int:=
 if x.2.1=true then setI b x.1.bag (atI b x.1.bag+ -1)
 else if x.1.kind=2 then setI b x.1.bag (atI b x.1.bag+x.1.count)
 else if x.1.kind=3 then setI (setI b x.1.other (atI b x.1.other+atI b x.1.bag)) x.1.bag 0 else b
def spM (x:Sp) (m:Int):Int:=if x.2.1=true then m else if x.1.kind=2 then m+x.1.count else m
structure spOK (n:Nat) (b:List Int) (m:Int) (x:Sp):Prop where
 d:x.2.1=true→(0≤x.1.bag∧x.1.bag≤3)∧1≤atI b x.1.bag
 h2:x.2.1=false→x.1.kind=2→(0≤x.1.bag∧x.1.bag≤3)∧(0≤x.1.wood∧x.1.wood<n)∧1≤x.1.count∧m+x.1.count≤12
 h3:x.2.1=false→x.1.kind=3→(0≤x.1.bag∧x.1.bag≤3)∧(0≤x.1.other∧x.1.other≤3)∧x.1.bag≠x.1.other
def runOK (n:Nat):List Sp→List Int→Int→Prop
 | [],_,_=>True
 | x::r,b,m=>spOK n b m x∧runOK n r (spB x b) (spM x m)
structure tbIn (b:List Int) (m:Int):Prop where
 l:b.length=4
 nn:∀i:Int,0≤i∧i≤3→0≤atI b i
 sm:sumB b≤m
 m:0≤m∧m≤12
theorem tbIn.le {b:List Int} {m:Int} (h:tbIn b m) {i:Int} (hi:0≤i∧i≤3):atI b i≤sumB b:=by
 have h0:=h.nn 0 (by omega)
 have h1:=h.nn 1 (by omega)
 have h2:=h.nn 2 (by omega)
 have h3:=h.nn 3 (by omega)
 unfold sumB
 rcases (by omega:i=0∨i=1∨i=2∨i=3) with rfl | rfl | rfl | rfl<;>omega
theorem tbIn.set {b:List Int} {m m' x i:Int} (h:tbIn b m) (hi:0≤i∧i≤3) (h0:0≤atI b i+x) (h1:sumB b+x≤m') (h2:0≤m'∧m'≤12):tbIn (setI b i (atI b i+x)) m':=by
 refine⟨setI_len h.l _ _,fun k hk=>?_,by rw[sumB_set h.l hi];exact h1,h2⟩
 rw[atI_set h.l hi hk]
 split
 · exact h0
 · exact h.nn k hk
theorem tbIn.pour {b:List Int} {m i j:Int} (h:tbIn b m) (hi:0≤i∧i≤3) (hj:0≤j∧j≤3) (hij:i≠j):tbIn (setI (setI b j (atI b j+atI b i)) i 0) m∧sumB (setI (setI b j (atI b j+atI b i)) i 0)=sumB b:=by
 have hl:=setI_len h.l j (atI b j+atI b i)
 have he:atI (setI b j (atI b j+atI b i)) i=atI b i:=by rw[atI_set h.l hj hi,if_neg hij]
 have hs:sumB (setI (setI b j (atI b j+atI b i)) i 0)=sumB b:=by
  have:=sumB_set (x:= -atI b i) hl hi
  rw[he,sumB_set h.l hj] at this
  rw[show atI b i+ -atI b i=0 by omega] at this
  rw[this];omega
 refine⟨⟨setI_len hl _ _,fun k hk=>?_,by rw[hs];exact h.sm,h.m⟩,hs⟩
 rw[atI_set hl hi hk]
 split
 · exact Int.le_refl _
 · rw[atI_set h.l hj hk]
   split
   · have:=h.nn j hj;have:=h.nn i hi;omega
   · exact h.nn k hk
theorem tbIn.step {n:Nat} {b:List Int} {m:Int} {x:Sp} (h:tbIn b m) (hx:spOK n b m x):tbIn (spB x b) (spM x m)∧sumB (spB x b)-spM x m=sumB b-m-(if x.2.1=true then 1 else 0):=by
 unfold spB spM
 by_cases h1:x.2.1=true
 · obtain⟨hb,ha⟩:=hx.d h1
   rw[if_pos h1,if_pos h1,if_pos h1,sumB_set h.l hb]
   exact⟨h.set hb (by omega) (by have:=h.sm;omega) h.m,by omega⟩
 · have h1f:x.2.1=false:=by simpa using h1
   rw[if_neg h1,if_neg h1,if_neg h1]
   by_cases h2:x.1.kind=2
   · obtain⟨hb,hw,hc,hm⟩:=hx.h2 h1f h2
     rw[if_pos h2,if_pos h2,sumB_set h.l hb]
     have:=h.nn _ hb
     have:=h.sm
     have:=h.m
     exact⟨h.set hb (by omega) (by omega) (by omega),by omega⟩
   · rw[if_neg h2,if_neg h2]
     by_cases h3:x.1.kind=3
     · obtain⟨hb,ho,hne⟩:=hx.h3 h1f h3
       rw[if_pos h3]
       obtain⟨k1,k2⟩:=h.pour hb ho hne
       exact⟨k1,by rw[k2];omega⟩
     · rw[if_neg h3]
       exact⟨h,by omega⟩
structure invB (n:Nat) (l:List Sp) (W:Wt) (b:List Int) (m:Int):Prop where
 t:tbIn b m
 run:runOK n l b m
 pos:∀y∈W,0<y.2
 key:∀y∈W,bgT n b y.1
 bd:sumW W (fun _=>1)*fct (sumB b+12-m).toNat≤fct 12
def invW (n:Nat) (l:List Sp) (W:Wt):Prop:=∃b m,invB n l W b m
theorem sumW_const (c:Int):∀W:Wt,sumW W (fun _=>c)=c*sumW W fun _=>1
 | []=>by show (0:Int)=c*0;omega
 | (B,n)::r=>by
   show n*c+sumW r (fun _=>c)=c*(n*1+sumW r fun _=>1)
   rw[sumW_const c r,Int.mul_add,Int.mul_one,Int.mul_comm]
theorem invB.ways {n:Nat} {l:List Sp} {W:Wt} {b:List Int} {m:Int} (h:invB n l W b m):0≤sumW W (fun _=>1)∧sumW W (fun _=>1)≤fct 12:=by
 have h0:=sumW_nn (W:=W) (V:=fun _=>1) h.pos fun _ _=>by decide
 refine⟨h0,?_⟩
 have h1:=Int.mul_le_mul_of_nonneg_left (fct_pos (sumB b+12-m).toNat) h0
 have:=h.bd
 omega
theorem invB.draw {n:Nat} {x:Sp} {l:List Sp} {W:Wt} {b:List Int} {m:Int} (h:invB n (x::l) W b m) (hn:n≤6) {w:Nat} (hw:w<n) (hd:x.2.1=true) (y:List Int×Int) (hy:y∈W):(0≤nSum n (fun w=>bgAt y.1 x.1.bag w)∧nSum n (fun w=>bgAt y.1 x.1.bag w)≤atI b x.1.bag)∧0≤bgAt y.1 x.1.bag w∧bgAt y.1 x.1.bag w≤atI b x.1.bag:=by
 obtain⟨hb,ha⟩:=h.run.1.d hd
 have hk:=h.key y hy
 rw[hk.sum hn hb]
 exact⟨⟨by omega,Int.le_refl _⟩,hk.at hb (by omega)⟩
theorem nextV_bd {n:Nat} {x:Sp} {l:List Sp} {W:Wt} {b:List Int} {m:Int} (h:invB n (x::l) W b m) (hn:n≤6) {w:Nat} (hw:w<n):sumW W (nextV x w n fun _=>1)≤(if x.2.1=true then atI b x.1.bag else 1)*sumW W fun _=>1:=by
 rw[←sumW_const]
 refine sumW_le h.pos fun y hy=>?_
 show nextV x w n (fun _=>1) y.1≤_
 unfold nextV
 by_cases hd:x.2.1=true
 · obtain⟨h1,h2⟩:=h.draw hn hw hd y hy
   rw[if_pos hd,if_pos hd]
   split
   · rw[Int.mul_one];exact h2.2
   · rw[nSum_congr fun k _=>Int.mul_one _];exact h1.2
 · rw[if_neg hd,if_neg hd]
   split
   · decide
   · exact Int.le_refl _
theorem invW_sr (n:Nat) (hn:n≤6):SrI n (invW n):=by
 have h12:=fct12
 refine⟨?_,?_,?_,?_⟩
 · rintro l W ⟨b,m,h⟩;exact h.pos
 · rintro l W ⟨b,m,h⟩;have:=h.ways;omega
 · rintro x r W w ⟨b,m,h⟩ hne hw
   have hwy:=h.ways
   have hx:=h.run.1
   refine⟨h.pos,fun y hy=>⟨(h.key y hy).l,fun v hv=>?_⟩,by omega,hn,by omega,fun hd=>?_,fun h1 h2=>?_,fun h1 h3=>?_⟩
   · have hk:=h.key y hy
     obtain⟨p,hp,rfl⟩:=List.getElem_of_mem hv
     have hp24:p<24:=by rw[←hk.l];exact hp
     have hi:(0:Int)≤(p/6:Nat)∧((p/6:Nat):Int)≤3:=by omega
     have:=hk.at hi (w:=(p%6:Nat)) (by omega)
     have h2:=h.t.le hi
     have h3:=h.t.sm
     have h4:=h.t.m
     have e:bgAt y.1 (p/6:Nat) (p%6:Nat)=y.1[p]:=by
      unfold bgAt
      rw[Int.toNat_natCast,Int.toNat_natCast,show p/6*6+p%6=p by omega,List.getD_eq_getElem?_getD,List.getElem?_eq_getElem hp];rfl
     rw[e] at this
     omega
   · obtain⟨hb,ha⟩:=hx.d hd
     have hc:atI b x.1.bag≤12:=by have:=h.t.le hb;have:=h.t.sm;have:=h.t.m;omega
     have h0:sumW W (fun _=>(12:Int))=12*sumW W fun _=>1:=sumW_const 12 W
     have h1:=sumW_le (W:=W) (V:=fun B=>nSum n fun w=>bgAt B x.1.bag w) (U:=fun _=>12) h.pos fun y hy=>by have:=h.draw hn hw hd y hy;omega
     have h2:=sumW_le (W:=W) (V:=fun B=>bgAt B x.1.bag w) (U:=fun _=>12) h.pos fun y hy=>by have:=h.draw hn hw hd y hy;omega
     exact⟨hb,by omega,by omega⟩
   · obtain⟨hb,hw2,hc,hm⟩:=hx.h2 h1 h2
     have:=h.t.m
     exact⟨hb,by omega,by omega,by omega⟩
   · exact hx.h3 h1 h3
 · rintro x r W W' w ⟨b,m,h⟩ hne hw hW'
   have hx:=h.run.1
   obtain⟨ht,hs⟩:=h.t.step hx
   refine⟨spB x b,spM x m,ht,h.run.2,hW'.pos,fun y hy=>?_,?_⟩
   · obtain⟨z,hz,hzy⟩:=hW'.key y hy
     have hk:=h.key z hz
     unfold nextB at hzy
     unfold spB
     by_cases hd:x.2.1=true
     · obtain⟨hb,ha⟩:=hx.d hd
       rw[if_pos hd] at hzy ⊢
       by_cases hc:x.2.2=true
       · rw[if_pos hc] at hzy
         rw[hzy.2]
         exact hk.add h.t.l hn hb (by omega) (by omega)
       · rw[if_neg hc] at hzy
         obtain⟨w',hw',h1,h2⟩:=hzy
         rw[h2]
         exact hk.add h.t.l hn hb (by omega) (by omega)
     · have hdf:x.2.1=false:=by simpa using hd
       rw[if_neg hd] at hzy ⊢
       rw[hzy]
       unfold mixedB
       by_cases h2:x.1.kind=2
       · obtain⟨hb,hw2,hc,hm⟩:=hx.h2 hdf h2
         rw[if_pos h2,if_pos h2]
         exact hk.add h.t.l hn hb hw2 (by have:=bgAt_nn hk.nn x.1.bag x.1.wood;omega)
       · rw[if_neg h2,if_neg h2]
         by_cases h3:x.1.kind=3
         · obtain⟨hb,ho,hne⟩:=hx.h3 hdf h3
           rw[if_pos h3,if_pos h3]
           exact hk.pour h.t.l hb ho hne
         · rw[if_neg h3,if_neg h3];exact hk
   · have hS:=hW'.sum fun _=>1
     have hb:=nextV_bd h hn hw
     rw[←hS] at hb
     have hwy:=h.ways
     have hbd:=h.bd
     by_cases hd:x.2.1=true
     · obtain⟨hbg,ha⟩:=hx.d hd
       rw[if_pos hd] at hb hs
       have hle:=h.t.le hbg
       have hsm:=h.t.sm
       have hm:=h.t.m
       obtain⟨k,hk⟩:∃k:Nat,(sumB b+12-m).toNat=k+1:=⟨(sumB b+12-m).toNat-1,by omega⟩
       have hk2:(sumB (spB x b)+12-spM x m).toNat=k:=by omega
       rw[hk2]
       rw[hk] at hbd
       have e1:sumW W' (fun _=>1)≤((k+1:Nat):Int)*sumW W fun _=>1:=by
        have:=Int.mul_le_mul_of_nonneg_right (show atI b x.1.bag≤((k+1:Nat):Int) by omega) hwy.1
        omega
       have e2:=Int.mul_le_mul_of_nonneg_right e1 (show 0≤fct k by have:=fct_pos k;omega)
       have e3:((k+1:Nat):Int)*sumW W (fun _=>1)*fct k=sumW W (fun _=>1)*fct (k+1):=by
        show _=sumW W (fun _=>1)*(((k+1:Nat):Int)*fct k)
        rw[Int.mul_comm ((k+1:Nat):Int),Int.mul_assoc]
       omega
     · rw[if_neg hd] at hb hs
       rw[Int.one_mul] at hb
       have hk2:(sumB (spB x b)+12-spM x m).toNat=(sumB b+12-m).toNat:=by omega
       rw[hk2]
       have e2:=Int.mul_le_mul_of_nonneg_right hb (show 0≤fct (sumB b+12-m).toNat by have:=fct_pos (sumB b+12-m).toNat;omega)
       omega
theorem mix_0 {n:Nat} {d:Dl} {t:Tb} (h0:mixE n d t=0):inB d.bag 0 3=true∧inB d.wood 0 (n-1)=true∧inB d.count 1 12=true∧ ¬12<t.mixed+d.count:=by
 unfold mixE at h0
 by_cases h1:inB d.bag 0 3=true
 · rw[if_pos h1] at h0
   by_cases h2:inB d.wood 0 (n-1)=true
   · rw[if_pos h2] at h0
     by_cases h3:inB d.count 1 12=true
     · rw[if_pos h3] at h0
       by_cases h4:12<t.mixed+d.count
       · rw[if_pos h4] at h0;exact absurd h0 (by decide)
       · exact⟨h1,h2,h3,h4⟩
     · rw[if_neg h3] at h0;exact absurd h0 (by decide)
   · rw[if_neg h2] at h0;exact absurd h0 (by decide)
 · rw[if_neg h1] at h0;exact absurd h0 (by decide)
theorem pour_0 {d:Dl} (h0:pourE d=0):(inB d.bag 0 3=true∧inB d.other 0 3=true)∧d.bag≠d.other:=by
 unfold pourE at h0
 by_cases h1:inB d.bag 0 3=true∧inB d.other 0 3=true
 · rw[if_pos h1] at h0
   by_cases h2:d.bag=d.other
   · rw[if_pos h2] at h0;exact absurd h0 (by decide)
   · exact⟨h1,h2⟩
 · rw[if_neg h1] at h0;exact absurd h0 (by decide)
theorem pass_0 {d:Dl} {t:Tb} (h0:passE d t=0):asideE d t=0:=by
 unfold passE at h0
 by_cases h1:asideE d t=0
 · exact h1
 · rw[if_neg h1] at h0;exact h0
theorem place_0 {n:Nat} {d:Dl} {t:Tb} (h0:placeE n d t=0):inB d.wood 0 (n-1)=true:=by
 unfold placeE at h0
 by_cases h1:inB d.wood 0 (n-1)=true
 · exact h1
 · rw[if_neg h1] at h0;exact absurd h0 (by decide)
theorem tbOK.tin {t:Tb} (h:tbOK t):tbIn t.bags t.mixed:=by
 have hb:=h.b
 refine⟨hb,fun i hi=>?_,?_,h.m⟩
 · unfold atI
   rw[List.getD_eq_getElem?_getD]
   cases hh:t.bags[i.toNat]? with
   | none=>exact Int.le_refl _
   | some v=>exact h.nn v (List.mem_of_getElem? hh)
 · have hs:=h.s
   obtain⟨bags,m,c,tr⟩:=t
   dsimp only at hb hs ⊢
   rcases bags with _ | ⟨a0,_ | ⟨a1,_ | ⟨a2,_ | ⟨a3,_ | ⟨a4,r⟩⟩⟩⟩⟩
   all_goals first
    | (simp at hb;done)
    | (simp only[List.sum_cons,List.sum_nil] at hs
       show a0+a1+a2+a3≤m
       omega)
theorem set_self {b:List Int} {i:Nat} (h:i<b.length):b.set i (b.getD i 0)=b:=by
 apply List.ext_getElem?
 intro j
 rw[List.getElem?_set]
 by_cases e:i=j
 · subst e
   rw[if_pos rfl,if_pos h,List.getD_eq_getElem?_getD,List.getElem?_eq_getElem h];rfl
 · rw[if_neg e]
theorem run_rep {n:Nat} {d:Dl} {z:Bool} {r:List Sp} {m:Int}:∀(c:Nat) (b:List Int),b.length=4→(0≤d.bag∧d.bag≤3)→(c:Int)≤atI b d.bag→runOK n r (setI b d.bag (atI b d.bag-c)) m→runOK n (List.replicate c (d,true,z)++r) b m
 | 0,b,hb,hd,_,h=>by
   have e:setI b d.bag (atI b d.bag-((0:Nat):Int))=b:=by
    rw[show atI b d.bag-((0:Nat):Int)=atI b d.bag by omega]
    exact set_self (by omega)
   rw[e] at h
   exact h
 | c+1,b,hb,hd,hc,h=>by
   refine⟨⟨fun _=>⟨hd,by show 1≤atI b d.bag;omega⟩,(fun h=>by cases h),(fun h=>by cases h)⟩,?_⟩
   have e1:atI (setI b d.bag (atI b d.bag+ -1)) d.bag=atI b d.bag+ -1:=by rw[atI_set hb hd hd,if_pos rfl]
   refine run_rep c (setI b d.bag (atI b d.bag+ -1)) (setI_len hb _ _) hd (by rw[e1];omega) ?_
   rw[e1]
   have e2:setI (setI b d.bag (atI b d.bag+ -1)) d.bag (atI b d.bag+ -1-(c:Nat))=setI b d.bag (atI b d.bag-((c+1:Nat):Int)):=by
    unfold setI
    rw[List.set_set]
    congr 1
    omega
   rw[e2];exact h
theorem censG_app (l r:List Sp):censG (l++r)=censG l+censG r:=by simp[censG,List.filter_append]
theorem censG_rep (c:Nat) (d:Dl) (z:Bool):censG (List.replicate c (d,true,z))=if z=true then c else 0:=by
 cases z<;>simp[censG]
theorem deal_run {n:Nat} {d:Dl} {t:Tb} {r:List Sp} (h:tbOK t) (hk:inB d.kind 1 6=true) (h0:dealE n d t=0) (hr:runOK n r (dealT d t).bags (dealT d t).mixed):
  (drawsB d=true→1≤d.count∧d.count≤12)∧runOK n (stp1 d++r) t.bags t.mixed∧(dealT d t).cens=t.cens+(censG (stp1 d):Nat):=by
 have hb:=h.b
 obtain⟨k1,k2⟩:=inB_t.1 hk
 unfold dealE at h0
 by_cases e1:d.kind=1
 · have ed:drawsB d=false:=by simp[drawsB,e1]
   have es:stp1 d=[(d,false,false)]:=by unfold stp1;rw[ed,e1];rfl
   have et:dealT d t={t with tried:=t.tried.set d.wood.toNat true }:=by unfold dealT;rw[if_pos e1]
   rw[et] at hr ⊢
   rw[ed,es]
   refine⟨fun h=>(by cases h),⟨⟨(fun h=>by cases h),fun _ h=>by dsimp only at h;omega,fun _ h=>by dsimp only at h;omega⟩,?_⟩,by simp[censG]⟩
   simp only[spB,spM,e1,Bool.false_eq_true,if_false,Int.reduceEq]
   exact hr
 rw[if_neg e1] at h0
 by_cases e2:d.kind=2
 · rw[if_pos e2] at h0
   obtain⟨h1,h2,h3,h4⟩:=mix_0 h0
   have:=inB_t.1 h1
   have:=inB_t.1 h2
   have:=inB_t.1 h3
   have ed:drawsB d=false:=by simp[drawsB,e2]
   have es:stp1 d=[(d,false,false)]:=by unfold stp1;rw[ed,e2];rfl
   have et:dealT d t={t with mixed:=t.mixed+d.count,bags:=setI t.bags d.bag (atI t.bags d.bag+d.count) }:=by unfold dealT;rw[if_neg e1,if_pos e2]
   rw[et] at hr ⊢
   rw[ed,es]
   refine⟨fun h=>(by cases h),⟨⟨(fun h=>by cases h),fun _ _=>⟨by assumption,by dsimp only;omega,by dsimp only;omega,by dsimp only;omega⟩,fun _ h=>by dsimp only at h;omega⟩,?_⟩,by simp[censG]⟩
   simp only[spB,spM,e2,Bool.false_eq_true,if_false,if_true]
   exact hr
 rw[if_neg e2] at h0
 by_cases e3:d.kind=3
 · rw[if_pos e3] at h0
   obtain⟨⟨h1,h2⟩,h3⟩:=pour_0 h0
   have ed:drawsB d=false:=by simp[drawsB,e3]
   have es:stp1 d=[(d,false,false)]:=by unfold stp1;rw[ed,e3];rfl
   have et:dealT d t={t with bags:=setI (setI t.bags d.other (atI t.bags d.other+atI t.bags d.bag)) d.bag 0 }:=by unfold dealT;rw[if_neg e1,if_neg e2,if_pos e3]
   rw[et] at hr ⊢
   rw[ed,es]
   refine⟨fun h=>(by cases h),⟨⟨(fun h=>by cases h),fun _ h=>by dsimp only at h;omega,fun _ _=>⟨inB_t.1 h1,inB_t.1 h2,h3⟩⟩,?_⟩,by simp[censG]⟩
   simp only[spB,spM,e3,Bool.false_eq_true,if_false,if_true,Int.reduceEq]
   exact hr
 rw[if_neg e3] at h0
 by_cases e4:d.kind=4
 · rw[if_pos e4] at h0
   obtain⟨h1,h2,h3⟩:=aside_0 h0
   have hc:=inB_t.1 h1
   have hbg:=inB_t.1 h2
   have ed:drawsB d=true:=by simp[drawsB,e4]
   have es:stp1 d=List.replicate d.count.toNat (d,true,false):=by unfold stp1;rw[ed,e4];rfl
   have et:dealT d t={t with bags:=setI t.bags d.bag (atI t.bags d.bag-d.count) }:=by unfold dealT;rw[if_neg e1,if_neg e2,if_neg e3,if_pos e4]
   rw[et] at hr ⊢
   rw[es]
   refine⟨fun _=>hc,run_rep _ _ hb hbg (by omega) ?_,by rw[censG_rep];simp⟩
   rw[show ((d.count.toNat:Nat):Int)=d.count by omega]
   exact hr
 rw[if_neg e4] at h0
 by_cases e5:d.kind=5
 · rw[if_pos e5] at h0
   obtain⟨h1,h2,h3⟩:=aside_0 (pass_0 h0)
   have hc:=inB_t.1 h1
   have hbg:=inB_t.1 h2
   have ed:drawsB d=true:=by simp[drawsB,e5]
   have es:stp1 d=List.replicate d.count.toNat (d,true,true):=by unfold stp1;rw[ed,e5];rfl
   have et:dealT d t={t with bags:=setI t.bags d.bag (atI t.bags d.bag-d.count),cens:=t.cens+d.count }:=by unfold dealT;rw[if_neg e1,if_neg e2,if_neg e3,if_neg e4,if_pos e5]
   rw[et] at hr ⊢
   rw[es]
   refine⟨fun _=>hc,run_rep _ _ hb hbg (by omega) ?_,by rw[censG_rep,if_pos rfl];show t.cens+d.count=_;omega⟩
   rw[show ((d.count.toNat:Nat):Int)=d.count by omega]
   exact hr
 · have e6:d.kind=6:=by omega
   have ed:drawsB d=false:=by simp[drawsB,e6]
   have es:stp1 d=[(d,false,true)]:=by unfold stp1;rw[ed,e6];rfl
   have et:dealT d t={t with cens:=t.cens+1 }:=by unfold dealT;rw[if_neg e1,if_neg e2,if_neg e3,if_neg e4,if_neg e5]
   rw[et] at hr ⊢
   rw[ed,es]
   refine⟨fun h=>(by cases h),⟨⟨(fun h=>by cases h),fun _ h=>by dsimp only at h;omega,fun _ h=>by dsimp only at h;omega⟩,?_⟩,by simp[censG]⟩
   simp only[spB,spM,e6,Bool.false_eq_true,if_false,Int.reduceEq]
   exact hr
theorem deals_run {n:Nat}:∀(l:List Dl) (t:Tb),tbOK t→dsErr n t l=0→(∀d∈l,drawsB d=true→1≤d.count∧d.count≤12)∧runOK n (stepsG l) t.bags t.mixed∧(dsTab t l).cens=t.cens+(censG (stepsG l):Nat)
 | [],t,_,_=>⟨(fun d hd=>by cases hd),trivial,by show t.cens=t.cens+0;omega⟩
 | d::r,t,h,h0=>by
   rw[dsErr] at h0
   by_cases hd:dlErr n d t=0
   · rw[if_pos hd] at h0
     have hd2:=hd
     unfold dlErr at hd2
     by_cases hk:inB d.kind 1 6=true
     · rw[if_pos hk] at hd2
       by_cases hf:formD d=true
       · rw[if_pos hf] at hd2
         obtain⟨i1,i2,i3⟩:=deals_run r (dealT d t) (dealT_ok hk h hd2) h0
         obtain⟨j1,j2,j3⟩:=deal_run h hk hd2 i2
         refine⟨fun x hx=>?_,j2,?_⟩
         · rcases List.mem_cons.1 hx with rfl | hx
           · exact j1
           · exact i1 x hx
         · show (dsTab (dealT d t) r).cens=t.cens+((censG (stp1 d++stepsG r):Nat):Int)
           rw[i3,j3,censG_app];omega
       · rw[if_neg hf] at hd2;exact absurd hd2 (by decide)
     · rw[if_neg hk] at hd2;exact absurd hd2 (by decide)
   · rw[if_neg hd] at h0;exact absurd h0 hd
theorem bg0_at (i w:Int):bgAt bg0 i w=0:=by
 unfold bgAt bg0
 rw[List.getD_eq_getElem?_getD,List.getElem?_replicate]
 split<;>rfl
theorem gmOK {G:Gm} (h:gmErr G=0):GmIn G (invW G.ws.length):=by
 unfold gmErr at h
 by_cases h1:G.ws=[]
 · rw[if_pos h1] at h;exact absurd h (by decide)
 rw[if_neg h1] at h
 by_cases h2:6<G.ws.length
 · rw[if_pos h2] at h;exact absurd h (by decide)
 rw[if_neg h2] at h
 by_cases h3:wsErr [] G.ws=0
 rotate_left
 · rw[if_neg h3] at h;exact absurd h h3
 rw[if_pos h3] at h
 by_cases h4:24<G.ds.length
 · rw[if_pos h4] at h;exact absurd h (by decide)
 rw[if_neg h4] at h
 by_cases h5:dsErr G.ws.length tb0 G.ds=0
 rotate_left
 · rw[if_neg h5] at h;exact absurd h h5
 rw[if_pos h5] at h
 by_cases h6:(dsTab tb0 G.ds).cens=0
 · rw[if_pos h6] at h;exact absurd h (by decide)
 obtain⟨i1,i2,i3⟩:=deals_run G.ds tb0 tb0_ok h5
 have hw0:G.ws.length≠0:=fun e=>h1 (List.eq_nil_of_length_eq_zero e)
 have hc0:tb0.cens=0:=rfl
 refine⟨by omega,by omega,by omega,i1,by omega,invW_sr _ (by omega),tb0.bags,tb0.mixed,tb0_ok.tin,i2,?_,?_,?_⟩
 · intro y hy;rw[List.mem_singleton.1 hy];decide
 · intro y hy;rw[List.mem_singleton.1 hy]
   refine⟨rfl,fun v hv=>?_,fun i w _ _=>bg0_at i w,fun i hi=>?_⟩
   · rw[(List.mem_replicate.1 hv).2];decide
   · rw[nSum6,bg0_at,bg0_at,bg0_at,bg0_at,bg0_at,bg0_at]
     rcases (by omega:i=0∨i=1∨i=2∨i=3) with rfl | rfl | rfl | rfl<;>rfl
 · decide
def rowB (B:List Int) (i:Int):List Int:=(List.range 6).map fun (w:Nat)=>bgAt B i w
theorem rowB_len (B:List Int) (i:Int):(rowB B i).length=6:=by simp[rowB]
theorem rowB_get (B:List Int) (i:Int) {w:Nat} (h:w<6):(rowB B i).getD w 0=bgAt B i w:=by
 unfold rowB
 rw[List.getD_eq_getElem?_getD,List.getElem?_map,List.getElem?_range h];rfl
theorem rowB_nn {B:List Int} (h:∀v∈B,0≤v) (i:Int):∀v∈rowB B i,0≤v:=fun v hv=>by
 obtain⟨w,_,rfl⟩:=List.mem_map.1 hv
 exact bgAt_nn h i w
def pickF:List Int→Int→Nat
 | [],_=>0
 | k::r,p=>if p<k then 0 else pickF r (p-k)+1
def pickW (B:List Int) (i p:Int):Int:=(pickF (rowB B i) p:Nat)
def drawN (l:List Sp):Nat:=(l.filter fun x=>x.2.1).length
def playS:List Sp→List Int→List Int→List Int→Option (List Int)
 | [],_,_,c=>some c
 | x::r,B,ps,c=>if x.2.1=true then (match ps with
    | []=>none
    | p::ps=>if 0≤p∧p<bgSize B x.1.bag then playS r (drawB B x.1.bag (pickW B x.1.bag p)) ps (if x.2.2=true then c++[pickW B x.1.bag p] else c) else none)
   else playS r (mixedB x.1 B) ps (if x.2.2=true then c++[x.1.wood] else c)
theorem playS_f {x:Sp} {r:List Sp} {B ps c:List Int} (h:¬x.2.1=true):playS (x::r) B ps c=playS r (mixedB x.1 B) ps (if x.2.2=true then c++[x.1.wood] else c):=by
 show (if x.2.1=true then _ else _)=_
 rw[if_neg h]
theorem playS_t {x:Sp} {r:List Sp} {B ps c:List Int} {p:Int} (h:x.2.1=true):playS (x::r) B (p::ps) c=if 0≤p∧p<bgSize B x.1.bag then playS r (drawB B x.1.bag (pickW B x.1.bag p)) ps (if x.2.2=true then c++[pickW B x.1.bag p] else c) else none:=by
 show (if x.2.1=true then _ else _)=_
 rw[if_pos h]
theorem drawN_app (l r:List Sp):drawN (l++r)=drawN l+drawN r:=by simp[drawN]
theorem drawN_rep (c:Nat) (d:Dl) (z:Bool):drawN (List.replicate c (d,true,z))=c:=by simp[drawN]
def playO (G:Gm) (ps:List Int):List Int×Int:=
 if gmErr G=0 then (if ps.length=drawN (stepsG G.ds) then (match playS (stepsG G.ds) bg0 ps [] with
  | some c=>(c,0)
  | none=>([],2))   else ([],3)) else ([],gmErr G)
theorem bgT.size {n:Nat} {b B:List Int} (h:bgT n b B) {i:Int} (hi:0≤i∧i≤3):bgSize B i=atI b i:=by
 rw[←h.s i hi,nSum6]
 show bgAt B i 0+(bgAt B i 1+(bgAt B i 2+(bgAt B i 3+(bgAt B i 4+(bgAt B i 5+0)))))=_
 omega
theorem bgT.lt {n:Nat} {b B:List Int} (h:bgT n b B) {i w:Int} (hi:0≤i∧i≤3) (hw:0≤w∧w≤5) (hp:0<bgAt B i w):w<n:=by
 apply Int.not_le.1
 intro hle
 have:=h.z i w hi ⟨hle,hw.2⟩
 omega
theorem bgT.draw {n:Nat} {b B:List Int} (h:bgT n b B) (hb:b.length=4) (hn:n≤6) {i w:Int} (hi:0≤i∧i≤3) (hw:0≤w∧w≤5) (hp:0<bgAt B i w):bgT n (setI b i (atI b i+ -1)) (drawB B i w):=
 h.add hb hn hi ⟨hw.1,h.lt hi hw hp⟩ (by omega)
theorem bgT.mix {n:Nat} {b B:List Int} {m:Int} (h:bgT n b B) (hb:b.length=4) (hn:n≤6) {x:Sp} (hx:spOK n b m x) (hd:x.2.1=false):bgT n (spB x b) (mixedB x.1 B):=by
 unfold spB mixedB
 rw[hd]
 simp only[Bool.false_eq_true,if_false]
 by_cases h2:x.1.kind=2
 · obtain⟨hb',hw,hc,hm⟩:=hx.h2 hd h2
   rw[if_pos h2,if_pos h2]
   exact h.add hb hn hb' hw (by have:=bgAt_nn h.nn x.1.bag x.1.wood;omega)
 · rw[if_neg h2,if_neg h2]
   by_cases h3:x.1.kind=3
   · obtain⟨hb',ho,hne⟩:=hx.h3 hd h3
     rw[if_pos h3,if_pos h3]
     exact h.pour hb hb' ho hne
   · rw[if_neg h3,if_neg h3];exact h
def cntG (n:Nat):List Sp→List Int→List Int→Int
 | [],c,_=>if c=[] then 1 else 0
 | x::r,c,B=>if x.2.2=true then (match c with
    | []=>0
    | w::c=>nextV x w n (cntG n r c) B) else nextV x 0 n (cntG n r c) B
theorem cntG_0 (n:Nat) (c B:List Int):cntG n [] c B=if c=[] then 1 else 0:=by unfold cntG;rfl
theorem cntG_f {n:Nat} {x:Sp} {r:List Sp} {c B:List Int} (h:¬x.2.2=true):cntG n (x::r) c B=nextV x 0 n (cntG n r c) B:=by
 show (if x.2.2=true then _ else _)=_
 rw[if_neg h]
theorem cntG_t {n:Nat} {x:Sp} {r:List Sp} {w:Int} {c B:List Int} (h:x.2.2=true):cntG n (x::r) (w::c) B=nextV x w n (cntG n r c) B:=by
 show (if x.2.2=true then _ else _)=_
 rw[if_pos h]
theorem cntG_n {n:Nat} {x:Sp} {r:List Sp} {B:List Int} (h:x.2.2=true):cntG n (x::r) [] B=0:=by
 show (if x.2.2=true then _ else _)=_
 rw[if_pos h]
def nnB (B:List Int):Prop:=∀v∈B,0≤v
def stOK (l:List Sp):Prop:=∀x∈l,x.2.1=false→x.1.kind=2→0≤x.1.count
theorem nn_getD {B:List Int} (h:nnB B) (p:Nat):0≤B.getD p 0:=by
 rw[List.getD_eq_getElem?_getD]
 cases hh:B[p]? with
 | none=>exact Int.le_refl _
 | some v=>exact h v (List.mem_of_getElem? hh)
theorem nn_add {B:List Int} (h:nnB B) {i j x:Int} (hx:0≤bgAt B i j+x):nnB (bgAdd B i j x):=fun v hv=>by
 unfold bgAdd at hv
 rcases List.mem_or_eq_of_mem_set hv with hv | rfl
 · exact h v hv
 · exact hx
theorem nn_draw {B:List Int} (h:nnB B) {i j:Int} (hx:0<bgAt B i j):nnB (drawB B i j):=nn_add h (by omega)
theorem nn_pour {B:List Int} (h:nnB B) (i j:Int):nnB (bgPour B i j):=fun v hv=>by
 unfold bgPour at hv
 obtain⟨y,hy,rfl⟩:=List.mem_map.1 hv
 have:=nn_getD h y
 have:=nn_getD h (i.toNat*6+y%6)
 split
 · omega
 · split<;>omega
theorem nn_mix {B:List Int} (h:nnB B) {d:Dl} (hd:d.kind=2→0≤d.count):nnB (mixedB d B):=by
 unfold mixedB
 split
 · have:=bgAt_nn h d.bag d.wood
   have:=hd (by assumption)
   exact nn_add h (by omega)
 · split
   · exact nn_pour h _ _
   · exact h
theorem nn_drawV {V:List Int→Int} (hV:∀C,nnB C→0≤V C) {B:List Int} (hB:nnB B) (i w:Int):0≤bgAt B i w*V (drawB B i w):=by
 have h0:=bgAt_nn hB i w
 by_cases h:bgAt B i w=0
 · rw[h,Int.zero_mul];exact Int.le_refl _
 · exact Int.mul_nonneg h0 (hV _ (nn_draw hB (by omega)))
theorem nextV_nn {x:Sp} {V:List Int→Int} (hV:∀C,nnB C→0≤V C) {B:List Int} (hB:nnB B) (hx:x.2.1=false→x.1.kind=2→0≤x.1.count) (w:Int) (n:Nat):0≤nextV x w n V B:=by
 unfold nextV
 by_cases hd:x.2.1=true
 · rw[if_pos hd]
   split
   · exact nn_drawV hV hB _ _
   · exact nSum_nn fun k _=>nn_drawV hV hB _ _
 · rw[if_neg hd]
   split
   · exact Int.le_refl _
   · exact hV _ (nn_mix hB (hx (by simpa using hd)))
theorem cntG_nn (n:Nat):∀{l:List Sp},stOK l→ ∀(c:List Int) {B:List Int},nnB B→0≤cntG n l c B
 | [],_,c,B,_=>by rw[cntG_0];split<;>decide
 | x::r,h,c,B,hB=>by
   have hx:=h x (by simp)
   have hr:stOK r:=fun y hy=>h y (by simp[hy])
   by_cases hc:x.2.2=true
   · cases c with
     | nil=>rw[cntG_n hc];exact Int.le_refl _
     | cons w c=>rw[cntG_t hc];exact nextV_nn (fun C hC=>cntG_nn n hr c hC) hB hx w n
   · rw[cntG_f hc];exact nextV_nn (fun C hC=>cntG_nn n hr c hC) hB hx 0 n
def goodW (W:Wt):Prop:=∀y∈W,0<y.2∧nnB y.1
theorem good_app {W U:Wt} (h:goodW W) (g:goodW U):goodW (W++U):=fun y hy=>by
 rcases List.mem_append.1 hy with hy | hy
 · exact h y hy
 · exact g y hy
theorem step1 {m:Int} {B:List Int} (hm:0<m) (hB:nnB B) (i w:Int):∃W',goodW W'∧ ∀V,sumW W' V=m*(bgAt B i w*V (drawB B i w)):=by
 have h0:=bgAt_nn hB i w
 by_cases h:bgAt B i w=0
 · exact⟨[],(fun y hy=>by cases hy),fun V=>by rw[h,Int.zero_mul,Int.mul_zero];rfl⟩
 · refine⟨[(drawB B i w,m*bgAt B i w)],fun y hy=>?_,fun V=>?_⟩
   · rw[List.mem_singleton.1 hy];exact⟨Int.mul_pos hm (by omega),nn_draw hB (by omega)⟩
   · show m*bgAt B i w*V _+0=_
     rw[Int.add_zero,Int.mul_assoc]
theorem stepN {m:Int} {B:List Int} (hm:0<m) (hB:nnB B) (i:Int):∀n:Nat,∃W',goodW W'∧ ∀V,sumW W' V=m*nSum n fun w=>bgAt B i w*V (drawB B i w)
 | 0=>⟨[],(fun y hy=>by cases hy),fun V=>by show (0:Int)=m*0;rw[Int.mul_zero]⟩
 | n+1=>by
   obtain⟨W1,g1,h1⟩:=stepN hm hB i n
   obtain⟨W2,g2,h2⟩:=step1 hm hB i n
   exact⟨W1++W2,good_app g1 g2,fun V=>by rw[sumW_app,h1,h2,nSum,Int.mul_add]⟩
theorem stepWt {W:Wt} (hW:goodW W) {x:Sp} (hx:x.2.1=false→x.1.kind=2→0≤x.1.count) (w:Int) (n:Nat):∃W',goodW W'∧ ∀V,sumW W' V=sumW W (nextV x w n V):=by
 induction W with
 | nil=>exact⟨[],(fun y hy=>by cases hy),fun V=>rfl⟩
 | cons a r ih=>
   obtain⟨W2,g2,h2⟩:=ih fun y hy=>hW y (by simp[hy])
   obtain⟨hm,hB⟩:=hW a (by simp)
   suffices h:∃W1,goodW W1∧ ∀V,sumW W1 V=a.2*nextV x w n V a.1 by
    obtain⟨W1,g1,h1⟩:=h
    exact⟨W1++W2,good_app g1 g2,fun V=>by rw[sumW_app,h1,h2];rfl⟩
   unfold nextV
   by_cases hd:x.2.1=true
   · simp only[if_pos hd]
     by_cases hc:x.2.2=true
     · simp only[if_pos hc];exact step1 hm hB _ _
     · simp only[if_neg hc];exact stepN hm hB _ _
   · simp only[if_neg hd]
     by_cases hc:x.2.2=true∧x.1.wood≠w
     · simp only[if_pos hc];exact⟨[],(fun y hy=>by cases hy),fun V=>by rw[Int.mul_zero];rfl⟩
     · simp only[if_neg hc]
       refine⟨[(mixedB x.1 a.1,a.2)],fun y hy=>?_,fun V=>?_⟩
       · rw[List.mem_singleton.1 hy];exact⟨hm,nn_mix hB (hx (by simpa using hd))⟩
       · show a.2*V _+0=_
         rw[Int.add_zero]
theorem good_zero {W:Wt} (h:goodW W) (h0:sumW W (fun _=>1)=0):W=[]:=(sumW_nil fun y hy=>(h y hy).1).2 h0
theorem crs_eq (n:Nat):∀(l:List Sp),stOK l→ ∀(W:Wt),goodW W→ ∀c:List Int,crs n l (sumW W) c=((allL n (censG l)).filter fun s=>decide (0<sumW W (cntG n l s))).map fun s=>(c++s,sumW W (cntG n l s))
 | [],_,W,hW,c=>by
   have e:cntG n [] []=fun _=>1:=by funext B;rfl
   show crs n [] (sumW W) c=([[]].filter fun s=>decide (0<sumW W (cntG n [] s))).map _
   rw[crs]
   have h0:=sumW_nn (W:=W) (V:=fun _=>1) (fun y hy=>(hW y hy).1) fun _ _=>by decide
   by_cases h:sumW W (fun _=>1)=0
   · rw[if_pos h,List.filter_cons,e,h];rfl
   · rw[if_neg h,List.filter_cons,e,if_pos (by simp;omega)]
     simp[e]
 | x::r,hl,W,hW,c=>by
   have hx:=hl x (by simp)
   have hr:stOK r:=fun y hy=>hl y (by simp[hy])
   rw[crs]
   by_cases h:sumW W (fun _=>1)=0
   · rw[if_pos h,good_zero hW h]
     have:((allL n (censG (x::r))).filter fun s=>decide (0<sumW [] (cntG n (x::r) s)))=[]:=List.filter_eq_nil_iff.2 fun s _=>by simp[sumW]
     rw[this];rfl
   rw[if_neg h]
   have key:∀(w:Int) (c:List Int),crs n r (fun V=>sumW W (nextV x w n V)) c=((allL n (censG r)).filter fun s=>decide (0<sumW W (nextV x w n (cntG n r s)))).map fun s=>(c++s,sumW W (nextV x w n (cntG n r s))):=fun w c=>by
    obtain⟨W',g,hV⟩:=stepWt hW hx w n
    rw[show (fun V=>sumW W (nextV x w n V))=sumW W' from funext fun V=>(hV V).symm,crs_eq n r hr W' g c]
    simp only[hV]
   by_cases hc:x.2.2=true
   · rw[if_pos hc]
     have hk:censG (x::r)=censG r+1:=by simp[censG,hc]
     rw[hk]
     show _=(((List.range n).flatMap fun (w:Nat)=>(allL n (censG r)).map fun l=>(w:Int)::l).filter fun s=>decide (0<sumW W (cntG n (x::r) s))).map _
     rw[List.filter_flatMap,List.map_flatMap]
     congr 1
     funext w
     rw[key]
     have e:∀s,cntG n (x::r) ((w:Int)::s)=nextV x w n (cntG n r s):=fun s=>by funext B;rw[cntG_t hc]
     rw[List.filter_map,List.map_map]
     simp only[Function.comp_def,e,List.append_assoc,List.singleton_append]
   · rw[if_neg hc]
     have hk:censG (x::r)=censG r:=by simp[censG,hc]
     have e:∀s,cntG n (x::r) s=nextV x 0 n (cntG n r s):=fun s=>by funext B;rw[cntG_f hc]
     rw[hk,key]
     simp only[e]
theorem nn_bg0:nnB bg0:=fun v hv=>by rw[(List.mem_replicate.1 hv).2];decide
def cwG (G:Gm) (s:List Int):Int:=cntG G.ws.length (stepsG G.ds) s bg0
theorem crsG_eq (G:Gm) (h:stOK (stepsG G.ds)):crsG G=((allL G.ws.length (censG (stepsG G.ds))).filter fun s=>decide (0<cwG G s)).map fun s=>(s,cwG G s):=by
 have e:∀V,sumW W0 V=V bg0:=fun V=>by show 1*V bg0+0=_;omega
 unfold crsG
 rw[crs_eq _ _ h W0 (fun y hy=>by rw[List.mem_singleton.1 hy];exact⟨by decide,nn_bg0⟩)]
 simp only[e,List.nil_append];rfl
theorem run_stOK {n:Nat}:∀{l:List Sp} {b:List Int} {m:Int},runOK n l b m→stOK l
 | [],_,_,_,y,hy=>by cases hy
 | x::r,b,m,h,y,hy=>by
   rcases List.mem_cons.1 hy with rfl | hy
   · intro h1 h2;have:=(h.1.h2 h1 h2).2.2.1;omega
   · exact run_stOK h.2 y hy
def lsum (L:List (List Int)) (f:List Int→Int):Int:=(L.map f).sum
theorem lsum_cons (a:List Int) (L:List (List Int)) (f:List Int→Int):lsum (a::L) f=f a+lsum L f:=rfl
theorem lsum_app (L M:List (List Int)) (f:List Int→Int):lsum (L++M) f=lsum L f+lsum M f:=by simp[lsum]
theorem lsum_map (g:List Int→List Int) (f:List Int→Int) (L:List (List Int)):lsum (L.map g) f=lsum L fun s=>f (g s):=by simp[lsum,Function.comp_def]
theorem lsum_congr {f g:List Int→Int}:∀{L:List (List Int)},(∀s∈L,f s=g s)→lsum L f=lsum L g
 | [],_=>rfl
 | a::r,h=>by rw[lsum_cons,lsum_cons,h a (by simp),lsum_congr fun s hs=>h s (by simp[hs])]
theorem lsum_mul (k:Int) (f:List Int→Int):∀L:List (List Int),lsum L (fun s=>k*f s)=k*lsum L f
 | []=>by show (0:Int)=k*0;rw[Int.mul_zero]
 | a::r=>by rw[lsum_cons,lsum_cons,lsum_mul k f r,Int.mul_add]
theorem lsum_zero:∀L:List (List Int),lsum L (fun _=>0)=0
 | []=>rfl
 | a::r=>by rw[lsum_cons,lsum_zero r];rfl
theorem lsum_plus (f g:List Int→Int):∀L:List (List Int),lsum L (fun s=>f s+g s)=lsum L f+lsum L g
 | []=>rfl
 | a::r=>by rw[lsum_cons,lsum_cons,lsum_cons,lsum_plus f g r];omega
theorem lsum_nSum (g:List Int→Int→Int) (L:List (List Int)):∀n:Nat,lsum L (fun s=>nSum n (g s))=nSum n fun w=>lsum L fun s=>g s w
 | 0=>lsum_zero L
 | n+1=>by
   have:=lsum_plus (fun s=>nSum n (g s)) (fun s=>g s n) L
   show lsum L (fun s=>nSum n (g s)+g s n)=nSum n _+lsum L fun s=>g s n
   rw[this,lsum_nSum g L n]
theorem lsum_flat (F:Nat→List (List Int)) (f:List Int→Int) (g:Int→Int) (h:∀w:Nat,lsum (F w) f=g w):∀n:Nat,lsum ((List.range n).flatMap F) f=nSum n g
 | 0=>rfl
 | n+1=>by rw[List.range_succ,List.flatMap_append,lsum_app,lsum_flat F f g h n,List.flatMap_cons,List.flatMap_nil,List.append_nil,h,nSum]
theorem lsum_allL (n k:Nat) (f:List Int→Int):lsum (allL n (k+1)) f=nSum n fun w=>lsum (allL n k) fun s=>f (w::s):=
 lsum_flat _ _ _ (fun w=>lsum_map _ _ _) n
theorem nSum_mulr (k:Int) (f:Int→Int):∀n:Nat,nSum n (fun w=>f w*k)=nSum n f*k
 | 0=>by show (0:Int)=0*k;rw[Int.zero_mul]
 | n+1=>by rw[nSum,nSum,nSum_mulr k f n,Int.add_mul]
theorem nSum_one (K:Int→Int) (a:Int):∀n:Nat,nSum n (fun w=>if w=a then K w else 0)=if 0≤a∧a<n then K a else 0
 | 0=>by rw[if_neg (by omega)];rfl
 | n+1=>by
   rw[nSum,nSum_one K a n]
   by_cases e:(n:Int)=a
   · rw[if_neg (by omega),if_pos e,if_pos (by omega),e];omega
   · rw[if_neg e]
     by_cases h:0≤a∧a<n
     · rw[if_pos h,if_pos (by omega)];omega
     · rw[if_neg h,if_neg (by omega)];rfl
def szP:List Sp→List Int→Int
 | [],_=>1
 | x::r,b=>(if x.2.1=true then atI b x.1.bag else 1)*szP r (spB x b)
def wdOK (n:Nat) (l:List Sp):Prop:=∀x∈l,x.2.2=true→x.2.1=false→0≤x.1.wood∧x.1.wood<n
theorem censG_cons (x:Sp) (r:List Sp):censG (x::r)=(if x.2.2=true then 1 else 0)+censG r:=by
 unfold censG
 rw[List.filter_cons]
 split
 · rw[List.length_cons];omega
 · omega
theorem cnt_tot {n:Nat} (hn:n≤6):∀{l:List Sp} {b:List Int} {m:Int} {B:List Int},tbIn b m→runOK n l b m→wdOK n l→bgT n b B→lsum (allL n (censG l)) (fun s=>cntG n l s B)=szP l b
 | [],_,_,_,_,_,_,_=>rfl
 | x::r,b,m,B,ht,hr,hw,hB=>by
   have hx:=hr.1
   have ht2:=(ht.step hx).1
   have hwr:wdOK n r:=fun y hy=>hw y (by simp[hy])
   rw[szP,censG_cons]
   have hnn:=hB.nn
   have hdr:x.2.1=true→ ∀w:Nat,w<n→bgAt B x.1.bag w*lsum (allL n (censG r)) (fun s=>cntG n r s (drawB B x.1.bag w))=bgAt B x.1.bag w*szP r (spB x b):=fun hd w hw=>by
    obtain⟨hb,ha⟩:=hx.d hd
    by_cases h0:bgAt B x.1.bag w=0
    · rw[h0,Int.zero_mul,Int.zero_mul]
    · have hp:=bgAt_nn hnn x.1.bag w
      have hB2:=hB.draw ht.l hn hb (w:=w) (by omega) (by omega)
      have e:spB x b=setI b x.1.bag (atI b x.1.bag+ -1):=by unfold spB;rw[if_pos hd]
      rw[cnt_tot hn ht2 hr.2 hwr (by rw[e];exact hB2)]
   by_cases hc:x.2.2=true
   · rw[if_pos hc,Nat.add_comm,lsum_allL]
     by_cases hd:x.2.1=true
     · obtain⟨hb,ha⟩:=hx.d hd
       rw[if_pos hd,←hB.sum hn hb,←nSum_mulr]
       refine nSum_congr fun w hwn=>?_
       rw[←hdr hd w hwn,←lsum_mul]
       refine lsum_congr fun s _=>?_
       rw[cntG_t hc]
       unfold nextV
       rw[if_pos hd,if_pos hc]
     · have hdf:x.2.1=false:=by simpa using hd
       have hww:=hw x (by simp) hc hdf
       rw[if_neg hd,Int.one_mul,←cnt_tot hn ht2 hr.2 hwr (hB.mix ht.l hn hx hdf)]
       have e:∀w:Int,lsum (allL n (censG r)) (fun s=>cntG n (x::r) (w::s) B)=if w=x.1.wood then lsum (allL n (censG r)) (fun s=>cntG n r s (mixedB x.1 B)) else 0:=fun w=>by
        by_cases hwx:w=x.1.wood
        · rw[if_pos hwx]
          refine lsum_congr fun s _=>?_
          rw[cntG_t hc]
          unfold nextV
          rw[if_neg hd,if_neg (by rintro⟨_,h⟩;exact h hwx.symm)]
        · rw[if_neg hwx,←lsum_zero (allL n (censG r))]
          refine lsum_congr fun s _=>?_
          rw[cntG_t hc]
          unfold nextV
          rw[if_neg hd,if_pos ⟨hc,fun h=>hwx h.symm⟩]
       simp only[e]
       rw[nSum_one (fun _=>lsum (allL n (censG r)) (fun s=>cntG n r s (mixedB x.1 B))) x.1.wood n,if_pos hww]
   · rw[if_neg hc,Nat.zero_add]
     by_cases hd:x.2.1=true
     · obtain⟨hb,ha⟩:=hx.d hd
       rw[if_pos hd,←hB.sum hn hb,←nSum_mulr]
       have e:lsum (allL n (censG r)) (fun s=>cntG n (x::r) s B)=lsum (allL n (censG r)) (fun s=>nSum n fun w=>bgAt B x.1.bag w*cntG n r s (drawB B x.1.bag w)):=lsum_congr fun s _=>by
        rw[cntG_f hc]
        unfold nextV
        rw[if_pos hd,if_neg hc]
       rw[e,lsum_nSum]
       refine nSum_congr fun w hwn=>?_
       rw[lsum_mul]
       exact hdr hd w hwn
     · have hdf:x.2.1=false:=by simpa using hd
       rw[if_neg hd,Int.one_mul,←cnt_tot hn ht2 hr.2 hwr (hB.mix ht.l hn hx hdf)]
       refine lsum_congr fun s _=>?_
       rw[cntG_f hc]
       unfold nextV
       rw[if_neg hd,if_neg (fun h=>hc h.1)]
end Go.Abs
