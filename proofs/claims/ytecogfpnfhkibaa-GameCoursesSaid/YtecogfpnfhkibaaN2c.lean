/- A part of the proofs of the laws of this seat: contracts of the functions that they reach, each proved of the program's form in Lean. No condition beyond those that each contract names. -/
import Derived.Test.YtecogfpnfhkibaaProg
import Derived.Test.YtecogfpnfhkibaaSnd3
import Derived.Test.YtecogfpnfhkibaaA0
import Derived.Test.YtecogfpnfhkibaaN1a
import Derived.Test.YtecogfpnfhkibaaN1b
import Derived.Test.YtecogfpnfhkibaaN1c
import Derived.Test.YtecogfpnfhkibaaN1d
import Derived.Test.YtecogfpnfhkibaaN1e
import Derived.Test.YtecogfpnfhkibaaN1f
import Derived.Test.YtecogfpnfhkibaaN1g
import Derived.Test.YtecogfpnfhkibaaN2a
import Derived.Test.YtecogfpnfhkibaaN2b
set_option linter.unusedVariables false
set_option linter.unusedSimpArgs false
set_option maxRecDepth 20000
set_option maxHeartbeats 4000000
namespace Go.Abs
open Go.Proofs
theorem rtrial_c (G:Gm) (d:Dl) (g h:Nat) (t:Tb) (tr:List Int) (hn:1≤G.ws.length∧G.ws.length≤6) (ht:tbOK t) (hr:trO tr t.tried) (hl:tr.length≤1000):
  RawC Try.prog 87 [.ref 1000 g 0,gmA G,dlA d] (sg (tbS 1001 g t tr h)) (SR (fun (x:Tb×List Int×Nat) v=>v= .int .i64 (trialE G.ws.length d t)∧(trialE G.ws.length d t=0→x.1={t with tried:=t.tried.set d.wood.toNat true }∧trO x.2.1 (t.tried.set d.wood.toNat true)∧x.2.1.length=tr.length+1)) (fun x=>tbS 1001 g x.1 x.2.1 x.2.2)):=by
 have hb:=ht.b
 have hrn:=rin_c d.wood 0 (G.ws.length-1)
 obtain⟨E,hE⟩:∃E,trialE G.ws.length d t=E:=⟨_,rfl⟩
 rw[hE]
 unfold trialE at hE
 by_cases h1:inB d.wood 0 (G.ws.length-1)=true
 rotate_left
 · rw[if_neg h1] at hE
   subst hE
   rw[show inB d.wood 0 (G.ws.length-1)=false by simpa using h1] at hrn
   cases tr with
   | nil=>
     refine RawC.walk (H:=hint87 Try.prog) ir87 Try.func87 rfl rfl rfl ?_
     unfold ir87
     repeat' (first
      | refine advE ?_ | with_reducible refine w_alt ?_ ?_
      | with_reducible refine zI fun y hy=>?_ | refine advL ?_
      | ((with_reducible refine acall_id ?_);refine ACall.val hrn rfl rfl ?_)
      | refine adv ?_ | with_reducible (first | intro _ | refine Rt.p (fun _=>?_) fun _=>?_)
      | ((with_reducible apply w_ixM);(focus exact rfl);(focus exact rfl);case' hk=>intro y hy) | ((with_reducible (first | apply w_val | apply q_ends));(focus exact rfl)))
     all_goals first
      | (exfalso;omega)
      | exact⟨(t,[],h),⟨rfl,fun h=>absurd h (by decide)⟩,rfl,rfl,trivial⟩
   | cons c0 cs=>
     refine RawC.walk (H:=hint87 Try.prog) ir87 Try.func87 rfl rfl rfl ?_
     unfold ir87
     repeat' (first
      | refine advE ?_ | with_reducible refine w_alt ?_ ?_
      | with_reducible refine zI fun y hy=>?_ | refine advL ?_
      | ((with_reducible refine acall_id ?_);refine ACall.val hrn rfl rfl ?_)
      | refine adv ?_ | with_reducible (first | intro _ | refine Rt.p (fun _=>?_) fun _=>?_)
      | ((with_reducible apply w_ixM);(focus exact rfl);(focus exact rfl);case' hk=>intro y hy) | ((with_reducible (first | apply w_val | apply q_ends));(focus exact rfl)))
     all_goals first
      | (exfalso;omega)
      | exact⟨(t,c0::cs,h),⟨rfl,fun h=>absurd h (by decide)⟩,rfl,rfl,trivial⟩
 rw[if_pos h1] at hE
 rw[h1] at hrn
 have hw:=inB_t.1 h1
 have hw6:d.wood.toNat<6:=by omega
 have hrw:=hr d.wood.toNat hw6
 rw[show ((d.wood.toNat:Nat):Int)=d.wood by omega] at hrw
 have hadd:¬d.wood∈tr→trO (tr++[d.wood]) (t.tried.set d.wood.toNat true):=fun hnot w hw'=>by
  have hlen:=ht.r
  rw[List.getD_eq_getElem?_getD,List.getElem?_set]
  by_cases e:d.wood.toNat=w
  · rw[if_pos e,if_pos (by omega)]
    have:(w:Int)=d.wood:=by omega
    rw[this];simp
  · rw[if_neg e,←List.getD_eq_getElem?_getD,hr w hw']
    have:¬(w:Int)=d.wood:=by omega
    simp[this]
 cases tr with
 | nil=>
   rw[if_neg (fun h=>by have:=hrw.1 h;cases this)] at hE
   subst hE
   refine RawC.walk (H:=hint87 Try.prog) ir87 Try.func87 rfl rfl rfl ?_
   unfold ir87
   repeat' (first
    | refine advE ?_ | with_reducible refine w_alt ?_ ?_
    | with_reducible refine zI fun y hy=>?_ | refine advL ?_
    | ((with_reducible refine acall_id ?_);refine ACall.val hrn rfl rfl ?_)
    | refine adv ?_ | with_reducible (first | intro _ | refine Rt.p (fun _=>?_) fun _=>?_)
    | ((with_reducible apply w_ixM);(focus exact rfl);(focus exact rfl);case' hk=>intro y hy) | ((with_reducible (first | apply w_val | apply q_ends));(focus exact rfl)))
   all_goals try (exfalso;omega)
   refine w_loopK [0,5] [5,1000] (fun _:Unit=>True) (fun _=>0) (fun _=>[(7,.int .i64 0)]) (fun _=>[]) () trivial ⟨rfl,trivial⟩ trivial ?_
   rintro⟨⟩ _ e σ
   repeat' (first
    | refine advE ?_ | with_reducible refine w_alt ?_ ?_
    | (first | refine w_rtT rfl rfl rfl hb rfl ?_ | refine w_rtST rfl rfl rfl rfl hb ?_)
    | with_reducible refine zI fun y hy=>?_ | refine advL ?_
    | refine adv ?_ | with_reducible (first | intro _ | refine Rt.p (fun _=>?_) fun _=>?_)
    | ((with_reducible apply w_ixM);(focus exact rfl);(focus exact rfl);case' hk=>intro y hy) | ((with_reducible (first | apply w_val | apply q_ends));(focus exact rfl)))
   all_goals try (exfalso;omega)
   rename_i g2
   exact⟨({t with tried:=t.tried.set d.wood.toNat true },[d.wood],g2),⟨rfl,fun _=>⟨rfl,hadd (by simp),rfl⟩⟩,rfl,rfl,trivial⟩
 | cons c0 cs=>
   have hcl:(iR (c0::cs)).length=(c0::cs).length:=List.length_map _
   have hcl2:(c0::cs).length=cs.length+1:=rfl
   by_cases hm:d.wood∈c0::cs
   · rw[if_pos (hrw.2 hm)] at hE
     subst hE
     refine RawC.walk (H:=hint87 Try.prog) ir87 Try.func87 rfl rfl rfl ?_
     unfold ir87
     repeat' (first
      | refine advE ?_ | with_reducible refine w_alt ?_ ?_
      | with_reducible refine zI fun y hy=>?_ | refine advL ?_
      | ((with_reducible refine acall_id ?_);refine ACall.val hrn rfl rfl ?_)
      | refine adv ?_ | with_reducible (first | intro _ | refine Rt.p (fun _=>?_) fun _=>?_)
      | ((with_reducible apply w_ixM);(focus exact rfl);(focus exact rfl);case' hk=>intro y hy) | ((with_reducible (first | apply w_val | apply q_ends));(focus exact rfl)))
     all_goals try (exfalso;omega)
     refine w_loopK [0,5] [5,1000,1001] (fun x:List Int×List Int=>c0::cs=x.1++x.2∧ ¬d.wood∈x.1) (fun x=>x.2.length) (fun x=>[(7,.int .i64 (x.1.length:Int))]) (fun _=>[]) ([],c0::cs) ⟨rfl,by simp⟩ ⟨rfl,trivial⟩ trivial ?_
     rintro⟨pre,post⟩ ⟨hp,hq⟩ e σ
     dsimp only at hp hq ⊢
     have hlen:=congrArg List.length hp
     rw[List.length_append] at hlen
     cases post with
     | nil=>exfalso;rw[hp,List.append_nil] at hm;exact hq hm
     | cons y post=>
       simp only[List.length_cons] at hlen
       by_cases hy:y=d.wood
       · repeat' (first
          | refine advE ?_ | with_reducible refine w_alt ?_ ?_
          | (first | refine w_rtT rfl rfl rfl hb rfl ?_ | refine w_ixP hp rfl rfl ?_)
          | with_reducible refine zI fun y hy=>?_ | refine advL ?_
          | refine adv ?_ | with_reducible (first | intro _ | refine Rt.p (fun _=>?_) fun _=>?_)
          | ((with_reducible apply w_ixM);(focus exact rfl);(focus exact rfl);case' hk=>intro y hy) | ((with_reducible (first | apply w_val | apply q_ends));(focus exact rfl)))
         all_goals first
          | (exfalso;omega)
          | exact⟨(t,c0::cs,h),⟨rfl,fun h=>absurd h (by decide)⟩,rfl,rfl,trivial⟩
       · repeat' (first
          | refine advE ?_ | with_reducible refine w_alt ?_ ?_
          | (first | refine w_rtT rfl rfl rfl hb rfl ?_ | refine w_ixP hp rfl rfl ?_)
          | with_reducible refine zI fun y hy=>?_ | refine advL ?_
          | refine adv ?_ | with_reducible (first | intro _ | refine Rt.p (fun _=>?_) fun _=>?_)
          | ((with_reducible apply w_ixM);(focus exact rfl);(focus exact rfl);case' hk=>intro y hy) | ((with_reducible (first | apply w_val | apply q_ends));(focus exact rfl)))
         all_goals first
          | (exfalso;omega)
          | exact q_loop (pre++[y],post) ⟨by show c0::cs=_;rw[hp];simp,by show ¬d.wood∈pre++[y];simp[hq];exact fun e=>hy e.symm⟩ (Nat.lt_succ_self _) ⟨by rw[len_snoc];rfl,trivial⟩ (by repeat' (first | exact slots_nil | apply slots_cons | rfl | (rw[map_snoc];rfl) | (rw[len_snoc];rfl) | (rw[hS];rfl) | (rw[hS,map_snoc];rfl) | (refine int_eq ?_;(try dsimp only);omega) | (refine congrArg AV.bool ?_;simp_all;done))) (by repeat' (first | exact kept_nil | apply kept_cons | rfl)) (by repeat' (first | exact kept_nil | apply kept_cons | rfl))
   · rw[if_neg (fun h=>hm (hrw.1 h))] at hE
     subst hE
     refine RawC.walk (H:=hint87 Try.prog) ir87 Try.func87 rfl rfl rfl ?_
     unfold ir87
     repeat' (first
      | refine advE ?_ | with_reducible refine w_alt ?_ ?_
      | with_reducible refine zI fun y hy=>?_ | refine advL ?_
      | ((with_reducible refine acall_id ?_);refine ACall.val hrn rfl rfl ?_)
      | refine adv ?_ | with_reducible (first | intro _ | refine Rt.p (fun _=>?_) fun _=>?_)
      | ((with_reducible apply w_ixM);(focus exact rfl);(focus exact rfl);case' hk=>intro y hy) | ((with_reducible (first | apply w_val | apply q_ends));(focus exact rfl)))
     all_goals try (exfalso;omega)
     refine w_loopK [0,5] [5,1000,1001] (fun x:List Int×List Int=>c0::cs=x.1++x.2) (fun x=>x.2.length) (fun x=>[(7,.int .i64 (x.1.length:Int))]) (fun _=>[]) ([],c0::cs) rfl ⟨rfl,trivial⟩ trivial ?_
     rintro⟨pre,post⟩ hp e σ
     dsimp only at hp ⊢
     have hlen:=congrArg List.length hp
     rw[List.length_append] at hlen
     cases post with
     | nil=>
       simp only[List.length_nil] at hlen
       repeat' (first
        | refine advE ?_ | with_reducible refine w_alt ?_ ?_
        | (first | refine w_rtT rfl rfl rfl hb rfl ?_ | refine w_rtST rfl rfl rfl rfl hb ?_)
        | with_reducible refine zI fun y hy=>?_ | refine advL ?_
        | refine adv ?_ | with_reducible (first | intro _ | refine Rt.p (fun _=>?_) fun _=>?_)
        | ((with_reducible apply w_ixM);(focus exact rfl);(focus exact rfl);case' hk=>intro y hy) | ((with_reducible (first | apply w_val | apply q_ends));(focus exact rfl)))
       all_goals try (exfalso;omega)
       rename_i g2
       exact⟨({t with tried:=t.tried.set d.wood.toNat true },c0::cs++[d.wood],g2),⟨rfl,fun _=>⟨rfl,hadd hm,len_snoc⟩⟩,rfl,rfl,trivial⟩
     | cons y post=>
       simp only[List.length_cons] at hlen
       have hy:¬y=d.wood:=fun e=>hm (by rw[hp,←e];simp)
       repeat' (first
        | refine advE ?_ | with_reducible refine w_alt ?_ ?_
        | (first | refine w_rtT rfl rfl rfl hb rfl ?_ | refine w_ixP hp rfl rfl ?_)
        | with_reducible refine zI fun y hy=>?_ | refine advL ?_
        | refine adv ?_ | with_reducible (first | intro _ | refine Rt.p (fun _=>?_) fun _=>?_)
        | ((with_reducible apply w_ixM);(focus exact rfl);(focus exact rfl);case' hk=>intro y hy) | ((with_reducible (first | apply w_val | apply q_ends));(focus exact rfl)))
       all_goals first
        | (exfalso;omega)
        | exact q_loop (pre++[y],post) (by show c0::cs=_;rw[hp];simp) (Nat.lt_succ_self _) ⟨by rw[len_snoc];rfl,trivial⟩ (by repeat' (first | exact slots_nil | apply slots_cons | rfl | (rw[map_snoc];rfl) | (rw[len_snoc];rfl) | (rw[hS];rfl) | (rw[hS,map_snoc];rfl) | (refine int_eq ?_;(try dsimp only);omega) | (refine congrArg AV.bool ?_;simp_all;done))) (by repeat' (first | exact kept_nil | apply kept_cons | rfl)) (by repeat' (first | exact kept_nil | apply kept_cons | rfl))
def ir56:IFn:=
 ⟨138,[(6,none)],(.seq (.ops [oo 4 (.box 2 1),
 oo 5 (.box 5 2),
 oo 6 (.mov (kI 0))])
 (.seq (.seq (.ops [oo 7 (.flA 0 5),
 oo 8 (.ld 1 false 7)])
 (.blk 0 (.seq (.ops [oo 10 (.bin .eql 8 (kI 1)),
 oo 9 (.mov 10)])
 (.cnd 9
 (.seq (.ops [oo 11 (.mov 0),
 oo 12 (.ld 2 true 4),
 oo 13 (.ld 5 true 5),
 oo 14 (.callF 87 [11,12,13]),
 oo 6 (.mov 14)])
 .ret)
 (.seq (.ops [oo 16 (.bin .eql 8 (kI 6)),
 oo 15 (.mov 16)])
 (.cnd 15
 (.seq (.seq (.ops [oo 17 (.flA 3 5),
 oo 18 (.ld 1 false 17),
 oo 19 (.flA 0 4),
 oo 20 (.ld 1 false 19),
 oo 21 (.len false 20),
 oo 22 (.bin .sub 21 (kI 1)),
 oo 23 (.callF 54 [18,(kI 0),22]),
 oo 24 (.not 23)])
 (.cnd 24
 (.seq (.ops [oo 6 (.mov (kI 7))])
 .ret)
 .skip))
 (.seq (.seq (.ops [oo 25 (.mov 0),
 oo 26 (.nck 25),
 oo 27 (.flA 5 26),
 oo 28 (.ld 1 false 27),
 oo 29 (.bin .eql 28 (kI 9))])
 (.cnd 29
 (.seq (.ops [oo 6 (.mov (kI 8))])
 .ret)
 .skip))
 (.seq (.ops [oo 30 (.mov 0),
 oo 31 (.nck 30),
 oo 32 (.flA 5 31),
 oo 33 (.ld 1 false 32),
 oo 34 (.bin .add 33 (kI 1)),
 oo 35 (.nck 30),
 oo 36 (.flA 5 35),
 ⟨none,none,(.st 1 36 34)⟩])
 (.seq (.ops [oo 6 (.mov (kI 0))])
 .ret))))
 .skip))))))
 (.seq (.seq (.ops [oo 37 (.flA 1 5),
 oo 38 (.ld 1 false 37),
 oo 39 (.callF 54 [38,(kI 0),(kI 3)]),
 oo 40 (.not 39)])
 (.cnd 40
 (.seq (.ops [oo 6 (.mov (kI 2))])
 .ret)
 .skip))
 (.seq (.seq (.ops [oo 41 (.flA 0 5),
 oo 42 (.ld 1 false 41)])
 (.blk 1 (.seq (.ops [oo 44 (.bin .eql 42 (kI 2)),
 oo 43 (.mov 44)])
 (.cnd 43
 (.seq (.ops [oo 45 (.mov 0),
 oo 46 (.ld 2 true 4),
 oo 47 (.ld 5 true 5),
 oo 48 (.callF 88 [45,46,47]),
 oo 6 (.mov 48)])
 .ret)
 (.seq (.ops [oo 50 (.bin .eql 42 (kI 3)),
 oo 49 (.mov 50)])
 (.cnd 49
 (.seq (.seq (.ops [oo 51 (.flA 2 5),
 oo 52 (.ld 1 false 51),
 oo 53 (.callF 54 [52,(kI 0),(kI 3)]),
 oo 54 (.not 53)])
 (.cnd 54
 (.seq (.ops [oo 6 (.mov (kI 2))])
 .ret)
 .skip))
 (.seq (.seq (.ops [oo 55 (.flA 2 5),
 oo 56 (.ld 1 false 55),
 oo 57 (.flA 1 5),
 oo 58 (.ld 1 false 57),
 oo 59 (.bin .eql 56 58)])
 (.cnd 59
 (.seq (.ops [oo 6 (.mov (kI 12))])
 .ret)
 .skip))
 (.seq (.ops [oo 60 (.mov 0),
 oo 61 (.flA 2 5),
 oo 62 (.ld 1 false 61),
 oo 63 (.mov 0),
 oo 64 (.flA 1 5),
 oo 65 (.ld 1 false 64),
 oo 66 (.mov 0),
 oo 67 (.flA 2 5),
 oo 68 (.ld 1 false 67),
 oo 69 (.nck 66),
 oo 70 (.flA 0 69),
 oo 71 (.ixAr 4 1 70 68),
 oo 72 (.ld 1 false 71),
 oo 73 (.mov 0),
 oo 74 (.flA 1 5),
 oo 75 (.ld 1 false 74),
 oo 76 (.nck 73),
 oo 77 (.flA 0 76),
 oo 78 (.ixAr 4 1 77 75),
 oo 79 (.ld 1 false 78),
 oo 80 (.bin .add 72 79),
 oo 81 (.nck 60),
 oo 82 (.flA 0 81),
 oo 83 (.ixAr 4 1 82 62),
 oo 84 (.nck 63),
 oo 85 (.flA 0 84),
 ⟨none,none,(.st 1 83 80)⟩,
 ⟨none,none,(.chk 1 false 64 65)⟩,
 oo 86 (.ixAr 4 1 85 65),
 ⟨none,none,(.st 1 86 (kI 0))⟩])
 (.seq (.ops [oo 6 (.mov (kI 0))])
 .ret))))
 .skip))))))
 (.seq (.seq (.ops [oo 87 (.flA 4 5),
 oo 88 (.ld 1 false 87),
 oo 89 (.callF 54 [88,(kI 1),(kI 12)]),
 oo 90 (.not 89)])
 (.cnd 90
 (.seq (.ops [oo 6 (.mov (kI 2))])
 .ret)
 .skip))
 (.seq (.seq (.ops [oo 91 (.flA 4 5),
 oo 92 (.ld 1 false 91),
 oo 93 (.mov 0),
 oo 94 (.flA 1 5),
 oo 95 (.ld 1 false 94),
 oo 96 (.nck 93),
 oo 97 (.flA 0 96),
 oo 98 (.ixAr 4 1 97 95),
 oo 99 (.ld 1 false 98),
 oo 100 (.bin .gtr 92 99)])
 (.cnd 100
 (.seq (.ops [oo 6 (.mov (kI 6))])
 .ret)
 .skip))
 (.seq (.seq (.ops [oo 101 (.flA 0 5),
 oo 102 (.ld 1 false 101),
 oo 103 (.bin .eql 102 (kI 5))])
 (.cnd 103
 (.seq (.seq (.ops [oo 104 (.mov 0),
 oo 105 (.nck 104),
 oo 106 (.flA 5 105),
 oo 107 (.ld 1 false 106),
 oo 108 (.flA 4 5),
 oo 109 (.ld 1 false 108),
 oo 110 (.bin .add 107 109),
 oo 111 (.bin .gtr 110 (kI 9))])
 (.cnd 111
 (.seq (.ops [oo 6 (.mov (kI 8))])
 .ret)
 .skip))
 (.ops [oo 112 (.mov 0),
 oo 113 (.mov 0),
 oo 114 (.nck 113),
 oo 115 (.flA 5 114),
 oo 116 (.ld 1 false 115),
 oo 117 (.flA 4 5),
 oo 118 (.ld 1 false 117),
 oo 119 (.bin .add 116 118),
 oo 120 (.nck 112),
 oo 121 (.flA 5 120),
 ⟨none,none,(.st 1 121 119)⟩]))
 .skip))
 (.seq (.ops [oo 122 (.mov 0),
 oo 123 (.flA 1 5),
 oo 124 (.ld 1 false 123),
 oo 125 (.mov 0),
 oo 126 (.flA 1 5),
 oo 127 (.ld 1 false 126),
 oo 128 (.nck 125),
 oo 129 (.flA 0 128),
 oo 130 (.ixAr 4 1 129 127),
 oo 131 (.ld 1 false 130),
 oo 132 (.flA 4 5),
 oo 133 (.ld 1 false 132),
 oo 134 (.bin .sub 131 133),
 oo 135 (.nck 122),
 oo 136 (.flA 0 135),
 oo 137 (.ixAr 4 1 136 124),
 ⟨none,none,(.st 1 137 134)⟩])
 (.seq (.ops [oo 6 (.mov (kI 0))])
 .ret)))))))))⟩
def hint56 (P:Program):Hint:={}
theorem rdealA_c (G:Gm) (d:Dl) (g h:Nat) (t:Tb) (tr:List Int) (hn:1≤G.ws.length∧G.ws.length≤6) (ht:tbOK t) (hr:trO tr t.tried) (hl:tr.length≤1000) (hk:inB d.kind 1 6=true) (h45:inB d.bag 0 3=true→ ¬(d.kind=4∨d.kind=5)):
  RawC Try.prog 56 [.ref 1000 g 0,gmA G,dlA d] (sg (tbS 2001 g t tr h)) (SR (fun (x:Tb×List Int×Nat) v=>v= .int .i64 (dealE G.ws.length d t)∧(dealE G.ws.length d t=0→x.1=dealT d t∧trO x.2.1 (dealT d t).tried∧x.2.1.length≤tr.length+1)) (fun x=>tbS 2001 g x.1 x.2.1 x.2.2)):=by
 have hb:=ht.b
 obtain⟨k1,k2⟩:=inB_t.1 hk
 obtain⟨E,hE⟩:∃E,dealE G.ws.length d t=E:=⟨_,rfl⟩
 obtain⟨D,hD⟩:∃D,dealT d t=D:=⟨_,rfl⟩
 rw[hE,hD]
 unfold dealE at hE
 unfold dealT at hD
 have hw:=rin_c d.wood 0 (G.ws.length-1)
 have hbg:=rin_c d.bag 0 3
 have hot:=rin_c d.other 0 3
 have hct:=rin_c d.count 1 12
 have hm:=ht.m
 have hc9:=ht.c
 by_cases e1:d.kind=1
 · rw[if_pos e1] at hE hD
   have hT:=rtrial_c G d g h t tr hn ht hr hl
   rw[hE] at hT
   refine RawC.walk (H:=hint56 Try.prog) ir56 Try.func56 rfl rfl rfl ?_
   unfold ir56
   repeat' (first
    | refine advE ?_ | with_reducible refine w_alt ?_ ?_
    | with_reducible refine zI fun y hy=>?_ | refine advL ?_
    | ((with_reducible refine acall_id ?_);(refine ACall.tab (α:=Tb×List Int×Nat) (p:=1000) (q:=2001) (T:=fun x=>x.1) (R:=fun x=>x.2.1) (H:=fun x=>x.2.2) hT rfl rfl rfl rfl rfl rfl rfl rfl rfl ?_ (by rintro x av ⟨hx,-⟩;exact⟨_,hx⟩);rintro⟨t2,tr2,h2⟩ _ ⟨rfl,hx⟩ _ _))
    | refine adv ?_ | with_reducible (first | intro _ | refine Rt.p (fun _=>?_) fun _=>?_)
    | ((with_reducible apply w_ixM);(focus exact rfl);(focus exact rfl);case' hk=>intro y hy) | ((with_reducible (first | apply w_val | apply q_ends));(focus exact rfl)))
   all_goals first
    | (exfalso;omega)
    | exact⟨(t2,tr2,h2),⟨rfl,fun h0=>by obtain⟨q1,q2,q3⟩:=hx h0;rw[←hD];exact⟨q1,q2,by dsimp only at q3 ⊢;omega⟩⟩,rfl,rfl,trivial⟩
 rw[if_neg e1] at hE hD
 by_cases e6:d.kind=6
 · rw[if_neg (by omega),if_neg (by omega),if_neg (by omega),if_neg (by omega)] at hE hD
   unfold placeE at hE
   by_cases q1:inB d.wood 0 (G.ws.length-1)=true
   · rw[if_pos q1] at hE
     rw[q1] at hw
     by_cases q2:9<t.cens+1
     · rw[if_pos q2] at hE
       subst hE
       refine RawC.walk (H:=hint56 Try.prog) ir56 Try.func56 rfl rfl rfl ?_
       unfold ir56
       repeat' (first
        | refine advE ?_ | with_reducible refine w_alt ?_ ?_
        | (first | refine w_rtC rfl rfl rfl hb ?_)
        | with_reducible refine zI fun y hy=>?_ | refine advL ?_
        | ((with_reducible refine acall_id ?_);refine ACall.val hw rfl rfl ?_)
        | refine adv ?_ | with_reducible (first | intro _ | refine Rt.p (fun _=>?_) fun _=>?_)
        | ((with_reducible apply w_ixM);(focus exact rfl);(focus exact rfl);case' hk=>intro y hy) | ((with_reducible (first | apply w_val | apply q_ends));(focus exact rfl)))
       all_goals first
        | (exfalso;omega)
        | exact⟨(t,tr,h),⟨rfl,fun h=>absurd h (by decide)⟩,rfl,rfl,trivial⟩
     · rw[if_neg q2] at hE
       subst hE
       refine RawC.walk (H:=hint56 Try.prog) ir56 Try.func56 rfl rfl rfl ?_
       unfold ir56
       repeat' (first
        | refine advE ?_ | with_reducible refine w_alt ?_ ?_
        | (first | refine w_rtC rfl rfl rfl hb ?_ | refine w_rtSC rfl rfl rfl rfl hb ?_)
        | with_reducible refine zI fun y hy=>?_ | refine advL ?_
        | ((with_reducible refine acall_id ?_);refine ACall.val hw rfl rfl ?_)
        | refine adv ?_ | with_reducible (first | intro _ | refine Rt.p (fun _=>?_) fun _=>?_)
        | ((with_reducible apply w_ixM);(focus exact rfl);(focus exact rfl);case' hk=>intro y hy) | ((with_reducible (first | apply w_val | apply q_ends));(focus exact rfl)))
       all_goals first
        | (exfalso;omega)
        | exact⟨({t with cens:=t.cens+1 },tr,h),⟨rfl,fun _=>⟨hD,by rw[←hD];exact hr,Nat.le_succ _⟩⟩,rfl,rfl,trivial⟩
   · rw[if_neg q1] at hE
     subst hE
     rw[show inB d.wood 0 (G.ws.length-1)=false by simpa using q1] at hw
     refine RawC.walk (H:=hint56 Try.prog) ir56 Try.func56 rfl rfl rfl ?_
     unfold ir56
     repeat' (first
      | refine advE ?_ | with_reducible refine w_alt ?_ ?_
      | with_reducible refine zI fun y hy=>?_ | refine advL ?_
      | ((with_reducible refine acall_id ?_);refine ACall.val hw rfl rfl ?_)
      | refine adv ?_ | with_reducible (first | intro _ | refine Rt.p (fun _=>?_) fun _=>?_)
      | ((with_reducible apply w_ixM);(focus exact rfl);(focus exact rfl);case' hk=>intro y hy) | ((with_reducible (first | apply w_val | apply q_ends));(focus exact rfl)))
     all_goals first
      | (exfalso;omega)
      | exact⟨(t,tr,h),⟨rfl,fun h=>absurd h (by decide)⟩,rfl,rfl,trivial⟩
 by_cases q1:inB d.bag 0 3=true
 rotate_left
 · have hq1:inB d.bag 0 3=false:=by simpa using q1
   have ha:asideE d t=2:=by unfold asideE;rw[if_neg (fun h=>q1 h.1)]
   have hE2:E=2:=by
    rw[←hE]
    by_cases e2:d.kind=2
    · rw[if_pos e2];unfold mixE;rw[if_neg q1]
    rw[if_neg e2]
    by_cases e3:d.kind=3
    · rw[if_pos e3];unfold pourE;rw[if_neg (fun h=>q1 h.1)]
    rw[if_neg e3]
    by_cases e4:d.kind=4
    · rw[if_pos e4];exact ha
    rw[if_neg e4,if_pos (by omega)]
    unfold passE
    rw[ha];rfl
   subst hE2
   rw[hq1] at hbg
   refine RawC.walk (H:=hint56 Try.prog) ir56 Try.func56 rfl rfl rfl ?_
   unfold ir56
   repeat' (first
    | refine advE ?_ | with_reducible refine w_alt ?_ ?_
    | with_reducible refine zI fun y hy=>?_ | refine advL ?_
    | ((with_reducible refine acall_id ?_);refine ACall.val hbg rfl rfl ?_)
    | refine adv ?_ | with_reducible (first | intro _ | refine Rt.p (fun _=>?_) fun _=>?_)
    | ((with_reducible apply w_ixM);(focus exact rfl);(focus exact rfl);case' hk=>intro y hy) | ((with_reducible (first | apply w_val | apply q_ends));(focus exact rfl)))
   all_goals first
    | (exfalso;omega)
    | exact⟨(t,tr,h),⟨rfl,fun h=>absurd h (by decide)⟩,rfl,rfl,trivial⟩
 rw[q1] at hbg
 have hbi:=inB_t.1 q1
 have hb4:d.bag.toNat<4:=by omega
 have hat:=ht.at hb4
 have hat2:0≤t.bags.getD d.bag.toNat 0∧t.bags.getD d.bag.toNat 0≤12:=hat
 by_cases e2:d.kind=2
 · rw[if_pos e2] at hE hD
   have hT:=rmix_c G d g h t tr hn ht q1
   rw[hE] at hT
   refine RawC.walk (H:=hint56 Try.prog) ir56 Try.func56 rfl rfl rfl ?_
   unfold ir56
   repeat' (first
    | refine advE ?_ | with_reducible refine w_alt ?_ ?_
    | with_reducible refine zI fun y hy=>?_ | refine advL ?_
    | ((with_reducible refine acall_id ?_);refine ACall.val hbg rfl rfl ?_)
    | ((with_reducible refine acall_id ?_);(refine ACall.tab (α:=Tb) (p:=1000) (q:=2001) (T:=fun x=>x) (R:=fun x=>tr) (H:=fun x=>h) hT rfl rfl rfl rfl rfl rfl rfl rfl rfl ?_ (by rintro x av ⟨hx,-⟩;exact⟨_,hx⟩);rintro t2 _ ⟨rfl,hx⟩ _ _))
    | refine adv ?_ | with_reducible (first | intro _ | refine Rt.p (fun _=>?_) fun _=>?_)
    | ((with_reducible apply w_ixM);(focus exact rfl);(focus exact rfl);case' hk=>intro y hy) | ((with_reducible (first | apply w_val | apply q_ends));(focus exact rfl)))
   all_goals first
    | (exfalso;omega)
    | exact⟨(t2,tr,h),⟨rfl,fun h0=>by rw[←hD];exact⟨hx h0,hr,Nat.le_succ _⟩⟩,rfl,rfl,trivial⟩
 rw[if_neg e2] at hE hD
 by_cases e3:d.kind=3
 · rw[if_pos e3] at hE hD
   unfold pourE at hE
   by_cases q2:inB d.other 0 3=true
   rotate_left
   · rw[if_neg (fun h=>q2 h.2)] at hE
     subst hE
     rw[show inB d.other 0 3=false by simpa using q2] at hot
     refine RawC.walk (H:=hint56 Try.prog) ir56 Try.func56 rfl rfl rfl ?_
     unfold ir56
     repeat' (first
      | refine advE ?_ | with_reducible refine w_alt ?_ ?_
      | with_reducible refine zI fun y hy=>?_ | refine advL ?_
      | ((with_reducible refine acall_id ?_);refine ACall.val hbg rfl rfl ?_)
      | ((with_reducible refine acall_id ?_);refine ACall.val hot rfl rfl ?_)
      | refine adv ?_ | with_reducible (first | intro _ | refine Rt.p (fun _=>?_) fun _=>?_)
      | ((with_reducible apply w_ixM);(focus exact rfl);(focus exact rfl);case' hk=>intro y hy) | ((with_reducible (first | apply w_val | apply q_ends));(focus exact rfl)))
     all_goals first
      | (exfalso;omega)
      | exact⟨(t,tr,h),⟨rfl,fun h=>absurd h (by decide)⟩,rfl,rfl,trivial⟩
   rw[if_pos ⟨q1,q2⟩] at hE
   rw[q2] at hot
   have hoi:=inB_t.1 q2
   have ho4:d.other.toNat<4:=by omega
   have hao:0≤t.bags.getD d.other.toNat 0∧t.bags.getD d.other.toNat 0≤12:=ht.at ho4
   by_cases q3:d.bag=d.other
   · rw[if_pos q3] at hE
     subst hE
     refine RawC.walk (H:=hint56 Try.prog) ir56 Try.func56 rfl rfl rfl ?_
     unfold ir56
     repeat' (first
      | refine advE ?_ | with_reducible refine w_alt ?_ ?_
      | with_reducible refine zI fun y hy=>?_ | refine advL ?_
      | ((with_reducible refine acall_id ?_);refine ACall.val hbg rfl rfl ?_)
      | ((with_reducible refine acall_id ?_);refine ACall.val hot rfl rfl ?_)
      | refine adv ?_ | with_reducible (first | intro _ | refine Rt.p (fun _=>?_) fun _=>?_)
      | ((with_reducible apply w_ixM);(focus exact rfl);(focus exact rfl);case' hk=>intro y hy) | ((with_reducible (first | apply w_val | apply q_ends));(focus exact rfl)))
     all_goals first
      | (exfalso;omega)
      | exact⟨(t,tr,h),⟨rfl,fun h=>absurd h (by decide)⟩,rfl,rfl,trivial⟩
   · rw[if_neg q3] at hE
     subst hE
     have hb2:({t with bags:=t.bags.set d.other.toNat (t.bags.getD d.other.toNat 0+t.bags.getD d.bag.toNat 0) }:Tb).bags.length=4:=by show (List.set _ _ _).length=4;rw[List.length_set];exact hb
     refine RawC.walk (H:=hint56 Try.prog) ir56 Try.func56 rfl rfl rfl ?_
     unfold ir56
     repeat' (first
      | refine advE ?_ | with_reducible refine w_alt ?_ ?_
      | (first | refine w_rtB (w:=d.bag.toNat) rfl (by omega) rfl hb hb4 rfl ?_ | refine w_rtB (w:=d.other.toNat) rfl (by omega) rfl hb ho4 rfl ?_ | refine w_rtSB (w:=d.other.toNat) rfl (by omega) rfl rfl hb ho4 ?_ | refine w_rtSB (w:=d.bag.toNat) rfl (by omega) rfl rfl hb2 hb4 ?_)
      | with_reducible refine zI fun y hy=>?_ | refine advL ?_
      | ((with_reducible refine acall_id ?_);refine ACall.val hbg rfl rfl ?_)
      | ((with_reducible refine acall_id ?_);refine ACall.val hot rfl rfl ?_)
      | refine adv ?_ | with_reducible (first | intro _ | refine Rt.p (fun _=>?_) fun _=>?_)
      | ((with_reducible apply w_ixM);(focus exact rfl);(focus exact rfl);case' hk=>intro y hy) | ((with_reducible (first | apply w_val | apply q_ends));(focus exact rfl)))
     all_goals first
      | (exfalso;omega)
      | exact⟨(_,tr,h),⟨rfl,fun _=>⟨hD,by rw[←hD];exact hr,Nat.le_succ _⟩⟩,rfl,rfl,trivial⟩
 rw[if_neg e3] at hE hD
 exact absurd (show d.kind=4∨d.kind=5 by omega) (h45 q1)
theorem rdealB_c (G:Gm) (d:Dl) (g h:Nat) (t:Tb) (tr:List Int) (hn:1≤G.ws.length∧G.ws.length≤6) (ht:tbOK t) (hr:trO tr t.tried) (hl:tr.length≤1000) (hk:inB d.kind 1 6=true) (h45:d.kind=4∨d.kind=5) (q1:inB d.bag 0 3=true):
  RawC Try.prog 56 [.ref 1000 g 0,gmA G,dlA d] (sg (tbS 2001 g t tr h)) (SR (fun (x:Tb×List Int×Nat) v=>v= .int .i64 (dealE G.ws.length d t)∧(dealE G.ws.length d t=0→x.1=dealT d t∧trO x.2.1 (dealT d t).tried∧x.2.1.length≤tr.length+1)) (fun x=>tbS 2001 g x.1 x.2.1 x.2.2)):=by
 have hb:=ht.b
 obtain⟨k1,k2⟩:=inB_t.1 hk
 obtain⟨E,hE⟩:∃E,dealE G.ws.length d t=E:=⟨_,rfl⟩
 obtain⟨D,hD⟩:∃D,dealT d t=D:=⟨_,rfl⟩
 rw[hE,hD]
 unfold dealE at hE
 unfold dealT at hD
 have hw:=rin_c d.wood 0 (G.ws.length-1)
 have hbg:=rin_c d.bag 0 3
 have hot:=rin_c d.other 0 3
 have hct:=rin_c d.count 1 12
 have hm:=ht.m
 have hc9:=ht.c
 have e1:¬d.kind=1:=by omega
 have e2:¬d.kind=2:=by omega
 have e3:¬d.kind=3:=by omega
 rw[if_neg e1,if_neg e2,if_neg e3] at hE hD
 rw[q1] at hbg
 have hbi:=inB_t.1 q1
 have hb4:d.bag.toNat<4:=by omega
 have hat:=ht.at hb4
 have hat2:0≤t.bags.getD d.bag.toNat 0∧t.bags.getD d.bag.toNat 0≤12:=hat
 by_cases q2:inB d.count 1 12=true
 rotate_left
 · have ha:asideE d t=2:=by unfold asideE;rw[if_neg (fun h=>q2 h.2)]
   have hE2:E=2:=by
    rw[←hE]
    by_cases e4:d.kind=4
    · rw[if_pos e4];exact ha
    rw[if_neg e4,if_pos (by omega)]
    unfold passE
    rw[ha];rfl
   subst hE2
   rw[show inB d.count 1 12=false by simpa using q2] at hct
   refine RawC.walk (H:=hint56 Try.prog) ir56 Try.func56 rfl rfl rfl ?_
   unfold ir56
   repeat' (first
    | refine advE ?_ | with_reducible refine w_alt ?_ ?_
    | with_reducible refine zI fun y hy=>?_ | refine advL ?_
    | ((with_reducible refine acall_id ?_);refine ACall.val hbg rfl rfl ?_)
    | ((with_reducible refine acall_id ?_);refine ACall.val hct rfl rfl ?_)
    | refine adv ?_ | with_reducible (first | intro _ | refine Rt.p (fun _=>?_) fun _=>?_)
    | ((with_reducible apply w_ixM);(focus exact rfl);(focus exact rfl);case' hk=>intro y hy) | ((with_reducible (first | apply w_val | apply q_ends));(focus exact rfl)))
   all_goals first
    | (exfalso;omega)
    | exact⟨(t,tr,h),⟨rfl,fun h=>absurd h (by decide)⟩,rfl,rfl,trivial⟩
 rw[q2] at hct
 have hci:=inB_t.1 q2
 by_cases q3:atI t.bags d.bag<d.count
 · have ha:asideE d t=6:=by unfold asideE;rw[if_pos ⟨q1,q2⟩,if_pos q3]
   have hE2:E=6:=by
    rw[←hE]
    by_cases e4:d.kind=4
    · rw[if_pos e4];exact ha
    rw[if_neg e4,if_pos (by omega)]
    unfold passE
    rw[ha];rfl
   subst hE2
   have q3':t.bags.getD d.bag.toNat 0<d.count:=q3
   refine RawC.walk (H:=hint56 Try.prog) ir56 Try.func56 rfl rfl rfl ?_
   unfold ir56
   repeat' (first
    | refine advE ?_ | with_reducible refine w_alt ?_ ?_
    | (first | refine w_rtB (w:=d.bag.toNat) rfl (by omega) rfl hb hb4 rfl ?_)
    | with_reducible refine zI fun y hy=>?_ | refine advL ?_
    | ((with_reducible refine acall_id ?_);refine ACall.val hbg rfl rfl ?_)
    | ((with_reducible refine acall_id ?_);refine ACall.val hct rfl rfl ?_)
    | refine adv ?_ | with_reducible (first | intro _ | refine Rt.p (fun _=>?_) fun _=>?_)
    | ((with_reducible apply w_ixM);(focus exact rfl);(focus exact rfl);case' hk=>intro y hy) | ((with_reducible (first | apply w_val | apply q_ends));(focus exact rfl)))
   all_goals first
    | (exfalso;omega)
    | exact⟨(t,tr,h),⟨rfl,fun h=>absurd h (by decide)⟩,rfl,rfl,trivial⟩
 have ha:asideE d t=0:=by unfold asideE;rw[if_pos ⟨q1,q2⟩,if_neg q3]
 have q3':¬t.bags.getD d.bag.toNat 0<d.count:=q3
 by_cases e4:d.kind=4
 · rw[if_pos e4] at hE hD
   rw[ha] at hE
   subst hE
   refine RawC.walk (H:=hint56 Try.prog) ir56 Try.func56 rfl rfl rfl ?_
   unfold ir56
   repeat' (first
    | refine advE ?_ | with_reducible refine w_alt ?_ ?_
    | (first | refine w_rtB (w:=d.bag.toNat) rfl (by omega) rfl hb hb4 rfl ?_ | refine w_rtSB (w:=d.bag.toNat) rfl (by omega) rfl rfl hb hb4 ?_)
    | with_reducible refine zI fun y hy=>?_ | refine advL ?_
    | ((with_reducible refine acall_id ?_);refine ACall.val hbg rfl rfl ?_)
    | ((with_reducible refine acall_id ?_);refine ACall.val hct rfl rfl ?_)
    | refine adv ?_ | with_reducible (first | intro _ | refine Rt.p (fun _=>?_) fun _=>?_)
    | ((with_reducible apply w_ixM);(focus exact rfl);(focus exact rfl);case' hk=>intro y hy) | ((with_reducible (first | apply w_val | apply q_ends));(focus exact rfl)))
   all_goals first
    | (exfalso;omega)
    | exact⟨(_,tr,h),⟨rfl,fun _=>⟨hD,by rw[←hD];exact hr,Nat.le_succ _⟩⟩,rfl,rfl,trivial⟩
 have e5:d.kind=5:=by omega
 rw[if_neg e4,if_pos e5] at hE hD
 unfold passE at hE
 rw[if_pos ha] at hE
 by_cases q4:9<t.cens+d.count
 · rw[if_pos q4] at hE
   subst hE
   refine RawC.walk (H:=hint56 Try.prog) ir56 Try.func56 rfl rfl rfl ?_
   unfold ir56
   repeat' (first
    | refine advE ?_ | with_reducible refine w_alt ?_ ?_
    | (first | refine w_rtB (w:=d.bag.toNat) rfl (by omega) rfl hb hb4 rfl ?_ | refine w_rtC rfl rfl rfl hb ?_)
    | with_reducible refine zI fun y hy=>?_ | refine advL ?_
    | ((with_reducible refine acall_id ?_);refine ACall.val hbg rfl rfl ?_)
    | ((with_reducible refine acall_id ?_);refine ACall.val hct rfl rfl ?_)
    | refine adv ?_ | with_reducible (first | intro _ | refine Rt.p (fun _=>?_) fun _=>?_)
    | ((with_reducible apply w_ixM);(focus exact rfl);(focus exact rfl);case' hk=>intro y hy) | ((with_reducible (first | apply w_val | apply q_ends));(focus exact rfl)))
   all_goals first
    | (exfalso;omega)
    | exact⟨(t,tr,h),⟨rfl,fun h=>absurd h (by decide)⟩,rfl,rfl,trivial⟩
 · rw[if_neg q4] at hE
   subst hE
   have hat3:0≤({t with cens:=t.cens+d.count }:Tb).bags.getD d.bag.toNat 0∧({t with cens:=t.cens+d.count }:Tb).bags.getD d.bag.toNat 0≤12:=hat2
   refine RawC.walk (H:=hint56 Try.prog) ir56 Try.func56 rfl rfl rfl ?_
   unfold ir56
   repeat' (first
    | refine advE ?_ | with_reducible refine w_alt ?_ ?_
    | (first | refine w_rtB (w:=d.bag.toNat) rfl (by omega) rfl hb hb4 rfl ?_ | refine w_rtC rfl rfl rfl hb ?_ | refine w_rtSC rfl rfl rfl rfl hb ?_ | refine w_rtB (t:={t with cens:=t.cens+d.count }) (b:=t.bags.getD d.bag.toNat 0) (w:=d.bag.toNat) rfl (by omega) rfl hb hb4 rfl ?_ | refine w_rtSB (t:={t with cens:=t.cens+d.count }) (w:=d.bag.toNat) rfl (by omega) rfl rfl hb hb4 ?_)
    | with_reducible refine zI fun y hy=>?_ | refine advL ?_
    | ((with_reducible refine acall_id ?_);refine ACall.val hbg rfl rfl ?_)
    | ((with_reducible refine acall_id ?_);refine ACall.val hct rfl rfl ?_)
    | refine adv ?_ | with_reducible (first | intro _ | refine Rt.p (fun _=>?_) fun _=>?_)
    | ((with_reducible apply w_ixM);(focus exact rfl);(focus exact rfl);case' hk=>intro y hy) | ((with_reducible (first | apply w_val | apply q_ends));(focus exact rfl)))
   all_goals first
    | (exfalso;omega)
    | exact⟨(_,tr,h),⟨rfl,fun _=>⟨hD,by rw[←hD];exact hr,Nat.le_succ _⟩⟩,rfl,rfl,trivial⟩
theorem rdeal_c (G:Gm) (d:Dl) (g h:Nat) (t:Tb) (tr:List Int) (hn:1≤G.ws.length∧G.ws.length≤6) (ht:tbOK t) (hr:trO tr t.tried) (hl:tr.length≤1000) (hk:inB d.kind 1 6=true):
  RawC Try.prog 56 [.ref 1000 g 0,gmA G,dlA d] (sg (tbS 2001 g t tr h)) (SR (fun (x:Tb×List Int×Nat) v=>v= .int .i64 (dealE G.ws.length d t)∧(dealE G.ws.length d t=0→x.1=dealT d t∧trO x.2.1 (dealT d t).tried∧x.2.1.length≤tr.length+1)) (fun x=>tbS 2001 g x.1 x.2.1 x.2.2)):=by
 by_cases h:d.kind=4∨d.kind=5
 · by_cases q1:inB d.bag 0 3=true
   · exact rdealB_c G d g _ t tr hn ht hr hl hk h q1
   · exact rdealA_c G d g _ t tr hn ht hr hl hk fun q=>absurd q q1
 · exact rdealA_c G d g _ t tr hn ht hr hl hk fun _=>h
def ir19:IFn:=
 ⟨50,[(2,none)],(.seq (.ops [oo 1 (.box 2 0),
 oo 2 (.mov (kI 0))])
 (.seq (.seq (.ops [oo 8 (.flA 0 1),
 oo 9 (.ld 1 false 8),
 oo 10 (.callF 53 [9]),
 oo 3 (.mov 10)])
 (.seq (.ops [oo 11 (.mov 3),
 oo 12 (.bin .neq 11 (kI 0))])
 (.cnd 12
 (.seq (.ops [oo 13 (.mov 3),
 oo 2 (.mov 13)])
 .ret)
 .skip)))
 (.seq (.seq (.ops [oo 14 (.flA 1 1),
 oo 15 (.ld 1 false 14),
 oo 16 (.len false 15),
 oo 17 (.bin .gtr 16 (kI 24))])
 (.cnd 17
 (.seq (.ops [oo 2 (.mov (kI 8))])
 .ret)
 .skip))
 (.seq (.ops [oo 18 (.bld [(.int .i64 0),(.int .i64 0),(.int .i64 0),(.int .i64 0),(.int .i64 0),(.int .i64 0),.nsl] []),
 oo 19 (.box 7 18),
 oo 4 (.mov 19)])
 (.seq (.seq (.ops [oo 5 (.mov (kI 0))])
 (.blk 0 (.loop (.seq (.seq (.ops [oo 20 (.mov 5),
 oo 21 (.flA 1 1),
 oo 22 (.ld 1 false 21),
 oo 23 (.len false 22),
 oo 24 (.bin .lss 20 23)])
 (.cnd 24
 .skip
 (.exit 0)))
 (.seq (.blk 1 (.seq (.ops [oo 27 (.flA 1 1),
 oo 28 (.ld 1 false 27),
 oo 29 (.mov 5),
 oo 30 (.ixA 5 28 29),
 oo 31 (.ld 5 true 30),
 oo 6 (.new [(.int .i64 0),(.int .i64 0),(.int .i64 0),(.int .i64 0),(.int .i64 0)]),
 ⟨none,none,(.st 5 6 31)⟩])
 (.seq (.seq (.ops [oo 32 (.flA 0 6),
 oo 33 (.ld 1 false 32),
 oo 34 (.callF 54 [33,(kI 1),(kI 6)]),
 oo 35 (.not 34)])
 (.cnd 35
 (.seq (.ops [oo 2 (.mov (kI 4))])
 .ret)
 .skip))
 (.seq (.seq (.ops [oo 36 (.ld 5 true 6),
 oo 37 (.callF 55 [36])])
 (.cnd 37
 (.seq (.ops [oo 2 (.mov (kI 3))])
 .ret)
 .skip))
 (.seq (.ops [oo 38 (.mov 4),
 oo 39 (.ld 2 true 1),
 oo 40 (.ld 5 true 6),
 oo 41 (.callF 56 [38,39,40]),
 oo 7 (.mov 41)])
 (.seq (.ops [oo 42 (.mov 7),
 oo 43 (.bin .neq 42 (kI 0))])
 (.cnd 43
 (.seq (.ops [oo 44 (.mov 7),
 oo 2 (.mov 44)])
 .ret)
 .skip)))))))
 (.ops [oo 25 (.mov 5),
 oo 26 (.bin .add 25 (kI 1)),
 oo 5 (.mov 26)]))))))
 (.seq (.seq (.ops [oo 45 (.mov 4),
 oo 46 (.nck 45),
 oo 47 (.flA 5 46),
 oo 48 (.ld 1 false 47),
 oo 49 (.bin .eql 48 (kI 0))])
 (.cnd 49
 (.seq (.ops [oo 2 (.mov (kI 6))])
 .ret)
 .skip))
 (.seq (.ops [oo 2 (.mov (kI 0))])
 .ret)))))))⟩
def hint19 (P:Program):Hint:={}
theorem trO0:trO [] tb0.tried:=fun w hw=>by
 rcases (by omega:w=0∨w=1∨w=2∨w=3∨w=4∨w=5) with rfl | rfl | rfl | rfl | rfl | rfl<;>simp[tb0]
theorem gRefCheck_c (G:Gm) (hw:G.ws.length<1000) (hd:G.ds.length<1000) (hs:∀w∈G.ws,w.name.size≤1000):Fn0 Try.prog 19 [gmA G] (fun v=>v= .int .i64 (gmErr G)):=by
 have hcw:=checkWoods_c G.ws hw hs
 obtain⟨R,hR⟩:∃R,gmErr G=R:=⟨_,rfl⟩
 rw[hR]
 unfold gmErr at hR
 obtain⟨W,hW⟩:∃W,(if G.ws=[] then (6:Int) else if 6<G.ws.length then 8 else wsErr [] G.ws)=W:=⟨_,rfl⟩
 rw[hW] at hcw
 by_cases hW0:W=0
 rotate_left
 · have hRW:R=W:=by
    rw[←hR,←hW]
    by_cases h1:G.ws=[]
    · rw[if_pos h1,if_pos h1]
    rw[if_neg h1,if_neg h1]
    by_cases h2:6<G.ws.length
    · rw[if_pos h2,if_pos h2]
    rw[if_neg h2,if_neg h2,if_neg]
    rw[if_neg h1,if_neg h2] at hW
    rw[hW];exact hW0
   subst hRW
   refine RawC.walk (H:=hint19 Try.prog) ir19 Try.func19 rfl rfl rfl ?_
   unfold ir19
   repeat' (first
    | refine advE ?_ | with_reducible refine w_alt ?_ ?_
    | with_reducible refine zI fun y hy=>?_ | refine advL ?_
    | ((with_reducible refine acall_id ?_);refine ACall.val hcw rfl rfl ?_)
    | refine adv ?_ | with_reducible (first | intro _ | refine Rt.p (fun _=>?_) fun _=>?_)
    | ((with_reducible apply w_ixM);(focus exact rfl);(focus exact rfl);case' hk=>intro y hy) | ((with_reducible (first | apply w_val | apply q_ends));(focus exact rfl)))
   all_goals first
    | (exfalso;omega)
    | rfl
 subst hW0
 have h1:¬G.ws=[]:=fun h=>by rw[if_pos h] at hW;exact absurd hW (by decide)
 rw[if_neg h1] at hW hR
 have h2:¬6<G.ws.length:=fun h=>by rw[if_pos h] at hW;exact absurd hW (by decide)
 rw[if_neg h2] at hW hR
 rw[if_pos hW] at hR
 have hpos:0<G.ws.length:=List.length_pos_iff.2 h1
 by_cases h3:24<G.ds.length
 · rw[if_pos h3] at hR
   subst hR
   refine RawC.walk (H:=hint19 Try.prog) ir19 Try.func19 rfl rfl rfl ?_
   unfold ir19
   repeat' (first
    | refine advE ?_ | with_reducible refine w_alt ?_ ?_
    | with_reducible refine zI fun y hy=>?_ | refine advL ?_
    | ((with_reducible refine acall_id ?_);refine ACall.val hcw rfl rfl ?_)
    | refine adv ?_ | with_reducible (first | intro _ | refine Rt.p (fun _=>?_) fun _=>?_)
    | ((with_reducible apply w_ixM);(focus exact rfl);(focus exact rfl);case' hk=>intro y hy) | ((with_reducible (first | apply w_val | apply q_ends));(focus exact rfl)))
   all_goals first
    | (exfalso;omega)
    | rfl
 rw[if_neg h3] at hR
 refine RawC.walk (H:=hint19 Try.prog) ir19 Try.func19 rfl rfl rfl ?_
 unfold ir19
 repeat' (first
  | refine advE ?_ | with_reducible refine w_alt ?_ ?_
  | with_reducible refine zI fun y hy=>?_ | refine advL ?_
  | ((with_reducible refine acall_id ?_);refine ACall.val hcw rfl rfl ?_)
  | refine adv ?_ | with_reducible (first | intro _ | refine Rt.p (fun _=>?_) fun _=>?_)
  | ((with_reducible apply w_ixM);(focus exact rfl);(focus exact rfl);case' hk=>intro y hy) | ((with_reducible (first | apply w_val | apply q_ends));(focus exact rfl)))
 all_goals try (exfalso;omega)
 rename_i g19
 refine w_loopK [1,4] [1] (fun x:List Dl×List Dl×Tb×List Int×Nat=>G.ds=x.1++x.2.1∧(if dsErr G.ws.length x.2.2.1 x.2.1=0 then (if (dsTab x.2.2.1 x.2.1).cens=0 then 6 else 0) else dsErr G.ws.length x.2.2.1 x.2.1)=R∧tbOK x.2.2.1∧trO x.2.2.2.1 x.2.2.1.tried∧x.2.2.2.1.length≤x.1.length) (fun x=>x.2.1.length) (fun x=>[(5,.int .i64 (x.1.length:Int))])
  (fun x=>[(19,(g19,.row (rtRow x.2.2.1 (trV 2001 x.2.2.2.1 x.2.2.2.2)))),(2001,trS x.2.2.2.1 x.2.2.2.2)]) ([],G.ds,tb0,[],0) ⟨rfl,hR,tb0_ok,trO0,Nat.le_refl _⟩ ⟨rfl,trivial⟩ ⟨rfl,rfl,trivial⟩ ?_
 rintro⟨pre,post,t,tr,h⟩ ⟨hl,hb,ht,hto,htl⟩ e σ
 dsimp only at hl hb ht hto htl ⊢
 have hlen:=congrArg List.length hl
 rw[List.length_append] at hlen
 have hbg:=ht.b
 cases post with
 | nil=>
   simp only[List.length_nil] at hlen
   rw[show dsErr G.ws.length t []=0 from rfl,if_pos rfl] at hb
   by_cases hc:t.cens=0
   · rw[show (dsTab t []).cens=t.cens from rfl,if_pos hc] at hb
     subst hb
     repeat' (first
      | refine advE ?_ | with_reducible refine w_alt ?_ ?_
      | (first | refine w_rtC rfl rfl rfl hbg ?_)
      | with_reducible refine zI fun y hy=>?_ | refine advL ?_
      | refine adv ?_ | with_reducible (first | intro _ | refine Rt.p (fun _=>?_) fun _=>?_)
      | ((with_reducible apply w_ixM);(focus exact rfl);(focus exact rfl);case' hk=>intro y hy) | ((with_reducible (first | apply w_val | apply q_ends));(focus exact rfl)))
     all_goals first
      | (exfalso;omega)
      | rfl
   · rw[show (dsTab t []).cens=t.cens from rfl,if_neg hc] at hb
     subst hb
     repeat' (first
      | refine advE ?_ | with_reducible refine w_alt ?_ ?_
      | (first | refine w_rtC rfl rfl rfl hbg ?_)
      | with_reducible refine zI fun y hy=>?_ | refine advL ?_
      | refine adv ?_ | with_reducible (first | intro _ | refine Rt.p (fun _=>?_) fun _=>?_)
      | ((with_reducible apply w_ixM);(focus exact rfl);(focus exact rfl);case' hk=>intro y hy) | ((with_reducible (first | apply w_val | apply q_ends));(focus exact rfl)))
     all_goals first
      | (exfalso;omega)
      | rfl
 | cons d post=>
   simp only[List.length_cons] at hlen
   have hk:=rin_c d.kind 1 6
   rw[dsErr] at hb
   obtain⟨E,hE⟩:∃E,dlErr G.ws.length d t=E:=⟨_,rfl⟩
   have hE':=hE
   unfold dlErr at hE'
   rw[hE] at hb
   by_cases e1:inB d.kind 1 6=true
   rotate_left
   · rw[if_neg e1] at hE'
     subst hE'
     simp only[show ¬(4:Int)=0 from by decide,if_false] at hb
     subst hb
     rw[show inB d.kind 1 6=false by simpa using e1] at hk
     repeat' (first
      | refine advE ?_ | with_reducible refine w_alt ?_ ?_
      | (refine w_ixP (f:=fun d:Dl=>[AV.int .i64 d.kind,.int .i64 d.bag,.int .i64 d.other,.int .i64 d.wood,.int .i64 d.count]) hl rfl rfl ?_)
      | with_reducible refine zI fun y hy=>?_ | refine advL ?_
      | ((with_reducible refine acall_id ?_);refine ACall.val hk rfl rfl ?_)
      | refine adv ?_ | with_reducible (first | intro _ | refine Rt.p (fun _=>?_) fun _=>?_)
      | ((with_reducible apply w_ixM);(focus exact rfl);(focus exact rfl);case' hk=>intro y hy) | ((with_reducible (first | apply w_val | apply q_ends));(focus exact rfl)))
     all_goals first
      | (exfalso;omega)
      | rfl
   rw[if_pos e1] at hE'
   rw[e1] at hk
   have hnd:=needless_c d e1
   by_cases e2:formD d=true
   rotate_left
   · rw[if_neg e2] at hE'
     subst hE'
     simp only[show ¬(3:Int)=0 from by decide,if_false] at hb
     subst hb
     rw[show formD d=false by simpa using e2] at hnd
     repeat' (first
      | refine advE ?_ | with_reducible refine w_alt ?_ ?_
      | (refine w_ixP (f:=fun d:Dl=>[AV.int .i64 d.kind,.int .i64 d.bag,.int .i64 d.other,.int .i64 d.wood,.int .i64 d.count]) hl rfl rfl ?_)
      | with_reducible refine zI fun y hy=>?_ | refine advL ?_
      | ((with_reducible refine acall_id ?_);refine ACall.val hk rfl rfl ?_)
      | ((with_reducible refine acall_id ?_);refine ACall.val hnd rfl rfl ?_)
      | refine adv ?_ | with_reducible (first | intro _ | refine Rt.p (fun _=>?_) fun _=>?_)
      | ((with_reducible apply w_ixM);(focus exact rfl);(focus exact rfl);case' hk=>intro y hy) | ((with_reducible (first | apply w_val | apply q_ends));(focus exact rfl)))
     all_goals first
      | (exfalso;omega)
      | rfl
   rw[if_pos e2] at hE'
   rw[e2] at hnd
   have hdl:=rdeal_c G d g19 h t tr ⟨by omega,by omega⟩ ht hto (by omega) e1
   rw[hE'] at hdl
   by_cases e3:E=0
   · subst e3
     rw[if_pos rfl] at hb
     repeat' (first
      | refine advE ?_ | with_reducible refine w_alt ?_ ?_
      | (refine w_ixP (f:=fun d:Dl=>[AV.int .i64 d.kind,.int .i64 d.bag,.int .i64 d.other,.int .i64 d.wood,.int .i64 d.count]) hl rfl rfl ?_)
      | with_reducible refine zI fun y hy=>?_ | refine advL ?_
      | ((with_reducible refine acall_id ?_);refine ACall.val hk rfl rfl ?_)
      | ((with_reducible refine acall_id ?_);refine ACall.val hnd rfl rfl ?_)
      | ((with_reducible refine acall_id ?_);(refine ACall.tab (α:=Tb×List Int×Nat) (p:=19) (q:=2001) (T:=fun x=>x.1) (R:=fun x=>x.2.1) (H:=fun x=>x.2.2) hdl rfl rfl rfl rfl rfl rfl rfl rfl rfl ?_ (by rintro x av ⟨hx,-⟩;exact⟨_,hx⟩);rintro⟨t2,tr2,h2⟩ _ ⟨rfl,hx⟩ _ _))
      | refine adv ?_ | with_reducible (first | intro _ | refine Rt.p (fun _=>?_) fun _=>?_)
      | ((with_reducible apply w_ixM);(focus exact rfl);(focus exact rfl);case' hk=>intro y hy) | ((with_reducible (first | apply w_val | apply q_ends));(focus exact rfl)))
     all_goals try (exfalso;omega)
     all_goals
      obtain⟨q1,q2,q3⟩:=hx rfl
      dsimp only at q1 q2 q3
      subst q1
      exact q_loop (pre++[d],post,dealT d t,tr2,h2) ⟨by rw[hl];simp,hb,dealT_ok e1 ht hE',q2,by dsimp only;rw[len_snoc];omega⟩ (Nat.lt_succ_self _) ⟨by rw[len_snoc];rfl,trivial⟩ ⟨rfl,rfl,trivial⟩ (by repeat' (first | exact kept_nil | apply kept_cons | rfl)) (by repeat' (first | exact kept_nil | apply kept_cons | rfl))
   · rw[if_neg e3,if_neg e3] at hb
     subst hb
     repeat' (first
      | refine advE ?_ | with_reducible refine w_alt ?_ ?_
      | (refine w_ixP (f:=fun d:Dl=>[AV.int .i64 d.kind,.int .i64 d.bag,.int .i64 d.other,.int .i64 d.wood,.int .i64 d.count]) hl rfl rfl ?_)
      | with_reducible refine zI fun y hy=>?_ | refine advL ?_
      | ((with_reducible refine acall_id ?_);refine ACall.val hk rfl rfl ?_)
      | ((with_reducible refine acall_id ?_);refine ACall.val hnd rfl rfl ?_)
      | ((with_reducible refine acall_id ?_);(refine ACall.tab (α:=Tb×List Int×Nat) (p:=19) (q:=2001) (T:=fun x=>x.1) (R:=fun x=>x.2.1) (H:=fun x=>x.2.2) hdl rfl rfl rfl rfl rfl rfl rfl rfl rfl ?_ (by rintro x av ⟨hx,-⟩;exact⟨_,hx⟩);rintro⟨t2,tr2,h2⟩ _ ⟨rfl,hx⟩ _ _))
      | refine adv ?_ | with_reducible (first | intro _ | refine Rt.p (fun _=>?_) fun _=>?_)
      | ((with_reducible apply w_ixM);(focus exact rfl);(focus exact rfl);case' hk=>intro y hy) | ((with_reducible (first | apply w_val | apply q_ends));(focus exact rfl)))
     all_goals first
      | (exfalso;omega)
      | rfl
def ir12:IFn:=
 ⟨48,[(2,none)],(.seq (.ops [oo 1 (.box 2 0),
 oo 2 (.mov (kB false))])
 (.seq (.seq (.ops [oo 6 (.flA 0 1),
 oo 7 (.ld 1 false 6),
 oo 8 (.len false 7),
 oo 9 (.bin .gtr 8 (kI 9)),
 oo 10 (.mov 9),
 ⟨(some 11),(some (10,false)),(.flA 1 1)⟩,
 ⟨(some 12),(some (10,false)),(.ld 1 false 11)⟩,
 ⟨(some 13),(some (10,false)),(.len false 12)⟩,
 ⟨(some 14),(some (10,false)),(.bin .gtr 13 (kI 30))⟩,
 oo 15 (.pick 10 (kB true) 14)])
 (.cnd 15
 (.seq (.ops [oo 2 (.mov (kB true))])
 .ret)
 .skip))
 (.seq (.seq (.ops [oo 3 (.mov (kI 0))])
 (.blk 0 (.loop (.seq (.seq (.ops [oo 16 (.mov 3),
 oo 17 (.flA 0 1),
 oo 18 (.ld 1 false 17),
 oo 19 (.len false 18),
 oo 20 (.bin .lss 16 19)])
 (.cnd 20
 .skip
 (.exit 0)))
 (.seq (.blk 1 (.seq (.ops [oo 23 (.flA 0 1),
 oo 24 (.ld 1 false 23),
 oo 25 (.mov 3),
 oo 26 (.ixA 2 24 25),
 oo 27 (.flA 0 26),
 oo 28 (.ld 1 false 27),
 oo 29 (.len true 28),
 oo 30 (.bin .gtr 29 (kI 40))])
 (.cnd 30
 (.seq (.ops [oo 2 (.mov (kB true))])
 .ret)
 .skip)))
 (.ops [oo 21 (.mov 3),
 oo 22 (.bin .add 21 (kI 1)),
 oo 3 (.mov 22)]))))))
 (.seq (.seq (.ops [oo 31 (.ld 2 true 1),
 oo 32 (.callF 19 [31]),
 oo 33 (.bin .neq 32 (kI 0))])
 (.cnd 33
 (.seq (.ops [oo 2 (.mov (kB false))])
 .ret)
 .skip))
 (.seq (.ops [oo 4 (.mov (kI 1))])
 (.seq (.seq (.ops [oo 34 (.ld 2 true 1),
 oo 35 (.callF 25 [34]),
 oo 36 (.len false 35),
 oo 5 (.mov 36)])
 (.blk 2 (.loop (.seq (.seq (.ops [oo 37 (.mov 5),
 oo 38 (.bin .gtr 37 (kI 0))])
 (.cnd 38
 .skip
 (.exit 2)))
 (.seq (.blk 3 (.seq (.ops [oo 41 (.mov 4),
 oo 42 (.flA 0 1),
 oo 43 (.ld 1 false 42),
 oo 44 (.len false 43),
 oo 45 (.bin .mul 41 44),
 oo 4 (.mov 45)])
 (.seq (.ops [oo 46 (.mov 4),
 oo 47 (.bin .gtr 46 (kI 20000))])
 (.cnd 47
 (.seq (.ops [oo 2 (.mov (kB true))])
 .ret)
 .skip))))
 (.ops [oo 39 (.mov 5),
 oo 40 (.bin .sub 39 (kI 1)),
 oo 5 (.mov 40)]))))))
 (.seq (.ops [oo 2 (.mov (kB false))])
 .ret)))))))⟩
def hint12 (P:Program):Hint:={}
structure smlG (G:Gm):Prop where
 w:G.ws.length≤9
 d:G.ds.length≤30
 s:∀w∈G.ws,w.name.size≤40
theorem szL_288 {G:Gm} (h:GOK G):(szL (stepsG G.ds) tb0.bags).length≤288:=by
 have h1:=acts_len G.ds h.cnt
 have h2:=h.d24
 rw[←szL_nrm,←acts_sp,szL_len]
 have h3:drawN ((actsF G.ds).map spOf)≤((actsF G.ds).map spOf).length:=List.length_filter_le _ _
 rw[List.length_map] at h3
 omega
theorem gmBig_c (G:Gm) (hw:G.ws.length<2^63) (hd:G.ds.length<2^63):Fn0 Try.prog 12 [gmA G] (fun v=>∃b,v= .bool b∧(b=false→smlG G)):=by
 have hwl:(wR G.ws).length=G.ws.length:=List.length_map _
 have hdl:(dlR G.ds).length=G.ds.length:=List.length_map _
 by_cases h1:G.ws.length≤9
 rotate_left
 · refine RawC.walk (H:=hint12 Try.prog) ir12 Try.func12 rfl rfl rfl ?_
   unfold ir12
   repeat' (first
    | refine advE ?_ | with_reducible refine w_alt ?_ ?_
    | with_reducible refine zI fun y hy=>?_ | refine advL ?_
    | refine adv ?_ | with_reducible (first | intro _ | refine Rt.p (fun _=>?_) fun _=>?_)
    | ((with_reducible apply w_ixM);(focus exact rfl);(focus exact rfl);case' hk=>intro y hy) | ((with_reducible (first | apply w_val | apply q_ends));(focus exact rfl)))
   all_goals first
    | (exfalso;omega)
    | exact⟨true,rfl,fun h=>by cases h⟩
 by_cases h2:G.ds.length≤30
 rotate_left
 · refine RawC.walk (H:=hint12 Try.prog) ir12 Try.func12 rfl rfl rfl ?_
   unfold ir12
   repeat' (first
    | refine advE ?_ | with_reducible refine w_alt ?_ ?_
    | with_reducible refine zI fun y hy=>?_ | refine advL ?_
    | refine adv ?_ | with_reducible (first | intro _ | refine Rt.p (fun _=>?_) fun _=>?_)
    | ((with_reducible apply w_ixM);(focus exact rfl);(focus exact rfl);case' hk=>intro y hy) | ((with_reducible (first | apply w_val | apply q_ends));(focus exact rfl)))
   all_goals first
    | (exfalso;omega)
    | exact⟨true,rfl,fun h=>by cases h⟩
 have hck:(∀w∈G.ws,w.name.size≤1000)→_:=gRefCheck_c G (by omega) (by omega)
 refine RawC.walk (H:=hint12 Try.prog) ir12 Try.func12 rfl rfl rfl ?_
 unfold ir12
 repeat' (first
  | refine advE ?_ | with_reducible refine w_alt ?_ ?_
  | with_reducible refine zI fun y hy=>?_ | refine advL ?_
  | refine adv ?_ | with_reducible (first | intro _ | refine Rt.p (fun _=>?_) fun _=>?_)
  | ((with_reducible apply w_ixM);(focus exact rfl);(focus exact rfl);case' hk=>intro y hy) | ((with_reducible (first | apply w_val | apply q_ends));(focus exact rfl)))
 all_goals try (exfalso;omega)
 rename_i g1
 refine w_loopK [1] [1] (fun x:List Wd×List Wd=>G.ws=x.1++x.2∧ ∀w∈x.1,w.name.size≤40) (fun x=>x.2.length) (fun x=>[(3,.int .i64 (x.1.length:Int))]) (fun _=>[]) ([],G.ws) ⟨rfl,fun w hw=>by cases hw⟩ ⟨rfl,trivial⟩ trivial ?_
 rintro⟨pre,post⟩ ⟨hl,hp⟩ e σ
 dsimp only at hl hp ⊢
 have hlen:=congrArg List.length hl
 rw[List.length_append] at hlen
 cases post with
 | cons y post=>
   simp only[List.length_cons] at hlen
   by_cases h40:y.name.size≤40
   · repeat' (first
      | refine advE ?_ | with_reducible refine w_alt ?_ ?_
      | (first | refine w_ixP (f:=fun w:Wd=>[AV.str w.name,.int .i64 w.fam]) hl rfl rfl ?_)
      | with_reducible refine zI fun y hy=>?_ | refine advL ?_
      | refine adv ?_ | with_reducible (first | intro _ | refine Rt.p (fun _=>?_) fun _=>?_)
      | ((with_reducible apply w_ixM);(focus exact rfl);(focus exact rfl);case' hk=>intro y hy) | ((with_reducible (first | apply w_val | apply q_ends));(focus exact rfl)))
     all_goals first
      | (exfalso;omega)
      | exact q_loop (pre++[y],post) ⟨by show G.ws=_;rw[hl];simp,fun w hw=>by
         rcases List.mem_append.1 hw with hw | hw
         · exact hp w hw
         · rw[List.mem_singleton.1 hw];exact h40⟩ (Nat.lt_succ_self _) ⟨by rw[len_snoc];rfl,trivial⟩ (by repeat' (first | exact slots_nil | apply slots_cons | rfl | (rw[map_snoc];rfl) | (rw[len_snoc];rfl) | (rw[hS];rfl) | (rw[hS,map_snoc];rfl) | (refine int_eq ?_;(try dsimp only);omega) | (refine congrArg AV.bool ?_;simp_all;done))) (by repeat' (first | exact kept_nil | apply kept_cons | rfl)) (by repeat' (first | exact kept_nil | apply kept_cons | rfl))
   · repeat' (first
      | refine advE ?_ | with_reducible refine w_alt ?_ ?_
      | (first | refine w_ixP (f:=fun w:Wd=>[AV.str w.name,.int .i64 w.fam]) hl rfl rfl ?_)
      | with_reducible refine zI fun y hy=>?_ | refine advL ?_
      | refine adv ?_ | with_reducible (first | intro _ | refine Rt.p (fun _=>?_) fun _=>?_)
      | ((with_reducible apply w_ixM);(focus exact rfl);(focus exact rfl);case' hk=>intro y hy) | ((with_reducible (first | apply w_val | apply q_ends));(focus exact rfl)))
     all_goals first
      | (exfalso;omega)
      | exact⟨true,rfl,fun h=>by cases h⟩
 | nil=>
   rw[List.append_nil] at hl
   subst hl
   have hsm:smlG G:=⟨h1,h2,hp⟩
   have hck:=hck fun w hw=>Nat.le_trans (hp w hw) (by decide)
   by_cases h0:gmErr G=0
   rotate_left
   · repeat' (first
      | refine advE ?_ | with_reducible refine w_alt ?_ ?_
      | with_reducible refine zI fun y hy=>?_ | refine advL ?_
      | ((with_reducible refine acall_id ?_);refine ACall.val hck rfl rfl ?_)
      | refine adv ?_ | with_reducible (first | intro _ | refine Rt.p (fun _=>?_) fun _=>?_)
      | ((with_reducible apply w_ixM);(focus exact rfl);(focus exact rfl);case' hk=>intro y hy) | ((with_reducible (first | apply w_val | apply q_ends));(focus exact rfl)))
     all_goals first
      | (exfalso;omega)
      | exact⟨false,rfl,fun _=>hsm⟩
   have hG:=gm_ok h0
   rw[h0] at hck
   have hsz:=Sizes_c G hG
   have hszl:=szL_288 hG
   have hn6:=hG.n6
   obtain⟨L,hL⟩:∃L,szL (stepsG G.ds) tb0.bags=L:=⟨_,rfl⟩
   rw[hL] at hsz hszl
   have hLl:(iR L).length=L.length:=List.length_map _
   repeat' (first
    | refine advE ?_ | with_reducible refine w_alt ?_ ?_
    | with_reducible refine zI fun y hy=>?_ | refine advL ?_
    | ((with_reducible refine acall_id ?_);refine ACall.val hck rfl rfl ?_)
    | ((with_reducible refine acall_id ?_);refine ACall.val hsz rfl rfl ?_)
    | refine adv ?_ | with_reducible (first | intro _ | refine Rt.p (fun _=>?_) fun _=>?_)
    | ((with_reducible apply w_ixM);(focus exact rfl);(focus exact rfl);case' hk=>intro y hy) | ((with_reducible (first | apply w_val | apply q_ends));(focus exact rfl)))
   all_goals try (exfalso;omega)
   refine w_loopK [1] [1] (fun x:Nat×Nat=>x.1≤20000∧x.2≤288) (fun x=>x.2) (fun x=>[(4,.int .i64 (x.1:Int)),(5,.int .i64 (x.2:Int))]) (fun _=>[]) (1,L.length) ⟨by show (1:Nat)≤20000;decide,hszl⟩ ⟨rfl,int_eq (by simp),trivial⟩ trivial ?_
   rintro⟨n,k⟩ ⟨hn,hk⟩ e σ
   dsimp only at hn hk ⊢
   have hml:(n:Int)*(G.ws.length:Int)≤20000*6:=Int.mul_le_mul (by omega) (by omega) (by omega) (by decide)
   have hml0:0≤(n:Int)*(G.ws.length:Int):=Int.mul_nonneg (by omega) (by omega)
   cases k with
   | zero=>
     repeat' (first
      | refine advE ?_ | with_reducible refine w_alt ?_ ?_
      | with_reducible refine zI fun y hy=>?_ | refine advL ?_
      | refine adv ?_ | with_reducible (first | intro _ | refine Rt.p (fun _=>?_) fun _=>?_)
      | ((with_reducible apply w_ixM);(focus exact rfl);(focus exact rfl);case' hk=>intro y hy) | ((with_reducible (first | apply w_val | apply q_ends));(focus exact rfl)))
     all_goals first
      | (exfalso;omega)
      | exact⟨false,rfl,fun _=>hsm⟩
   | succ k=>
     repeat' (first
      | refine advE ?_ | with_reducible refine w_alt ?_ ?_
      | with_reducible refine zI fun y hy=>?_ | refine advL ?_
      | refine adv ?_ | with_reducible (first | intro _ | refine Rt.p (fun _=>?_) fun _=>?_)
      | ((with_reducible apply w_ixM);(focus exact rfl);(focus exact rfl);case' hk=>intro y hy) | ((with_reducible (first | apply w_val | apply q_ends));(focus exact rfl)))
     all_goals first
      | (exfalso;omega)
      | exact⟨true,rfl,fun h=>by cases h⟩
      | exact q_loop (n*G.ws.length,k) ⟨by show n*G.ws.length≤20000;have:((n*G.ws.length:Nat):Int)=n*G.ws.length:=by simp
                                           omega,by show k≤288;omega⟩ (Nat.lt_succ_self _) ⟨int_eq (by simp),int_eq (by simp),trivial⟩ (by repeat' (first | exact slots_nil | apply slots_cons | rfl | (rw[map_snoc];rfl) | (rw[len_snoc];rfl) | (rw[hS];rfl) | (rw[hS,map_snoc];rfl) | (refine int_eq ?_;(try dsimp only);omega) | (refine congrArg AV.bool ?_;simp_all;done))) (by repeat' (first | exact kept_nil | apply kept_cons | rfl)) (by repeat' (first | exact kept_nil | apply kept_cons | rfl))
theorem w_ldBag {P:Program} {K:(Nat→AV)→Sig→Prop} {e:Nat→AV} {σ:Sig} {x:IOpd} {r:List IStep} {T:Tb} {d i g off p:Nat} (h:tbOK T) (hx:x.ev e= .ref i g off) (ho:off=p) (hσ:σ i=(g,.row (nI T.bags))) (hp:p<4) (hk:0≤T.bags.getD p 0∧T.bags.getD p 0≤12→stepsW P r K (upd e d (.int .i64 (T.bags.getD p 0))) σ):stepsW P (⟨some d,none,.ld 1 false x⟩::r) K e σ:=
 w_ldEl hx ho hσ (by rw[h.b];exact hp) (hk (h.at (b:=(p:Int)) hp))
def goV (s:Nat) (l:List (List Int×Int)) (h:Nat):AV:=match l with
 | []=> .nsl
 | _::_=> .slc 1 (llR (l.map (·.1))) (.own s h)
def goW (s:Nat) (l:List (List Int×Int)) (h:Nat):AV:=match l with
 | []=> .nsl
 | _::_=> .slc 1 (iR (l.map (·.2))) (.own s h)
def goX (l:List (List Int×Int)) (h:Nat):Nat×Res:=match l with
 | []=>(0,.dead)
 | _::_=>(h,.row [])
abbrev soR (G:Gm) (A:List Dl) (m:Int) (x y:AV):List AV:=[.slc 2 (wR G.ws) .non,.slc 5 (dlR G.ds) .non,.slc 5 (dlR A) .non,.int .i64 m,x,y]
abbrev soS (s g:Nat) (G:Gm) (A:List Dl) (m:Int) (l:List (List Int×Int)) (h1 h2:Nat):List (Nat×(Nat×Res)):=[(1000,(g,.row (soR G A m (goV s l h1) (goW (s+1) l h2)))),(s,goX l h1),(s+1,goX l h2)]
theorem ren_goV {ρ:List (Nat×Nat)} {s q:Nat} (h:lk ρ s=some q) (l:List (List Int×Int)) (g:Nat):ren ρ (goV s l g)=goV q l g:=by
 cases l with
 | nil=>rfl
 | cons x r=>
   show AV.slc 1 (llR ((x::r).map (·.1))) (renT ρ (.own s g))=_
   simp only[renT,h];rfl
theorem ren_goW {ρ:List (Nat×Nat)} {s q:Nat} (h:lk ρ s=some q) (l:List (List Int×Int)) (g:Nat):ren ρ (goW s l g)=goW q l g:=by
 cases l with
 | nil=>rfl
 | cons x r=>
   show AV.slc 1 (iR ((x::r).map (·.2))) (renT ρ (.own s g))=_
   simp only[renT,h];rfl
theorem goX_ren {ρ:List (Nat×Nat)} (l:List (List Int×Int)) (h:Nat):((goX l h).1,renR ρ (goX l h).2)=goX l h:=by cases l<;>rfl
theorem ACall.so {P:Program} {f:Nat} {args0 args:List AV} {s0 p g h1 h2 d:Nat} {G:Gm} {A:List Dl} {m:Int} {l:List (List Int×Int)} {C:List (List Int×Int)→Prop} {σ:Sig} {Q:AV→Sig→Prop}
  (h:RawC P f args0 (sg (soS s0 g G A m l h1 h2)) (SR (fun (x:List (List Int×Int)×Nat×Nat) _=>C x.1) (fun x=>soS s0 g G A m x.1 x.2.1 x.2.2)))
  (hp1:p≠2001) (hp2:p≠2002) (hr1:renOK [(s0,2001),(s0+1,2002),(1000,p)]=true) (hr2:renOK [(1000,p),(s0,2001),(s0+1,2002)]=true)
  (l1:lk [(s0,2001),(s0+1,2002),(1000,p)] s0=some 2001) (l2:lk [(s0,2001),(s0+1,2002),(1000,p)] (s0+1)=some 2002) (l3:lk [(1000,p),(s0,2001),(s0+1,2002)] s0=some 2001) (l4:lk [(1000,p),(s0,2001),(s0+1,2002)] (s0+1)=some 2002)
  (l5:lk (flipL [(1000,p),(s0,2001),(s0+1,2002)]) 2001=some s0) (l6:lk (flipL [(1000,p),(s0,2001),(s0+1,2002)]) 2002=some (s0+1))
  (n1:Nat.beq 1000 s0=false) (n2:Nat.beq 1000 (s0+1)=false) (n3:Nat.beq s0 (s0+1)=false)
  (ha1:args0=renL (flipL [(1000,p)]) args) (ha2:args0=renL (flipL [(1000,p),(s0,2001),(s0+1,2002)]) args)
  (hp:σ p=(g,.row (soR G A m (goV 2001 l h1) (goW 2002 l h2)))) (hσ1:σ 2001=goX l h1) (hσ2:σ 2002=goX l h2)
  (hQ:∀(x:List (List Int×Int)) (k1 k2:Nat) av,C x→Q av (upd (upd (upd σ 2002 (goX x k2)) 2001 (goX x k1)) p (g,.row (soR G A m (goV 2001 x k1) (goW 2002 x k2))))):ACall P f args σ d Q:=by
 have y1:Nat.ble YS 2001=true:=rfl
 have y2:Nat.ble YS 2002=true:=rfl
 have hos:outsB d [(s0,2001),(s0+1,2002)]=true:=by simp[outsB,y1,y2]
 cases l with
 | nil=>
   have e0:sg (soS s0 g G A m [] h1 h2)=sg [(1000,(g,.row (soR G A m .nsl .nsl)))]:=by
    funext j
    show (match Nat.beq 1000 j with | true=>_ | false=>(match Nat.beq s0 j with | true=>((0,Res.dead):Nat×Res) | false=>(match Nat.beq (s0+1) j with | true=>(0,.dead) | false=>(0,.dead))))=(match Nat.beq 1000 j with | true=>_ | false=>_)
    split
    · rfl
    · split
      · rfl
      · split<;>rfl
   rw[e0] at h
   refine ACall.liftN h [(1000,p)] [(s0,2001),(s0+1,2002)] hos hr1 ha1 ?_ ⟨⟨_,by rw[hp]⟩,trivial⟩ fun av σ0' hR=>?_
   · show _=[(1000,((σ p).1,renR _ (σ p).2))]
     rw[hp]
     rfl
   · obtain⟨⟨x,a,b⟩,hv,hsl⟩:=hR
     obtain⟨k1,k2,k3,-⟩:=hsl
     show Q _ (upd (upd (upd σ p ((σ0' 1000).1,renR [(s0,2001),(s0+1,2002),(1000,p)] (σ0' 1000).2)) 2002 ((σ0' (s0+1)).1,renR [(s0,2001),(s0+1,2002),(1000,p)] (σ0' (s0+1)).2)) 2001 ((σ0' s0).1,renR [(s0,2001),(s0+1,2002),(1000,p)] (σ0' s0).2))
     rw[k1,k2,k3,goX_ren,goX_ren]
     have e1:renR [(s0,2001),(s0+1,2002),(1000,p)] (.row (soR G A m (goV s0 x a) (goW (s0+1) x b)))= .row (soR G A m (goV 2001 x a) (goW 2002 x b)):=by
      show Res.row [_,_,_,_,ren _ (goV s0 x a),ren _ (goW (s0+1) x b)]=_
      rw[ren_goV l1,ren_goW l2];rfl
     show Q _ (upd (upd (upd σ p (g,renR [(s0,2001),(s0+1,2002),(1000,p)] (.row (soR G A m (goV s0 x a) (goW (s0+1) x b))))) 2002 (goX x b)) 2001 (goX x a))
     rw[e1,upd_comm hp2,upd_comm hp1]
     exact hQ x a b _ hv
 | cons c cs=>
   refine ACall.liftN h [(1000,p),(s0,2001),(s0+1,2002)] [] rfl hr2 ha2 ?_ ⟨⟨_,by rw[hp]⟩,⟨[],by rw[hσ1];rfl⟩,⟨[],by rw[hσ2];rfl⟩,trivial⟩ fun av σ0' hR=>?_
   · show _=[(1000,((σ p).1,renR (flipL [(1000,p),(s0,2001),(s0+1,2002)]) (σ p).2)),(s0,((σ 2001).1,renR (flipL [(1000,p),(s0,2001),(s0+1,2002)]) (σ 2001).2)),(s0+1,((σ 2002).1,renR (flipL [(1000,p),(s0,2001),(s0+1,2002)]) (σ 2002).2))]
     rw[hp,hσ1,hσ2,goX_ren,goX_ren]
     have e1:renR (flipL [(1000,p),(s0,2001),(s0+1,2002)]) (.row (soR G A m (goV 2001 (c::cs) h1) (goW 2002 (c::cs) h2)))= .row (soR G A m (goV s0 (c::cs) h1) (goW (s0+1) (c::cs) h2)):=by
      show Res.row [_,_,_,_,ren _ (goV 2001 (c::cs) h1),ren _ (goW 2002 (c::cs) h2)]=_
      rw[ren_goV l5,ren_goW l6];rfl
     rw[e1]
   · obtain⟨⟨x,a,b⟩,hv,hsl⟩:=hR
     obtain⟨k1,k2,k3,-⟩:=hsl
     show Q _ (upd (upd (upd σ 2002 ((σ0' (s0+1)).1,renR [(1000,p),(s0,2001),(s0+1,2002)] (σ0' (s0+1)).2)) 2001 ((σ0' s0).1,renR [(1000,p),(s0,2001),(s0+1,2002)] (σ0' s0).2)) p ((σ0' 1000).1,renR [(1000,p),(s0,2001),(s0+1,2002)] (σ0' 1000).2))
     rw[k1,k2,k3,goX_ren,goX_ren]
     have e1:renR [(1000,p),(s0,2001),(s0+1,2002)] (.row (soR G A m (goV s0 x a) (goW (s0+1) x b)))= .row (soR G A m (goV 2001 x a) (goW 2002 x b)):=by
      show Res.row [_,_,_,_,ren _ (goV s0 x a),ren _ (goW (s0+1) x b)]=_
      rw[ren_goV l3,ren_goW l4];rfl
     show Q _ (upd (upd (upd σ 2002 (goX x b)) 2001 (goX x a)) p (g,renR [(1000,p),(s0,2001),(s0+1,2002)] (.row (soR G A m (goV s0 x a) (goW (s0+1) x b)))))
     rw[e1]
     exact hQ x a b _ hv
structure goH (G:Gm) (A:List Dl) (b:List Int) (m:Int):Prop where
 n6:G.ws.length≤6
 t:tbIn b m
 r:runOK G.ws.length (A.map spOf) b m
 B:bgT G.ws.length b bg0
 a:A.length<1000
theorem goH.cnt {G:Gm} {A:List Dl} {b:List Int} {m:Int} (h:goH G A b m) {a:AV} {c:List Int} (hc:CV a c) (hl:c.length<1000):Fn0 Try.prog 92 [.slc 5 (dlR A) .non,bgV bg0,a] (fun v=>v= .int .i64 (cntP (A.map spOf) c bg0)):=
 rcount_c _ h.n6 A b m bg0 c a hc h.t h.r h.B h.a hl
end Go.Abs
