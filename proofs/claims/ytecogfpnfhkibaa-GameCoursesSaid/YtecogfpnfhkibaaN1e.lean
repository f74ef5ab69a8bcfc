/- A part of the proofs of the laws of this seat: contracts of the functions that they reach, each proved of the program's form in Lean. No condition beyond those that each contract names. -/
import Derived.Test.YtecogfpnfhkibaaProg
import Derived.Test.YtecogfpnfhkibaaSnd3
import Derived.Test.YtecogfpnfhkibaaA0
import Derived.Test.YtecogfpnfhkibaaN1a
import Derived.Test.YtecogfpnfhkibaaN1b
import Derived.Test.YtecogfpnfhkibaaN1c
import Derived.Test.YtecogfpnfhkibaaN1d
set_option linter.unusedVariables false
set_option linter.unusedSimpArgs false
set_option maxRecDepth 20000
set_option maxHeartbeats 4000000
namespace Go.Abs
open Go.Proofs
structure GOK (G:Gm):Prop where
 n1:1≤G.ws.length
 n6:G.ws.length≤6
 d24:G.ds.length≤24
 cnt:∀d∈G.ds,drawsB d=true→1≤d.count∧d.count≤12
 cen:1≤censG (stepsG G.ds)∧censG (stepsG G.ds)≤9
 wd:wdOK G.ws.length (stepsG G.ds)
 ex:runOK G.ws.length (stepsG G.ds) tb0.bags tb0.mixed
 ws:wsErr [] G.ws=0
 ds:dsErr G.ws.length tb0 G.ds=0
theorem bgT0 (n:Nat):bgT n tb0.bags bg0:=by
 refine⟨rfl,fun v hv=>?_,fun i w _ _=>bg0_at i w,fun i hi=>?_⟩
 · rw[(List.mem_replicate.1 hv).2];decide
 · rw[nSum6,bg0_at,bg0_at,bg0_at,bg0_at,bg0_at,bg0_at]
   rcases (by omega:i=0∨i=1∨i=2∨i=3) with rfl | rfl | rfl | rfl<;>rfl
theorem dl_of {n:Nat} {d:Dl} {t:Tb} (h:dlErr n d t=0):inB d.kind 1 6=true∧formD d=true∧dealE n d t=0:=by
 unfold dlErr at h
 by_cases hk:inB d.kind 1 6=true
 · rw[if_pos hk] at h
   by_cases hf:formD d=true
   · rw[if_pos hf] at h;exact⟨hk,hf,h⟩
   · rw[if_neg hf] at h;exact absurd h (by decide)
 · rw[if_neg hk] at h;exact absurd h (by decide)
theorem ds_cons {n:Nat} {t:Tb} {d:Dl} {r:List Dl} (h:dsErr n t (d::r)=0):dlErr n d t=0∧dsErr n (dealT d t) r=0:=by
 rw[dsErr] at h
 by_cases hd:dlErr n d t=0
 · rw[if_pos hd] at h;exact⟨hd,h⟩
 · rw[if_neg hd] at h;exact absurd h hd
theorem deals_tab {n:Nat}:∀(l:List Dl) (t:Tb),tbOK t→dsErr n t l=0→tbOK (dsTab t l)
 | [],t,h,_=>h
 | d::r,t,h,h0=>by
   obtain⟨h1,h2⟩:=ds_cons h0
   obtain⟨k1,k2,k3⟩:=dl_of h1
   exact deals_tab r _ (dealT_ok k1 h k3) h2
theorem stp1_wd {n:Nat} {d:Dl} {t:Tb} (hk:inB d.kind 1 6=true) (h0:dealE n d t=0):wdOK n (stp1 d):=by
 intro x hx h1 h2
 unfold stp1 at hx
 split at hx
 · rw[(List.mem_replicate.1 hx).2] at h2;cases h2
 · rw[List.mem_singleton.1 hx] at h1 ⊢
   have h6:d.kind=6:=by simpa using h1
   unfold dealE at h0
   rw[if_neg (by omega),if_neg (by omega),if_neg (by omega),if_neg (by omega),if_neg (by omega)] at h0
   have:=inB_t.1 (place_0 h0)
   exact⟨this.1,by show d.wood<_;omega⟩
theorem deals_wd {n:Nat}:∀(l:List Dl) (t:Tb),dsErr n t l=0→wdOK n (stepsG l)
 | [],_,_=>fun x hx=>by cases hx
 | d::r,t,h0=>by
   obtain⟨h1,h2⟩:=ds_cons h0
   obtain⟨k1,k2,k3⟩:=dl_of h1
   intro x hx
   rcases List.mem_append.1 (show x∈stp1 d++stepsG r from hx) with hx | hx
   · exact stp1_wd k1 k3 x hx
   · exact deals_wd r _ h2 x hx
theorem gm_ok {G:Gm} (h:gmErr G=0):GOK G:=by
 unfold gmErr at h
 by_cases h1:G.ws=[]
 · rw[if_pos h1] at h;exact absurd h (by decide)
 rw[if_neg h1] at h
 by_cases h2:6<G.ws.length
 · rw[if_pos h2] at h;exact absurd h (by decide)
 rw[if_neg h2] at h
 by_cases h3:wsErr [] G.ws=0
 rotate_left
 · rw[if_neg h3] at h;exact absurd h h3
 rw[if_pos h3] at h
 by_cases h4:24<G.ds.length
 · rw[if_pos h4] at h;exact absurd h (by decide)
 rw[if_neg h4] at h
 by_cases h5:dsErr G.ws.length tb0 G.ds=0
 rotate_left
 · rw[if_neg h5] at h;exact absurd h h5
 rw[if_pos h5] at h
 by_cases h6:(dsTab tb0 G.ds).cens=0
 · rw[if_pos h6] at h;exact absurd h (by decide)
 obtain⟨i1,i2,i3⟩:=deals_run G.ds tb0 tb0_ok h5
 have hw0:G.ws.length≠0:=fun e=>h1 (List.eq_nil_of_length_eq_zero e)
 have hc0:tb0.cens=0:=rfl
 have hc9:=(deals_tab G.ds tb0 tb0_ok h5).c
 exact⟨by omega,by omega,by omega,i1,⟨by omega,by omega⟩,deals_wd _ _ h5,i2,h3,h5⟩
theorem tb0_in:tbIn tb0.bags tb0.mixed:=tb0_ok.tin
theorem bgT.bgin {n:Nat} {b B:List Int} {m:Int} (h:bgT n b B) (ht:tbIn b m):bgIn B:=by
 refine⟨h.l,fun v hv=>?_⟩
 obtain⟨p,hp,rfl⟩:=List.getElem_of_mem hv
 have hp24:p<24:=by rw[←h.l];exact hp
 have hi:(0:Int)≤(p/6:Nat)∧((p/6:Nat):Int)≤3:=by omega
 have:=h.at hi (w:=(p%6:Nat)) (by omega)
 have h2:=ht.le hi
 have h3:=ht.sm
 have h4:=ht.m
 have e:bgAt B (p/6:Nat) (p%6:Nat)=B[p]:=by
  unfold bgAt
  rw[Int.toNat_natCast,Int.toNat_natCast,show p/6*6+p%6=p by omega,List.getD_eq_getElem?_getD,List.getElem?_eq_getElem hp];rfl
 rw[e] at this
 omega
theorem crsG_list {G:Gm} (h:GOK G):crsG G=((allL G.ws.length (censG (stepsG G.ds))).filter fun s=>decide (0<cwG G s)).map fun s=>(s,cwG G s):=crsG_eq G (run_stOK h.ex)
theorem szP_pos {n:Nat}:∀{l:List Sp} {b:List Int} {m:Int},runOK n l b m→1≤szP l b
 | [],_,_,_=>Int.le_refl _
 | x::r,b,m,h=>by
   have ih:=szP_pos h.2
   rw[szP]
   split
   · have:=(h.1.d (by assumption)).2
     have:1*1≤atI b x.1.bag*szP r (spB x b):=Int.mul_le_mul this ih (by decide) (by omega)
     omega
   · omega
theorem lsum_pos {f:List Int→Int}:∀{L:List (List Int)},0<lsum L f→ ∃s∈L,0<f s
 | [],h=>by simp[lsum] at h
 | a::r,h=>by
   rw[lsum_cons] at h
   by_cases ha:0<f a
   · exact⟨a,by simp,ha⟩
   · obtain⟨s,hs,hf⟩:=lsum_pos (L:=r) (f:=f) (by omega)
     exact⟨s,by simp[hs],hf⟩
def allW (G:Gm):Int:=szP (stepsG G.ds) tb0.bags
theorem cwG_tot {G:Gm} (h:GOK G):lsum (allL G.ws.length (censG (stepsG G.ds))) (cwG G)=allW G:=cnt_tot h.n6 tb0_in h.ex h.wd (bgT0 _)
theorem crsG_mem {G:Gm} (h:GOK G) {c:List Int×Int}:c∈crsG G↔(c.1.length=censG (stepsG G.ds)∧ ∀w∈c.1,0≤w∧w<G.ws.length)∧0<cwG G c.1∧c.2=cwG G c.1:=by
 rw[crsG_list h,List.mem_map]
 constructor
 · rintro⟨s,hs,rfl⟩
   obtain⟨h1,h2⟩:=List.mem_filter.1 hs
   exact⟨allL_mem.1 h1,by simpa using h2,rfl⟩
 · rintro⟨h1,h2,h3⟩
   exact⟨c.1,List.mem_filter.2 ⟨allL_mem.2 h1,by simpa using h2⟩,by rw[←h3]⟩
theorem crsG_ne {G:Gm} (h:GOK G):crsG G≠[]:=fun e=>by
 have h1:=cwG_tot h
 have h2:=szP_pos h.ex
 obtain⟨s,hs,hp⟩:=lsum_pos (L:=allL G.ws.length (censG (stepsG G.ds))) (f:=cwG G) (by rw[h1];exact h2)
 have:(s,cwG G s)∈crsG G:=(crsG_mem h).2 ⟨allL_mem.1 hs,hp,rfl⟩
 rw[e] at this
 cases this
theorem szP_le {n:Nat}:∀{l:List Sp} {b:List Int} {m:Int},tbIn b m→runOK n l b m→szP l b≤fct (sumB b+12-m).toNat
 | [],b,m,_,_=>fct_pos _
 | x::r,b,m,ht,h=>by
   obtain⟨ht2,hs⟩:=ht.step h.1
   have ih:=szP_le ht2 h.2
   rw[szP]
   by_cases hd:x.2.1=true
   · obtain⟨hb,ha⟩:=h.1.d hd
     rw[if_pos hd] at hs ⊢
     have hle:=ht.le hb
     have hsm:=ht.sm
     have hm:=ht.m
     obtain⟨k,hk⟩:∃k:Nat,(sumB b+12-m).toNat=k+1:=⟨(sumB b+12-m).toNat-1,by omega⟩
     have hk2:(sumB (spB x b)+12-spM x m).toNat=k:=by omega
     rw[hk2] at ih
     rw[hk]
     have hz:=szP_pos h.2
     have e1:atI b x.1.bag*szP r (spB x b)≤((k+1:Nat):Int)*fct k:=Int.mul_le_mul (by omega) ih (by omega) (by omega)
     exact e1
   · rw[if_neg hd] at hs ⊢
     have hk2:(sumB (spB x b)+12-spM x m).toNat=(sumB b+12-m).toNat:=by omega
     rw[hk2] at ih
     omega
theorem allW_bd {G:Gm} (h:GOK G):1≤allW G∧allW G≤479001600:=by
 have:=szP_le tb0_in h.ex
 have e:(sumB tb0.bags+12-tb0.mixed).toNat=12:=by decide
 rw[e,fct12] at this
 exact⟨szP_pos h.ex,this⟩
theorem lsum_filter (f:List Int→Int) (hf:∀s,0≤f s):∀L:List (List Int),lsum (L.filter fun s=>decide (0<f s)) f=lsum L f
 | []=>rfl
 | a::r=>by
   rw[List.filter_cons,lsum_cons]
   have:=hf a
   split
   · rw[lsum_cons,lsum_filter f hf r]
   · rename_i h
     rw[lsum_filter f hf r]
     have:¬0<f a:=by simpa using h
     omega
theorem cwG_nn {G:Gm} (h:GOK G) (s:List Int):0≤cwG G s:=cntG_nn _ (run_stOK h.ex) s nn_bg0
def sumA:List (List Int×Int)→Int
 | []=>0
 | y::r=>y.2+sumA r
theorem sumA_map (f:List Int→Int):∀L:List (List Int),sumA (L.map fun s=>(s,f s))=lsum L f
 | []=>rfl
 | a::r=>by rw[List.map_cons,sumA,lsum_cons,sumA_map f r]
theorem crsG_sum {G:Gm} (h:GOK G):sumA (crsG G)=allW G:=by
 rw[crsG_list h,sumA_map,lsum_filter _ (cwG_nn h),cwG_tot h]
def ir69:IFn:=
 ⟨33,[(4,none)],(.seq (.ops [oo 2 (.box 2 0),
 oo 3 (.box 2 1),
 oo 4 (.mov (kI 0))])
 (.seq (.blk 0 (.seq (.ops [oo 6 (.flA 0 3),
 oo 7 (.ld 1 false 6),
 oo 8 (.callF 50 [7,(kI 1),(kI 6)]),
 oo 9 (.not 8),
 oo 5 (.mov 9)])
 (.cnd 5
 (.seq (.ops [oo 4 (.mov (kI 4))])
 .ret)
 (.seq (.ops [oo 11 (.flA 0 3),
 oo 12 (.ld 1 false 11),
 oo 13 (.bin .neq 12 (kI 4)),
 oo 14 (.mov 13),
 ⟨(some 15),(some (14,true)),(.flA 1 3)⟩,
 ⟨(some 16),(some (14,true)),(.ld 1 false 15)⟩,
 ⟨(some 17),(some (14,true)),(.bin .neq 16 (kI 0))⟩,
 oo 18 (.pick 14 17 (kB false)),
 oo 10 (.mov 18)])
 (.cnd 10
 (.seq (.ops [oo 4 (.mov (kI 3))])
 .ret)
 (.seq (.ops [oo 20 (.flA 0 3),
 oo 21 (.ld 1 false 20),
 oo 22 (.bin .eql 21 (kI 4)),
 oo 23 (.mov 22),
 ⟨(some 24),(some (23,true)),(.flA 1 3)⟩,
 ⟨(some 25),(some (23,true)),(.ld 1 false 24)⟩,
 ⟨(some 26),(some (23,true)),(.flA 0 2)⟩,
 ⟨(some 27),(some (23,true)),(.ld 1 false 26)⟩,
 ⟨(some 28),(some (23,true)),(.len false 27)⟩,
 ⟨(some 29),(some (23,true)),(.bin .sub 28 (kI 1))⟩,
 ⟨(some 30),(some (23,true)),(.callF 50 [25,(kI 0),29])⟩,
 ⟨(some 31),(some (23,true)),(.not 30)⟩,
 oo 32 (.pick 23 31 (kB false)),
 oo 19 (.mov 32)])
 (.cnd 19
 (.seq (.ops [oo 4 (.mov (kI 7))])
 .ret)
 .skip)))))))
 (.seq (.ops [oo 4 (.mov (kI 0))])
 .ret)))⟩
def hint69 (P:Program):Hint:={}
structure Aq where
 kind:Int
 wood:Int
 deriving DecidableEq
abbrev aqA (a:Aq):AV:= .agg [.int .i64 a.kind,.int .i64 a.wood]
def askErr (n:Nat) (a:Aq):Int:=if inB a.kind 1 6=true then (if a.kind=4 then (if inB a.wood 0 (n-1)=true then 0 else 7) else if a.wood=0 then 0 else 3) else 4
theorem checkAsk_c (G:Gm) (a:Aq) (hn:G.ws.length<1000):Fn0 Try.prog 69 [gmA G,aqA a] (fun v=>v= .int .i64 (askErr G.ws.length a)):=by
 obtain⟨B,hB⟩:∃B,askErr G.ws.length a=B:=⟨_,rfl⟩
 rw[hB]
 unfold askErr at hB
 have h1:=gin_c a.kind 1 6
 have h2:=gin_c a.wood 0 (G.ws.length-1)
 cases e1:inB a.kind 1 6 with
 | false=>
   rw[e1] at hB h1
   rw[if_neg Bool.false_ne_true] at hB
   subst hB
   refine RawC.walk (H:=hint69 Try.prog) ir69 Try.func69 rfl rfl rfl ?_
   unfold ir69
   repeat' (first
    | refine advE ?_ | with_reducible refine w_alt ?_ ?_
    | with_reducible refine zI fun y hy=>?_ | refine advL ?_
    | ((with_reducible refine acall_id ?_);refine ACall.val h1 rfl rfl ?_)
    | refine adv ?_ | with_reducible (first | intro _ | refine Rt.p (fun _=>?_) fun _=>?_)
    | ((with_reducible apply w_ixM);(focus exact rfl);(focus exact rfl);case' hk=>intro y hy) | ((with_reducible (first | apply w_val | apply q_ends));(focus exact rfl)))
   all_goals first
    | (exfalso;omega)
    | rfl
 | true=>
   rw[e1] at hB h1
   rw[if_pos rfl] at hB
   by_cases e4:a.kind=4
   · rw[if_pos e4] at hB
     cases e2:inB a.wood 0 (G.ws.length-1) with
     | true=>
       rw[e2] at hB h2
       rw[if_pos rfl] at hB
       subst hB
       refine RawC.walk (H:=hint69 Try.prog) ir69 Try.func69 rfl rfl rfl ?_
       unfold ir69
       repeat' (first
        | refine advE ?_ | with_reducible refine w_alt ?_ ?_
        | with_reducible refine zI fun y hy=>?_ | refine advL ?_
        | ((with_reducible refine acall_id ?_);refine ACall.val h1 rfl rfl ?_)
        | ((with_reducible refine acall_id ?_);refine ACall.val h2 rfl rfl ?_)
        | refine adv ?_ | with_reducible (first | intro _ | refine Rt.p (fun _=>?_) fun _=>?_)
        | ((with_reducible apply w_ixM);(focus exact rfl);(focus exact rfl);case' hk=>intro y hy) | ((with_reducible (first | apply w_val | apply q_ends));(focus exact rfl)))
       all_goals first
        | (exfalso;omega)
        | rfl
     | false=>
       rw[e2] at hB h2
       rw[if_neg Bool.false_ne_true] at hB
       subst hB
       refine RawC.walk (H:=hint69 Try.prog) ir69 Try.func69 rfl rfl rfl ?_
       unfold ir69
       repeat' (first
        | refine advE ?_ | with_reducible refine w_alt ?_ ?_
        | with_reducible refine zI fun y hy=>?_ | refine advL ?_
        | ((with_reducible refine acall_id ?_);refine ACall.val h1 rfl rfl ?_)
        | ((with_reducible refine acall_id ?_);refine ACall.val h2 rfl rfl ?_)
        | refine adv ?_ | with_reducible (first | intro _ | refine Rt.p (fun _=>?_) fun _=>?_)
        | ((with_reducible apply w_ixM);(focus exact rfl);(focus exact rfl);case' hk=>intro y hy) | ((with_reducible (first | apply w_val | apply q_ends));(focus exact rfl)))
       all_goals first
        | (exfalso;omega)
        | rfl
   · rw[if_neg e4] at hB
     by_cases e0:a.wood=0
     · rw[if_pos e0] at hB
       subst hB
       refine RawC.walk (H:=hint69 Try.prog) ir69 Try.func69 rfl rfl rfl ?_
       unfold ir69
       repeat' (first
        | refine advE ?_ | with_reducible refine w_alt ?_ ?_
        | with_reducible refine zI fun y hy=>?_ | refine advL ?_
        | ((with_reducible refine acall_id ?_);refine ACall.val h1 rfl rfl ?_)
        | ((with_reducible refine acall_id ?_);refine ACall.val h2 rfl rfl ?_)
        | refine adv ?_ | with_reducible (first | intro _ | refine Rt.p (fun _=>?_) fun _=>?_)
        | ((with_reducible apply w_ixM);(focus exact rfl);(focus exact rfl);case' hk=>intro y hy) | ((with_reducible (first | apply w_val | apply q_ends));(focus exact rfl)))
       all_goals first
        | (exfalso;omega)
        | rfl
     · rw[if_neg e0] at hB
       subst hB
       refine RawC.walk (H:=hint69 Try.prog) ir69 Try.func69 rfl rfl rfl ?_
       unfold ir69
       repeat' (first
        | refine advE ?_ | with_reducible refine w_alt ?_ ?_
        | with_reducible refine zI fun y hy=>?_ | refine advL ?_
        | ((with_reducible refine acall_id ?_);refine ACall.val h1 rfl rfl ?_)
        | ((with_reducible refine acall_id ?_);refine ACall.val h2 rfl rfl ?_)
        | refine adv ?_ | with_reducible (first | intro _ | refine Rt.p (fun _=>?_) fun _=>?_)
        | ((with_reducible apply w_ixM);(focus exact rfl);(focus exact rfl);case' hk=>intro y hy) | ((with_reducible (first | apply w_val | apply q_ends));(focus exact rfl)))
       all_goals first
        | (exfalso;omega)
        | rfl
def ir116:IFn:=
 ⟨19,[(4,none)],(.seq (.ops [oo 4 (.mov (kI 0))])
 (.seq (.seq (.ops [oo 6 (.mov 0),
 oo 7 (.len false 6),
 oo 8 (.mov (kI 0))])
 (.blk 0 (.loop (.seq (.ops [oo 9 (.bin .lss 8 7)])
 (.seq (.cnd 9
 .skip
 (.exit 0))
 (.seq (.blk 1 (.seq (.ops [oo 10 (.mov 8),
 oo 5 (.mov 10)])
 (.seq (.ops [oo 11 (.mov 1),
 oo 12 (.mov 0),
 oo 13 (.mov 5),
 oo 14 (.ixA 5 12 13),
 oo 15 (.ld 5 true 14),
 oo 16 (.callV 11 [15])])
 (.cnd 16
 (.seq (.ops [oo 17 (.mov 5),
 oo 4 (.mov 17)])
 .ret)
 .skip))))
 (.ops [oo 18 (.bin .add 8 (kI 1)),
 oo 8 (.mov 18)])))))))
 (.seq (.ops [oo 4 (.mov (.k (.int .i64 (-1))))])
 .ret)))⟩
def hint116 (P:Program):Hint:={}
def ir99:IFn:=
 ⟨9,[(4,none)],(.seq (.ops [oo 4 (.mov (kB false))])
 (.seq (.ops [oo 5 (.mov 0),
 oo 6 (.mov 1),
 oo 7 (.callF 116 [5,6]),
 oo 8 (.bin .geq 7 (kI 0)),
 oo 4 (.mov 8)])
 .ret))⟩
def hint99 (P:Program):Hint:={}
def ir97:IFn:=
 ⟨24,[(4,none)],(.seq (.ops [oo 4 (.mov (.k .nsl))])
 (.seq (.ops [oo 5 (.nil 1 5)])
 (.seq (.seq (.ops [oo 8 (.mov 0),
 oo 9 (.len false 8),
 oo 10 (.mov (kI 0))])
 (.blk 0 (.loop (.seq (.ops [oo 11 (.bin .lss 10 9)])
 (.seq (.cnd 11
 .skip
 (.exit 0))
 (.seq (.blk 1 (.seq (.ops [oo 12 (.mov 10),
 oo 13 (.ixA 1 8 10),
 oo 14 (.ld 1 false 13),
 oo 6 (.mov 12),
 oo 7 (.mov 14)])
 (.seq (.ops [oo 15 (.mov 1),
 oo 16 (.mov 7),
 oo 17 (.callV 15 [16])])
 (.cnd 17
 (.ops [oo 18 (.mov 5),
 oo 19 (.mov 6),
 oo 20 (.bsl 1 [[(.int .i64 0)]] [(0,19)]),
 oo 21 (.app 1 8 18 20 5),
 oo 5 (.mov 21)])
 .skip))))
 (.ops [oo 22 (.bin .add 10 (kI 1)),
 oo 10 (.mov 22)])))))))
 (.seq (.ops [oo 23 (.mov 5),
 oo 4 (.mov 23)])
 .ret))))⟩
def hint97 (P:Program):Hint:={site:=[(21,5)],nils:=[(5,1)],frz:=[],mve:=[],wr:=[] }
def ir98:IFn:=
 ⟨9,[(3,none)],(.seq (.ops [oo 2 (.box 1 0),
 oo 3 (.mov (kB false))])
 (.seq (.seq (.frz 2)
 (.ops [oo 4 (.flA 1 1),
 oo 5 (.ld 1 false 4),
 oo 6 (.mkf (.func 100) [] [2]),
 oo 7 (.callF 99 [5,6]),
 oo 8 (.not 7),
 oo 3 (.mov 8)]))
 .ret))⟩
def hint98 (P:Program):Hint:={site:=[],nils:=[],frz:=[(6,2)],mve:=[],wr:=[] }
def ir101:IFn:=
 ⟨8,[(3,none)],(.seq (.ops [oo 3 (.mov (kB false))])
 (.seq (.ops [oo 4 (.mov 0),
 oo 5 (.flA 1 1),
 oo 6 (.ld 1 false 5),
 oo 7 (.bin .eql 4 6),
 oo 3 (.mov 7)])
 .ret))⟩
def hint101 (P:Program):Hint:={}
def ir100:IFn:=
 ⟨13,[(3,none)],(.seq (.ops [oo 2 (.box 5 0),
 oo 3 (.mov (kB false))])
 (.seq (.ops [oo 4 (.flA 0 2),
 oo 5 (.ld 1 false 4),
 oo 6 (.bin .eql 5 (kI 1)),
 oo 7 (.mov 6),
 ⟨(some 8),(some (7,true)),(.flA 3 2)⟩,
 ⟨(some 9),(some (7,true)),(.ld 1 false 8)⟩,
 ⟨(some 10),(some (7,true)),(.ld 1 false 1)⟩,
 ⟨(some 11),(some (7,true)),(.bin .eql 9 10)⟩,
 oo 12 (.pick 7 11 (kB false)),
 oo 3 (.mov 12)])
 .ret))⟩
def hint100 (P:Program):Hint:={}
def whF (p:Int→Bool):Nat→List Int→List Int
 | _,[]=>[]
 | s,x::r=>if p x=true then (s:Int)::whF p (s+1) r else whF p (s+1) r
theorem whF_len (p:Int→Bool):∀(s:Nat) (l:List Int),(whF p s l).length≤l.length
 | _,[]=>Nat.le_refl _
 | s,x::r=>by
   have:=whF_len p (s+1) r
   rw[whF]
   split
   · simp only[List.length_cons];omega
   · simp only[List.length_cons];omega
theorem where_c (k:Nat) (cs:List AV) (p:Int→Bool) (l:List Int) (hl:l.length<1000000) (hf:∀x∈l,Fn0 Try.prog k [.int .i64 x,.pin cs] (fun v=>v= .bool (p x))):Fn0 Try.prog 97 [.slc 1 (iR l) .non,.clo (.func k) [] [.pin cs]] (fun v=>v= .slc 1 (iR (whF p 0 l)) .non):=by
 refine RawC.walk (H:=hint97 Try.prog) ir97 Try.func97 rfl rfl rfl ?_
 unfold ir97
 repeat' (first
  | refine advE ?_ | with_reducible refine w_alt ?_ ?_
  | with_reducible refine zI fun y hy=>?_ | refine advL ?_
  | refine adv ?_ | with_reducible (first | intro _ | refine Rt.p (fun _=>?_) fun _=>?_)
  | ((with_reducible apply w_ixM);(focus exact rfl);(focus exact rfl);case' hk=>intro y hy) | ((with_reducible (first | apply w_val | apply q_ends));(focus exact rfl)))
 rename_i g5
 refine w_loopK [1,8,9] [] (fun x:List Int×List Int×List Int×Nat=>l=x.1++x.2.1∧x.2.2.1++whF p x.1.length x.2.1=whF p 0 l∧x.2.2.1.length≤x.1.length) (fun x=>x.2.1.length) (fun x=>[(10,.int .i64 x.1.length),(5,.slc 1 (iR x.2.2.1) (.own 5 x.2.2.2))]) (fun x=>[(5,(x.2.2.2,.row []))]) ([],l,[],g5) ⟨rfl,rfl,Nat.le_refl _⟩ ⟨rfl,rfl,trivial⟩ ⟨rfl,trivial⟩ ?_
 rintro⟨pre,post,out,g⟩ ⟨hll,hb,ho⟩ e σ
 dsimp only at hll hb ho ⊢
 have hlen:=congrArg List.length hll
 have hol:(iR out).length=out.length:=List.length_map _
 cases post with
 | nil=>
   simp only[List.append_nil,List.length_append,List.length_nil] at hlen
   rw[show whF p pre.length []=[] from rfl,List.append_nil] at hb
   rw[←hb]
   repeat' (first
    | refine advE ?_ | with_reducible refine w_alt ?_ ?_
    | with_reducible refine zI fun y hy=>?_ | refine advL ?_
    | refine adv ?_ | with_reducible (first | intro _ | refine Rt.p (fun _=>?_) fun _=>?_)
    | ((with_reducible apply w_ixM);(focus exact rfl);(focus exact rfl);case' hk=>intro y hy) | ((with_reducible (first | apply w_val | apply q_ends));(focus exact rfl)))
   all_goals first
    | (exfalso;omega)
    | rfl
 | cons c post=>
   simp only[List.length_append,List.length_cons] at hlen
   have hfc:=hf c (by rw[hll];simp)
   rw[whF] at hb
   have hpl:(pre++[c]).length=pre.length+1:=len_snoc
   cases hpc:p c with
   | false=>
     rw[hpc] at hfc
     rw[if_neg (by rw[hpc];exact Bool.false_ne_true)] at hb
     repeat' (first
      | refine advE ?_ | with_reducible refine w_alt ?_ ?_
      | (refine w_ixP hll rfl rfl ?_)
      | with_reducible refine zI fun y hy=>?_ | refine advL ?_
      | ((with_reducible refine acall_id ?_);refine ACall.val hfc rfl rfl ?_)
      | refine adv ?_ | with_reducible (first | intro _ | refine Rt.p (fun _=>?_) fun _=>?_)
      | ((with_reducible apply w_ixM);(focus exact rfl);(focus exact rfl);case' hk=>intro y hy) | ((with_reducible (first | apply w_val | apply q_ends));(focus exact rfl)))
     all_goals first
      | (exfalso;omega)
      | exact q_loop (pre++[c],post,out,g) ⟨by dsimp only;rw[hll];simp,by dsimp only;rw[hpl];exact hb,by dsimp only;omega⟩ (Nat.lt_succ_self _) ⟨by rw[len_snoc];rfl,rfl,trivial⟩ (by repeat' (first | exact slots_nil | apply slots_cons | rfl | (rw[map_snoc];rfl) | (rw[len_snoc];rfl) | (rw[hS];rfl) | (rw[hS,map_snoc];rfl) | (refine int_eq ?_;(try dsimp only);omega) | (refine congrArg AV.bool ?_;simp_all;done))) (by repeat' (first | exact kept_nil | apply kept_cons | rfl)) (by repeat' (first | exact kept_nil | apply kept_cons | rfl))
   | true=>
     rw[hpc] at hfc
     rw[if_pos hpc] at hb
     repeat' (first
      | refine advE ?_ | with_reducible refine w_alt ?_ ?_
      | (refine w_ixP hll rfl rfl ?_)
      | with_reducible refine zI fun y hy=>?_ | refine advL ?_
      | ((with_reducible refine acall_id ?_);refine ACall.val hfc rfl rfl ?_)
      | refine adv ?_ | with_reducible (first | intro _ | refine Rt.p (fun _=>?_) fun _=>?_)
      | ((with_reducible apply w_ixM);(focus exact rfl);(focus exact rfl);case' hk=>intro y hy) | ((with_reducible (first | apply w_val | apply q_ends));(focus exact rfl)))
     all_goals try (exfalso;omega)
     all_goals
      rename_i g4
      exact q_loop (pre++[c],post,out++[(pre.length:Int)],g4) ⟨by dsimp only;rw[hll];simp,by dsimp only;rw[hpl,List.append_assoc];exact hb,by dsimp only;rw[len_snoc];omega⟩ (Nat.lt_succ_self _) ⟨by rw[len_snoc];rfl,rfl,trivial⟩ (by repeat' (first | exact slots_nil | apply slots_cons | rfl | (rw[map_snoc];rfl) | (rw[len_snoc];rfl) | (rw[hS];rfl) | (rw[hS,map_snoc];rfl) | (refine int_eq ?_;(try dsimp only);omega) | (refine congrArg AV.bool ?_;simp_all;done))) (by repeat' (first | exact kept_nil | apply kept_cons | rfl)) (by repeat' (first | exact kept_nil | apply kept_cons | rfl))
theorem due2_c (a:Aq) (x:Int):Fn0 Try.prog 101 [.int .i64 x,.pin [.int .i64 a.kind,.int .i64 a.wood]] (fun v=>v= .bool (decide (x=a.wood))):=by
 refine RawC.walk (H:=hint101 Try.prog) ir101 Try.func101 rfl rfl rfl ?_
 unfold ir101
 repeat' (first
  | refine advE ?_ | with_reducible refine w_alt ?_ ?_
  | with_reducible refine zI fun y hy=>?_ | refine advL ?_
  | refine adv ?_ | with_reducible (first | intro _ | refine Rt.p (fun _=>?_) fun _=>?_)
  | ((with_reducible apply w_ixM);(focus exact rfl);(focus exact rfl);case' hk=>intro y hy) | ((with_reducible (first | apply w_val | apply q_ends));(focus exact rfl)))
 all_goals rfl
def triedB (ds:List Dl) (x:Int):Bool:=ds.any fun d=>decide (d.kind=1) && decide (d.wood=x)
theorem due11_c (d:Dl) (g:Nat) (x:Int):RawC Try.prog 100 [dlA d,.pin [.int .i64 x]] (sg []) (fun v _=>v= .bool (decide (d.kind=1) && decide (d.wood=x))):=by
 by_cases h:d.kind=1
 · rw[decide_eq_true h]
   refine RawC.walk (H:=hint100 Try.prog) ir100 Try.func100 rfl rfl rfl ?_
   unfold ir100
   repeat' (first
    | refine advE ?_ | with_reducible refine w_alt ?_ ?_
    | with_reducible refine zI fun y hy=>?_ | refine advL ?_
    | refine adv ?_ | with_reducible (first | intro _ | refine Rt.p (fun _=>?_) fun _=>?_)
    | ((with_reducible apply w_ixM);(focus exact rfl);(focus exact rfl);case' hk=>intro y hy) | ((with_reducible (first | apply w_val | apply q_ends));(focus exact rfl)))
   all_goals first
    | (exfalso;omega)
    | rfl
 · rw[decide_eq_false h]
   refine RawC.walk (H:=hint100 Try.prog) ir100 Try.func100 rfl rfl rfl ?_
   unfold ir100
   repeat' (first
    | refine advE ?_ | with_reducible refine w_alt ?_ ?_
    | with_reducible refine zI fun y hy=>?_ | refine advL ?_
    | refine adv ?_ | with_reducible (first | intro _ | refine Rt.p (fun _=>?_) fun _=>?_)
    | ((with_reducible apply w_ixM);(focus exact rfl);(focus exact rfl);case' hk=>intro y hy) | ((with_reducible (first | apply w_val | apply q_ends));(focus exact rfl)))
   all_goals first
    | (exfalso;omega)
    | rfl
theorem idxD_c (k:Nat) (cs:List AV) (p:Dl→Bool) (l:List Dl) (hl:l.length<1000000) (hf:∀x∈l,Fn0 Try.prog k [dlA x,.pin cs] (fun v=>v= .bool (p x))):Fn0 Try.prog 116 [.slc 5 (dlR l) .non,.clo (.func k) [] [.pin cs]] (fun v=>∃i:Int,v= .int .i64 i∧(0≤i↔l.any p=true)):=by
 refine RawC.walk (H:=hint116 Try.prog) ir116 Try.func116 rfl rfl rfl ?_
 unfold ir116
 repeat' (first
  | refine advE ?_ | with_reducible refine w_alt ?_ ?_
  | with_reducible refine zI fun y hy=>?_ | refine advL ?_
  | refine adv ?_ | with_reducible (first | intro _ | refine Rt.p (fun _=>?_) fun _=>?_)
  | ((with_reducible apply w_ixM);(focus exact rfl);(focus exact rfl);case' hk=>intro y hy) | ((with_reducible (first | apply w_val | apply q_ends));(focus exact rfl)))
 refine w_loopK [0,1,7] [] (fun x:List Dl×List Dl=>l=x.1++x.2∧x.1.any p=false) (fun x=>x.2.length) (fun x=>[(8,.int .i64 x.1.length)]) (fun _=>[]) ([],l) ⟨rfl,rfl⟩ ⟨rfl,trivial⟩ trivial ?_
 rintro⟨pre,post⟩ ⟨hll,hb⟩ e σ
 dsimp only at hll hb ⊢
 have hlen:=congrArg List.length hll
 cases post with
 | nil=>
   simp only[List.append_nil,List.length_append,List.length_nil] at hlen
   repeat' (first
    | refine advE ?_ | with_reducible refine w_alt ?_ ?_
    | with_reducible refine zI fun y hy=>?_ | refine advL ?_
    | refine adv ?_ | with_reducible (first | intro _ | refine Rt.p (fun _=>?_) fun _=>?_)
    | ((with_reducible apply w_ixM);(focus exact rfl);(focus exact rfl);case' hk=>intro y hy) | ((with_reducible (first | apply w_val | apply q_ends));(focus exact rfl)))
   all_goals first
    | (exfalso;omega)
    | exact⟨-1,rfl,by rw[hll,List.append_nil,hb];simp⟩
 | cons c post=>
   simp only[List.length_append,List.length_cons] at hlen
   have hfc:=hf c (by rw[hll];simp)
   cases hpc:p c with
   | false=>
     rw[hpc] at hfc
     repeat' (first
      | refine advE ?_ | with_reducible refine w_alt ?_ ?_
      | (refine w_ixP (f:=fun d:Dl=>[AV.int .i64 d.kind,.int .i64 d.bag,.int .i64 d.other,.int .i64 d.wood,.int .i64 d.count]) hll rfl rfl ?_)
      | with_reducible refine zI fun y hy=>?_ | refine advL ?_
      | ((with_reducible refine acall_id ?_);refine ACall.val hfc rfl rfl ?_)
      | refine adv ?_ | with_reducible (first | intro _ | refine Rt.p (fun _=>?_) fun _=>?_)
      | ((with_reducible apply w_ixM);(focus exact rfl);(focus exact rfl);case' hk=>intro y hy) | ((with_reducible (first | apply w_val | apply q_ends));(focus exact rfl)))
     all_goals first
      | (exfalso;omega)
      | exact q_loop (pre++[c],post) ⟨by dsimp only;rw[hll];simp,by rw[List.any_append,hb];simp[hpc]⟩ (Nat.lt_succ_self _) ⟨by rw[len_snoc];rfl,trivial⟩ (by repeat' (first | exact slots_nil | apply slots_cons | rfl | (rw[map_snoc];rfl) | (rw[len_snoc];rfl) | (rw[hS];rfl) | (rw[hS,map_snoc];rfl) | (refine int_eq ?_;(try dsimp only);omega) | (refine congrArg AV.bool ?_;simp_all;done))) (by repeat' (first | exact kept_nil | apply kept_cons | rfl)) (by repeat' (first | exact kept_nil | apply kept_cons | rfl))
   | true=>
     rw[hpc] at hfc
     repeat' (first
      | refine advE ?_ | with_reducible refine w_alt ?_ ?_
      | (refine w_ixP (f:=fun d:Dl=>[AV.int .i64 d.kind,.int .i64 d.bag,.int .i64 d.other,.int .i64 d.wood,.int .i64 d.count]) hll rfl rfl ?_)
      | with_reducible refine zI fun y hy=>?_ | refine advL ?_
      | ((with_reducible refine acall_id ?_);refine ACall.val hfc rfl rfl ?_)
      | refine adv ?_ | with_reducible (first | intro _ | refine Rt.p (fun _=>?_) fun _=>?_)
      | ((with_reducible apply w_ixM);(focus exact rfl);(focus exact rfl);case' hk=>intro y hy) | ((with_reducible (first | apply w_val | apply q_ends));(focus exact rfl)))
     all_goals first
      | (exfalso;omega)
      | exact⟨pre.length,rfl,by rw[hll];simp[hpc]⟩
theorem conD_c (k:Nat) (cs:List AV) (p:Dl→Bool) (l:List Dl) (hl:l.length<1000000) (hf:∀x∈l,Fn0 Try.prog k [dlA x,.pin cs] (fun v=>v= .bool (p x))):Fn0 Try.prog 99 [.slc 5 (dlR l) .non,.clo (.func k) [] [.pin cs]] (fun v=>v= .bool (l.any p)):=by
 have hi:=idxD_c k cs p l hl hf
 refine RawC.walk (H:=hint99 Try.prog) ir99 Try.func99 rfl rfl rfl ?_
 unfold ir99
 repeat' (first
  | refine advE ?_ | with_reducible refine w_alt ?_ ?_
  | with_reducible refine zI fun y hy=>?_ | refine advL ?_
  | ((with_reducible refine acall_id ?_);refine ACall.fn0 hi rfl ?_;rintro _ ⟨i,rfl,hk⟩)
  | refine adv ?_ | with_reducible (first | intro _ | refine Rt.p (fun _=>?_) fun _=>?_)
  | ((with_reducible apply w_ixM);(focus exact rfl);(focus exact rfl);case' hk=>intro y hy) | ((with_reducible (first | apply w_val | apply q_ends));(focus exact rfl)))
 exact congrArg AV.bool (by rw[Bool.eq_iff_iff];simpa using hk)
theorem due1_c (G:Gm) (x:Int) (hd:G.ds.length<1000):Fn0 Try.prog 98 [.int .i64 x,gmP G] (fun v=>v= .bool (!triedB G.ds x)):=by
 have hc:=fun g=>conD_c 100 [.int .i64 x] (fun d=>decide (d.kind=1) && decide (d.wood=x)) G.ds (by omega) fun d _=>due11_c d g x
 refine RawC.walk (H:=hint98 Try.prog) ir98 Try.func98 rfl rfl rfl ?_
 unfold ir98
 repeat' (first
  | refine advE ?_ | with_reducible refine w_alt ?_ ?_
  | with_reducible refine zI fun y hy=>?_ | refine advL ?_
  | (refine w_frzR rfl rfl rfl ?_)
  | ((with_reducible refine acall_id ?_);refine ACall.val (hc 0) rfl rfl ?_)
  | refine adv ?_ | with_reducible (first | intro _ | refine Rt.p (fun _=>?_) fun _=>?_)
  | ((with_reducible apply w_ixM);(focus exact rfl);(focus exact rfl);case' hk=>intro y hy) | ((with_reducible (first | apply w_val | apply q_ends));(focus exact rfl)))
 all_goals first
  | (exfalso;omega)
  | rfl
def ir115:IFn:=
 ⟨35,[(2,none)],(.seq (.ops [oo 2 (.mov (.k .nsl))])
 (.seq (.ops [⟨(some 9),none,.mkm⟩,
 oo 3 (.mov 9)])
 (.seq (.ops [oo 4 (.nil 1 4)])
 (.seq (.seq (.ops [oo 10 (.mov 0),
 oo 11 (.len false 10),
 oo 12 (.mov (kI 0))])
 (.blk 0 (.loop (.seq (.ops [oo 13 (.bin .lss 12 11)])
 (.seq (.cnd 13
 .skip
 (.exit 0))
 (.seq (.blk 1 (.seq (.ops [oo 14 (.ixA 1 10 12),
 oo 15 (.ld 1 false 14),
 oo 6 (.mov 15)])
 (.seq (.ops [oo 17 (.mov 3),
 oo 18 (.mov 6),
 oo 19 (.mlk .i (.int .i64 0) true 17 18),
 oo 16 (.mov 19),
 oo 20 (.ext 0 16),
 oo 21 (.ext 1 16),
 oo 7 (.mov 20),
 oo 8 (.mov 21)])
 (.seq (.seq (.ops [oo 22 (.mov 8),
 oo 23 (.not 22)])
 (.cnd 23
 (.seq (.ops [oo 24 (.mov 3),
 oo 25 (.mln 24),
 oo 7 (.mov 25)])
 (.ops [oo 26 (.mov 3),
 oo 27 (.mov 6),
 oo 28 (.mov 7),
 ⟨none,none,(.mup .i 26 27 28)⟩]))
 .skip))
 (.ops [oo 29 (.mov 4),
 oo 30 (.mov 7),
 oo 31 (.bsl 1 [[(.int .i64 0)]] [(0,30)]),
 oo 32 (.app 1 8 29 31 4),
 oo 4 (.mov 32)])))))
 (.ops [oo 33 (.bin .add 12 (kI 1)),
 oo 12 (.mov 33)])))))))
 (.seq (.ops [oo 34 (.mov 4),
 oo 2 (.mov 34)])
 .ret)))))⟩
def hint115 (P:Program):Hint:={site:=[(32,4)],nils:=[(4,1)],frz:=[],mve:=[],wr:=[] }
def ir96:IFn:=
 ⟨14,[(2,none),(3,none)],(.seq (.ops [oo 2 (.mov (.k .nsl)),
 oo 3 (.mov (kI 0))])
 (.seq (.blk 0 (.seq (.ops [oo 5 (.mov 0),
 oo 6 (.len false 5),
 oo 7 (.bin .eql 6 (kI 0)),
 oo 4 (.mov 7)])
 (.cnd 4
 (.seq (.ops [oo 2 (.mov (.k .nsl)),
 oo 3 (.mov (kI 6))])
 .ret)
 (.seq (.ops [oo 9 (.mov 0),
 oo 10 (.len false 9),
 oo 11 (.bin .gtr 10 (kI 9)),
 oo 8 (.mov 11)])
 (.cnd 8
 (.seq (.ops [oo 2 (.mov (.k .nsl)),
 oo 3 (.mov (kI 8))])
 .ret)
 .skip)))))
 (.seq (.ops [oo 12 (.mov 0),
 oo 13 (.callF 115 [12]),
 oo 2 (.mov 13),
 oo 3 (.mov (kI 0))])
 .ret)))⟩
def hint96 (P:Program):Hint:={}
def numF:List Int→List Int→List Int
 | _,[]=>[]
 | met,x::r=>if x∈met then (met.idxOf x:Int)::numF met r else (met.length:Int)::numF (met++[x]) r
abbrev fiK (l:List Int):List AV:=l.map (AV.int .i64)
abbrev fiV (l:List Int):List AV:=(List.range l.length).map fun (k:Nat)=>AV.int .i64 (k:Int)
section
variable {P:Program} {K:(Nat→AV)→Sig→Prop} {e:Nat→AV} {σ:Sig} {m k:IOpd} {r:List IStep} {d i h:Nat} {a:Int} {F:List Int}
theorem w_mlkF (hm:m.ev e= .map i h) (hσ:σ i=(h,.row [.mpv (fiK F) (fiV F)])) (hk:k.ev e= .int .i64 a)
  (hK:stepsW P r K (upd e d (.tup [.int .i64 (if a∈F then (F.idxOf a:Int) else 0),.bool (decide (a∈F))])) σ):stepsW P (⟨some d,none,.mlk .i (.int .i64 0) true m k⟩::r) K e σ:=by
 refine w_det (p:=h=h) (v:=fun _=> .tup [.int .i64 (if a∈F then (F.idxOf a:Int) else 0),.bool (decide (a∈F))]) (σ':=fun _=>σ) (fun _=>?_) rfl fun _=>hK
 show mlkO .i (.int .i64 0) true σ (k.ev e) (m.ev e)=_
 rw[hm,hk]
 simp only[mlkO,mapR,hσ,findI]
 by_cases ha:a∈F
 · have hlt:=List.idxOf_lt_length_iff.2 ha
   simp[ha,hlt,lkV]
 · simp[ha,lkV]
theorem w_mupF {v:IOpd} (hm:m.ev e= .map i h) (hσ:σ i=(h,.row [.mpv (fiK F) (fiV F)])) (hk:k.ev e= .int .i64 a) (hv:v.ev e= .int .i64 (F.length:Int)) (ha:¬a∈F)
  (hK:stepsW P r K e (upd σ i (h,.row [.mpv (fiK (F++[a])) (fiV (F++[a]))]))):stepsW P (⟨none,none,.mup .i m k v⟩::r) K e σ:=by
 refine w_det0 (p:=h=h) (v:= .junk) (σ':=upd σ i (h,.row [.mpv (fiK (F++[a])) (fiV (F++[a]))])) (fun _=>?_) rfl hK
 show mupO .i σ (k.ev e) (v.ev e) (m.ev e)=_
 rw[hm,hk,hv]
 simp only[mupO,mapW,hσ,findI,forceA,ha,if_false]
 have e1:fiV F++[AV.int .i64 (F.length:Int)]=fiV (F++[a]):=by
  show _=(List.range (F++[a]).length).map _
  rw[len_snoc,List.range_succ,List.map_append];rfl
 have e2:fiK F++[AV.int .i64 a]=fiK (F++[a]):=by simp
 show some (True,AV.junk,upd σ i (h,Res.row [AV.mpv (fiK F++[AV.int .i64 a]) (fiV F++[AV.int .i64 (F.length:Int)])]))=_
 rw[e1,e2]
end
theorem number_c (l:List Int) (hl:l.length<1000000):Fn0 Try.prog 115 [.slc 1 (iR l) .non] (fun v=>v= .slc 1 (iR (numF [] l)) .non):=by
 refine RawC.walk (H:=hint115 Try.prog) ir115 Try.func115 rfl rfl rfl ?_
 unfold ir115
 repeat' (first
  | refine advE ?_ | with_reducible refine w_alt ?_ ?_
  | with_reducible refine zI fun y hy=>?_ | refine advL ?_
  | refine adv ?_ | with_reducible (first | intro _ | refine Rt.p (fun _=>?_) fun _=>?_)
  | ((with_reducible apply w_ixM);(focus exact rfl);(focus exact rfl);case' hk=>intro y hy) | ((with_reducible (first | apply w_val | apply q_ends));(focus exact rfl)))
 rename_i g9 g4
 refine w_loopK [3,10,11] [] (fun x:List Int×List Int×List Int×List Int×Nat=>l=x.1++x.2.1∧x.2.2.1++numF x.2.2.2.1 x.2.1=numF [] l∧x.2.2.1.length≤x.1.length∧x.2.2.2.1.length≤x.1.length) (fun x=>x.2.1.length) (fun x=>[(12,.int .i64 x.1.length),(4,.slc 1 (iR x.2.2.1) (.own 4 x.2.2.2.2))]) (fun x=>[(4,(x.2.2.2.2,.row [])),(9,(g9,.row [.mpv (fiK x.2.2.2.1) (fiV x.2.2.2.1)]))]) ([],l,[],[],g4) ⟨rfl,rfl,Nat.le_refl _,Nat.le_refl _⟩ ⟨rfl,rfl,trivial⟩ ⟨rfl,rfl,trivial⟩ ?_
 rintro⟨pre,post,out,F,g⟩ ⟨hll,hb,ho,hf⟩ e σ
 dsimp only at hll hb ho hf ⊢
 have hlen:=congrArg List.length hll
 have hol:(iR out).length=out.length:=List.length_map _
 have hfl:(fiK F).length=F.length:=List.length_map _
 have hpl:∀c,(pre++[c]).length=pre.length+1:=fun c=>len_snoc
 cases post with
 | nil=>
   simp only[List.append_nil,List.length_append,List.length_nil] at hlen
   rw[show numF F []=[] from rfl,List.append_nil] at hb
   rw[←hb]
   repeat' (first
    | refine advE ?_ | with_reducible refine w_alt ?_ ?_
    | with_reducible refine zI fun y hy=>?_ | refine advL ?_
    | refine adv ?_ | with_reducible (first | intro _ | refine Rt.p (fun _=>?_) fun _=>?_)
    | ((with_reducible apply w_ixM);(focus exact rfl);(focus exact rfl);case' hk=>intro y hy) | ((with_reducible (first | apply w_val | apply q_ends));(focus exact rfl)))
   all_goals first
    | (exfalso;omega)
    | rfl
 | cons c post=>
   simp only[List.length_append,List.length_cons] at hlen
   rw[numF] at hb
   by_cases hc:c∈F
   · rw[if_pos hc] at hb
     have hix:(if c∈F then (F.idxOf c:Int) else 0)=F.idxOf c:=if_pos hc
     have hdc:decide (c∈F)=true:=decide_eq_true hc
     repeat' (first
      | refine advE ?_ | with_reducible refine w_alt ?_ ?_
      | (first | refine w_ixP hll rfl rfl ?_ | (refine w_mlkF rfl rfl rfl ?_;rw[hix,hdc]))
      | with_reducible refine zI fun y hy=>?_ | refine advL ?_
      | refine adv ?_ | with_reducible (first | intro _ | refine Rt.p (fun _=>?_) fun _=>?_)
      | ((with_reducible apply w_ixM);(focus exact rfl);(focus exact rfl);case' hk=>intro y hy) | ((with_reducible (first | apply w_val | apply q_ends));(focus exact rfl)))
     all_goals try (exfalso;omega)
     all_goals
      rename_i g5
      exact q_loop (pre++[c],post,out++[(F.idxOf c:Int)],F,g5) ⟨by dsimp only;rw[hll];simp,by dsimp only;rw[List.append_assoc];exact hb,by dsimp only;rw[len_snoc,hpl];omega,by dsimp only;rw[hpl];omega⟩ (Nat.lt_succ_self _) ⟨by rw[len_snoc];rfl,rfl,trivial⟩ (by repeat' (first | exact slots_nil | apply slots_cons | rfl | (rw[map_snoc];rfl) | (rw[len_snoc];rfl) | (rw[hS];rfl) | (rw[hS,map_snoc];rfl) | (refine int_eq ?_;(try dsimp only);omega) | (refine congrArg AV.bool ?_;simp_all;done))) (by repeat' (first | exact kept_nil | apply kept_cons | rfl)) (by repeat' (first | exact kept_nil | apply kept_cons | rfl))
   · rw[if_neg hc] at hb
     have hix:(if c∈F then (F.idxOf c:Int) else 0)=0:=if_neg hc
     have hdc:decide (c∈F)=false:=decide_eq_false hc
     repeat' (first
      | refine advE ?_ | with_reducible refine w_alt ?_ ?_
      | (first | refine w_ixP hll rfl rfl ?_ | (refine w_mlkF rfl rfl rfl ?_;rw[hix,hdc]) | refine w_mupF rfl rfl rfl (int_eq (by omega)) hc ?_)
      | with_reducible refine zI fun y hy=>?_ | refine advL ?_
      | refine adv ?_ | with_reducible (first | intro _ | refine Rt.p (fun _=>?_) fun _=>?_)
      | ((with_reducible apply w_ixM);(focus exact rfl);(focus exact rfl);case' hk=>intro y hy) | ((with_reducible (first | apply w_val | apply q_ends));(focus exact rfl)))
     all_goals try (exfalso;omega)
     all_goals
      rename_i _ g5
      rw[←hfl] at hb
      exact q_loop (pre++[c],post,out++[((fiK F).length:Int)],F++[c],g5) ⟨by dsimp only;rw[hll];simp,by dsimp only;rw[List.append_assoc];exact hb,by dsimp only;rw[len_snoc,hpl];omega,by dsimp only;rw[len_snoc,hpl];omega⟩ (Nat.lt_succ_self _) ⟨by rw[len_snoc];rfl,rfl,trivial⟩ (by repeat' (first | exact slots_nil | apply slots_cons | rfl | (rw[map_snoc];rfl) | (rw[len_snoc];rfl) | (rw[hS];rfl) | (rw[hS,map_snoc];rfl) | (refine int_eq ?_;(try dsimp only);omega) | (refine congrArg AV.bool ?_;simp_all;done))) (by repeat' (first | exact kept_nil | apply kept_cons | rfl)) (by repeat' (first | exact kept_nil | apply kept_cons | rfl))
theorem chartOf_c (l:List Int) (h1:1≤l.length) (h9:l.length≤9):Fn0 Try.prog 96 [.slc 1 (iR l) .non] (fun v=>v= .tup [.slc 1 (iR (numF [] l)) .non,.int .i64 0]):=by
 refine RawC.walk (H:=hint96 Try.prog) ir96 Try.func96 rfl rfl rfl ?_
 unfold ir96
 repeat' (first
  | refine advE ?_ | with_reducible refine w_alt ?_ ?_
  | with_reducible refine zI fun y hy=>?_ | refine advL ?_
  | ((with_reducible refine acall_id ?_);refine ACall.val (number_c l (by omega)) rfl rfl ?_)
  | refine adv ?_ | with_reducible (first | intro _ | refine Rt.p (fun _=>?_) fun _=>?_)
  | ((with_reducible apply w_ixM);(focus exact rfl);(focus exact rfl);case' hk=>intro y hy) | ((with_reducible (first | apply w_val | apply q_ends));(focus exact rfl)))
 all_goals first
  | (exfalso;omega)
  | rfl
def ir71:IFn:=
 ⟨75,[(6,none)],(.seq (.ops [oo 3 (.box 2 0),
 oo 4 (.box 2 1),
 oo 6 (.mov (.k .nsl))])
 (.seq (.seq (.ops [oo 15 (.flA 0 4),
 oo 16 (.ld 1 false 15)])
 (.blk 0 (.seq (.ops [oo 18 (.bin .eql 16 (kI 1)),
 oo 17 (.mov 18)])
 (.cnd 17
 (.seq (.ops [oo 20 (.mov 2),
 oo 21 (.callF 96 [20]),
 oo 19 (.mov 21),
 oo 22 (.ext 0 19),
 oo 23 (.ext 1 19),
 oo 7 (.mov 22),
 oo 8 (.mov 23)])
 (.seq (.ops [oo 24 (.mov 7),
 oo 6 (.mov 24)])
 .ret))
 (.seq (.ops [oo 26 (.bin .eql 16 (kI 2)),
 oo 25 (.mov 26)])
 (.cnd 25
 (.seq (.seq (.frz 3)
 (.ops [oo 27 (.mov 2),
 oo 28 (.mkf (.func 98) [] [3]),
 oo 29 (.callF 97 [27,28]),
 oo 6 (.mov 29)]))
 .ret)
 (.seq (.ops [oo 31 (.bin .eql 16 (kI 4)),
 oo 30 (.mov 31)])
 (.cnd 30
 (.seq (.seq (.frz 4)
 (.ops [oo 32 (.mov 2),
 oo 33 (.mkf (.func 101) [] [4]),
 oo 34 (.callF 97 [32,33]),
 oo 6 (.mov 34)]))
 .ret)
 (.seq (.ops [oo 36 (.bin .eql 16 (kI 5)),
 oo 35 (.mov 36)])
 (.cnd 35
 (.seq (.ops [oo 9 (.nil 1 9)])
 (.seq (.seq (.ops [oo 37 (.mov 2),
 oo 38 (.len false 37),
 oo 39 (.mov (kI 0))])
 (.blk 1 (.loop (.seq (.ops [oo 40 (.bin .lss 39 38)])
 (.seq (.cnd 40
 .skip
 (.exit 1))
 (.seq (.blk 2 (.seq (.ops [oo 41 (.ixA 1 37 39),
 oo 42 (.ld 1 false 41),
 oo 11 (.mov 42)])
 (.seq (.ops [oo 43 (.mov 9),
 oo 44 (.mov 11),
 oo 45 (.callF 102 [43,44]),
 oo 46 (.not 45)])
 (.cnd 46
 (.ops [oo 47 (.mov 9),
 oo 48 (.mov 11),
 oo 49 (.bsl 1 [[(.int .i64 0)]] [(0,48)]),
 oo 50 (.app 1 8 47 49 9),
 oo 9 (.mov 50)])
 .skip))))
 (.ops [oo 51 (.bin .add 39 (kI 1)),
 oo 39 (.mov 51)])))))))
 (.seq (.ops [oo 52 (.mov 9),
 oo 6 (.mov 52)])
 .ret)))
 (.seq (.ops [oo 54 (.bin .eql 16 (kI 6)),
 oo 53 (.mov 54)])
 (.cnd 53
 (.seq (.ops [oo 55 (.flA 0 3),
 oo 56 (.ld 1 false 55),
 oo 57 (.len false 56),
 oo 58 (.mks 1 8 [(.int .i64 0)] 57 57),
 oo 12 (.mov 58)])
 (.seq (.seq (.ops [oo 59 (.mov 2),
 oo 60 (.len false 59),
 oo 61 (.mov (kI 0))])
 (.blk 3 (.loop (.seq (.ops [oo 62 (.bin .lss 61 60)])
 (.seq (.cnd 62
 .skip
 (.exit 3))
 (.seq (.blk 4 (.seq (.ops [oo 63 (.ixA 1 59 61),
 oo 64 (.ld 1 false 63),
 oo 14 (.mov 64)])
 (.ops [oo 65 (.mov 12),
 oo 66 (.mov 14),
 oo 67 (.ixA 1 65 66),
 oo 68 (.ld 1 false 67),
 oo 69 (.bin .add 68 (kI 1)),
 oo 70 (.ixA 1 65 66),
 ⟨none,none,(.st 1 70 69)⟩])))
 (.ops [oo 71 (.bin .add 61 (kI 1)),
 oo 61 (.mov 71)])))))))
 (.seq (.seq (.frz 12)
 (.ops [oo 72 (.mov 12),
 oo 6 (.mov 72)]))
 .ret)))
 .skip))))))))))))
 (.seq (.ops [oo 73 (.mov 2),
 oo 74 (.callF 91 [73]),
 oo 6 (.mov 74)])
 .ret)))⟩
def hint71 (P:Program):Hint:={site:=[(50,9)],nils:=[(9,1)],frz:=[(28,3),(33,4),(72,12)],mve:=[],wr:=[] }
theorem w_frzIG {P:Program} {Q:Post} {e:Nat→AV} {σ:Sig} {t i g n:Nat} {xs:List Int} (F:List (Nat×AV)) (S:List (Nat×(Nat×Res))) (hx:e t= .msl i g n 1) (hσ:σ i=(g,.row (xs.map (AV.int .i64)))) (hn:xs.length=n)
  (hF:slots F (frzE i g (xs.map (AV.int .i64)) e)) (hS:slots S (frzS i g (xs.map (AV.int .i64)) σ)) (hk:∀e' σ',Q .nor (updL F e') (updL S σ')):awp P (.frz (.t t)) Q e σ:=by
 show frzW (e t) e σ (Q .nor)
 rw[hx]
 show (match σ i with | (g',.row c)=>g=g'∧c.all AV.scal=true∧Q .nor (frzE i g c e) (frzS i g c σ) | _=>False)
 rw[hσ]
 refine⟨rfl,by simp[AV.scal],?_⟩
 have:=hk (frzE i g (xs.map (AV.int .i64)) e) (frzS i g (xs.map (AV.int .i64)) σ)
 rw[updL_slots hF,updL_slots hS] at this
 exact this
def fstF:List Int→List Int→List Int
 | o,[]=>o
 | o,x::r=>if 0≤idxI o x then fstF o r else fstF (o++[x]) r
def cntX:List Int→List Int→List Int
 | xs,[]=>xs
 | xs,w::r=>cntX (xs.set w.toNat (xs.getD w.toNat 0+1)) r
def dueF (G:Gm) (a:Aq) (c:List Int):List Int:=
 if a.kind=1 then numF [] c else if a.kind=2 then whF (fun x=>!triedB G.ds x) 0 c else if a.kind=4 then whF (fun x=>decide (x=a.wood)) 0 c
 else if a.kind=5 then fstF [] c else if a.kind=6 then cntX (List.replicate G.ws.length 0) c else c
theorem due_c (G:Gm) (a:Aq) (c:List Int) (hn:G.ws.length≤6) (hd:G.ds.length≤24) (h1:1≤c.length) (h9:c.length≤9) (hc:∀x∈c,0≤x∧x<(G.ws.length:Int)):Fn0 Try.prog 71 [gmA G,aqA a,.slc 1 (iR c) .non] (fun v=>v= .slc 1 (iR (dueF G a c)) .non):=by
 obtain⟨B,hB⟩:∃B,dueF G a c=B:=⟨_,rfl⟩
 rw[hB]
 unfold dueF at hB
 have hne:c≠[]:=fun h=>by subst h;simp at h1
 by_cases e1:a.kind=1
 · rw[if_pos e1] at hB
   subst hB
   refine RawC.walk (H:=hint71 Try.prog) ir71 Try.func71 rfl rfl rfl ?_
   unfold ir71
   repeat' (first
    | refine advE ?_ | with_reducible refine w_alt ?_ ?_
    | with_reducible refine zI fun y hy=>?_ | refine advL ?_
    | ((with_reducible refine acall_id ?_);refine ACall.val (chartOf_c c h1 h9) rfl rfl ?_)
    | refine adv ?_ | with_reducible (first | intro _ | refine Rt.p (fun _=>?_) fun _=>?_)
    | ((with_reducible apply w_ixM);(focus exact rfl);(focus exact rfl);case' hk=>intro y hy) | ((with_reducible (first | apply w_val | apply q_ends));(focus exact rfl)))
   all_goals first
    | (exfalso;omega)
    | rfl
 rw[if_neg e1] at hB
 by_cases e2:a.kind=2
 · rw[if_pos e2] at hB
   subst hB
   have hw:=where_c 98 [.slc 2 (wR G.ws) .non,.slc 5 (dlR G.ds) .non] (fun x=>!triedB G.ds x) c (by omega) fun x _=>due1_c G x (by omega)
   refine RawC.walk (H:=hint71 Try.prog) ir71 Try.func71 rfl rfl rfl ?_
   unfold ir71
   repeat' (first
    | refine advE ?_ | with_reducible refine w_alt ?_ ?_
    | with_reducible refine zI fun y hy=>?_ | refine advL ?_
    | (refine w_frzR rfl rfl rfl ?_)
    | ((with_reducible refine acall_id ?_);refine ACall.val hw rfl rfl ?_)
    | refine adv ?_ | with_reducible (first | intro _ | refine Rt.p (fun _=>?_) fun _=>?_)
    | ((with_reducible apply w_ixM);(focus exact rfl);(focus exact rfl);case' hk=>intro y hy) | ((with_reducible (first | apply w_val | apply q_ends));(focus exact rfl)))
   all_goals first
    | (exfalso;omega)
    | rfl
 rw[if_neg e2] at hB
 by_cases e4:a.kind=4
 · rw[if_pos e4] at hB
   subst hB
   have hw:=where_c 101 [.int .i64 a.kind,.int .i64 a.wood] (fun x=>decide (x=a.wood)) c (by omega) fun x _=>due2_c a x
   refine RawC.walk (H:=hint71 Try.prog) ir71 Try.func71 rfl rfl rfl ?_
   unfold ir71
   repeat' (first
    | refine advE ?_ | with_reducible refine w_alt ?_ ?_
    | with_reducible refine zI fun y hy=>?_ | refine advL ?_
    | (refine w_frzR rfl rfl rfl ?_)
    | ((with_reducible refine acall_id ?_);refine ACall.val hw rfl rfl ?_)
    | refine adv ?_ | with_reducible (first | intro _ | refine Rt.p (fun _=>?_) fun _=>?_)
    | ((with_reducible apply w_ixM);(focus exact rfl);(focus exact rfl);case' hk=>intro y hy) | ((with_reducible (first | apply w_val | apply q_ends));(focus exact rfl)))
   all_goals first
    | (exfalso;omega)
    | rfl
 rw[if_neg e4] at hB
 by_cases e5:a.kind=5
 · rw[if_pos e5] at hB
   subst hB
   refine RawC.walk (H:=hint71 Try.prog) ir71 Try.func71 rfl rfl rfl ?_
   unfold ir71
   repeat' (first
    | refine advE ?_ | with_reducible refine w_alt ?_ ?_
    | with_reducible refine zI fun y hy=>?_ | refine advL ?_
    | refine adv ?_ | with_reducible (first | intro _ | refine Rt.p (fun _=>?_) fun _=>?_)
    | ((with_reducible apply w_ixM);(focus exact rfl);(focus exact rfl);case' hk=>intro y hy) | ((with_reducible (first | apply w_val | apply q_ends));(focus exact rfl)))
   all_goals try (exfalso;omega)
   rename_i g9
   refine w_loopK [37,38] [] (fun x:List Int×List Int×List Int×Nat=>c=x.1++x.2.1∧fstF x.2.2.1 x.2.1=fstF [] c∧x.2.2.1.length≤x.1.length) (fun x=>x.2.1.length) (fun x=>[(39,.int .i64 x.1.length),(9,.slc 1 (iR x.2.2.1) (.own 9 x.2.2.2))]) (fun x=>[(9,(x.2.2.2,.row []))]) ([],c,[],g9) ⟨rfl,rfl,Nat.le_refl _⟩ ⟨rfl,rfl,trivial⟩ ⟨rfl,trivial⟩ ?_
   rintro⟨pre,post,out,g⟩ ⟨hll,hb,ho⟩ e σ
   dsimp only at hll hb ho ⊢
   have hlen:=congrArg List.length hll
   have hol:(iR out).length=out.length:=List.length_map _
   cases post with
   | nil=>
     simp only[List.append_nil,List.length_append,List.length_nil] at hlen
     rw[show fstF out []=out from rfl] at hb
     rw[←hb]
     repeat' (first
      | refine advE ?_ | with_reducible refine w_alt ?_ ?_
      | with_reducible refine zI fun y hy=>?_ | refine advL ?_
      | refine adv ?_ | with_reducible (first | intro _ | refine Rt.p (fun _=>?_) fun _=>?_)
      | ((with_reducible apply w_ixM);(focus exact rfl);(focus exact rfl);case' hk=>intro y hy) | ((with_reducible (first | apply w_val | apply q_ends));(focus exact rfl)))
     all_goals first
      | (exfalso;omega)
      | rfl
   | cons x post=>
     simp only[List.length_append,List.length_cons] at hlen
     rw[fstF] at hb
     have hpl:(pre++[x]).length=pre.length+1:=len_snoc
     have hct:=contains_c out x (by omega)
     by_cases hx:0≤idxI out x
     · rw[if_pos hx] at hb
       rw[decide_eq_true hx] at hct
       repeat' (first
        | refine advE ?_ | with_reducible refine w_alt ?_ ?_
        | (refine w_ixP hll rfl rfl ?_)
        | with_reducible refine zI fun y hy=>?_ | refine advL ?_
        | ((with_reducible refine acall_id ?_);refine ACall.val hct rfl rfl ?_)
        | refine adv ?_ | with_reducible (first | intro _ | refine Rt.p (fun _=>?_) fun _=>?_)
        | ((with_reducible apply w_ixM);(focus exact rfl);(focus exact rfl);case' hk=>intro y hy) | ((with_reducible (first | apply w_val | apply q_ends));(focus exact rfl)))
       all_goals first
        | (exfalso;omega)
        | exact q_loop (pre++[x],post,out,g) ⟨by dsimp only;rw[hll];simp,hb,by dsimp only;omega⟩ (Nat.lt_succ_self _) ⟨by rw[len_snoc];rfl,rfl,trivial⟩ (by repeat' (first | exact slots_nil | apply slots_cons | rfl | (rw[map_snoc];rfl) | (rw[len_snoc];rfl) | (rw[hS];rfl) | (rw[hS,map_snoc];rfl) | (refine int_eq ?_;(try dsimp only);omega) | (refine congrArg AV.bool ?_;simp_all;done))) (by repeat' (first | exact kept_nil | apply kept_cons | rfl)) (by repeat' (first | exact kept_nil | apply kept_cons | rfl))
     · rw[if_neg hx] at hb
       rw[decide_eq_false hx] at hct
       repeat' (first
        | refine advE ?_ | with_reducible refine w_alt ?_ ?_
        | (refine w_ixP hll rfl rfl ?_)
        | with_reducible refine zI fun y hy=>?_ | refine advL ?_
        | ((with_reducible refine acall_id ?_);refine ACall.val hct rfl rfl ?_)
        | refine adv ?_ | with_reducible (first | intro _ | refine Rt.p (fun _=>?_) fun _=>?_)
        | ((with_reducible apply w_ixM);(focus exact rfl);(focus exact rfl);case' hk=>intro y hy) | ((with_reducible (first | apply w_val | apply q_ends));(focus exact rfl)))
       all_goals try (exfalso;omega)
       all_goals
        rename_i g5
        exact q_loop (pre++[x],post,out++[x],g5) ⟨by dsimp only;rw[hll];simp,hb,by dsimp only;rw[len_snoc];omega⟩ (Nat.lt_succ_self _) ⟨by rw[len_snoc];rfl,rfl,trivial⟩ (by repeat' (first | exact slots_nil | apply slots_cons | rfl | (rw[map_snoc];rfl) | (rw[len_snoc];rfl) | (rw[hS];rfl) | (rw[hS,map_snoc];rfl) | (refine int_eq ?_;(try dsimp only);omega) | (refine congrArg AV.bool ?_;simp_all;done))) (by repeat' (first | exact kept_nil | apply kept_cons | rfl)) (by repeat' (first | exact kept_nil | apply kept_cons | rfl))
 rw[if_neg e5] at hB
 by_cases e6:a.kind=6
 · rw[if_pos e6] at hB
   subst hB
   refine RawC.walk (H:=hint71 Try.prog) ir71 Try.func71 rfl rfl rfl ?_
   unfold ir71
   repeat' (first
    | refine advE ?_ | with_reducible refine w_alt ?_ ?_
    | (refine w_mksI rfl (by omega) ?_;intro g58)
    | with_reducible refine zI fun y hy=>?_ | refine advL ?_
    | refine adv ?_ | with_reducible (first | intro _ | refine Rt.p (fun _=>?_) fun _=>?_)
    | ((with_reducible apply w_ixM);(focus exact rfl);(focus exact rfl);case' hk=>intro y hy) | ((with_reducible (first | apply w_val | apply q_ends));(focus exact rfl)))
   all_goals try (exfalso;omega)
   refine w_loopK [12,59,60] [] (fun x:List Int×List Int×List Int=>c=x.1++x.2.1∧cntX x.2.2 x.2.1=cntX (List.replicate G.ws.length 0) c∧x.2.2.length=G.ws.length∧ ∀k,0≤x.2.2.getD k 0∧x.2.2.getD k 0≤x.1.length) (fun x=>x.2.1.length) (fun x=>[(61,.int .i64 x.1.length)]) (fun x=>[(58,(g58,.row (x.2.2.map (AV.int .i64))))]) ([],c,List.replicate G.ws.length 0) ⟨rfl,rfl,List.length_replicate,fun k=>by
    have:(List.replicate G.ws.length (0:Int)).getD k 0=0:=by
     rw[List.getD_eq_getElem?_getD,List.getElem?_replicate];split<;>rfl
    rw[this];exact⟨Int.le_refl _,Int.le_refl _⟩⟩ ⟨rfl,trivial⟩ ⟨rfl,trivial⟩ ?_
   rintro⟨pre,post,xs⟩ ⟨hll,hb,hx,hk⟩ e σ
   dsimp only at hll hb hx hk ⊢
   have hlen:=congrArg List.length hll
   cases post with
   | nil=>
     simp only[List.append_nil,List.length_append,List.length_nil] at hlen
     rw[show cntX xs []=xs from rfl] at hb
     rw[←hb]
     repeat' (first
      | refine advE ?_ | with_reducible refine w_alt ?_ ?_
      | with_reducible refine zI fun y hy=>?_ | refine advL ?_
      | refine adv ?_ | with_reducible (first | intro _ | refine Rt.p (fun _=>?_) fun _=>?_)
      | ((with_reducible apply w_ixM);(focus exact rfl);(focus exact rfl);case' hk=>intro y hy) | ((with_reducible (first | apply w_val | apply q_ends));(focus exact rfl)))
     all_goals try (exfalso;omega)
     have hfz:frzA 58 g58 (xs.map (AV.int .i64)) (.msl 58 g58 G.ws.length 1)= .slc 1 (iR xs) .non:=by rw[←hx];simp[frzA,chunk1]
     refine w_frzIG [(12,.slc 1 (iR xs) .non)] [] rfl rfl hx ⟨hfz,trivial⟩ trivial ?_
     intro e2 σ2
     repeat' (first
      | refine advE ?_ | with_reducible refine w_alt ?_ ?_
      | with_reducible refine zI fun y hy=>?_ | refine advL ?_
      | refine adv ?_ | with_reducible (first | intro _ | refine Rt.p (fun _=>?_) fun _=>?_)
      | ((with_reducible apply w_ixM);(focus exact rfl);(focus exact rfl);case' hk=>intro y hy) | ((with_reducible (first | apply w_val | apply q_ends));(focus exact rfl)))
     all_goals first
      | rfl
   | cons w post=>
     simp only[List.length_append,List.length_cons] at hlen
     rw[cntX] at hb
     have hw:=hc w (by rw[hll];simp)
     have hkw:=hk w.toNat
     have hwl:w.toNat*1<xs.length:=by omega
     have hw1:w.toNat*1=w.toNat:=Nat.mul_one _
     repeat' (first
      | refine advE ?_ | with_reducible refine w_alt ?_ ?_
      | (first | refine w_ixP hll rfl rfl ?_ | (refine w_ldI rfl rfl hwl ?_;rw[hw1]) | (refine w_stI rfl rfl rfl hwl ?_;rw[hw1]))
      | with_reducible refine zI fun y hy=>?_ | refine advL ?_
      | refine adv ?_ | with_reducible (first | intro _ | refine Rt.p (fun _=>?_) fun _=>?_)
      | ((with_reducible apply w_ixM);(focus exact rfl);(focus exact rfl);case' hk=>intro y hy) | ((with_reducible (first | apply w_val | apply q_ends));(focus exact rfl)))
     all_goals first
      | (exfalso;omega)
      | exact q_loop (pre++[w],post,xs.set w.toNat (xs.getD w.toNat 0+1)) ⟨by dsimp only;rw[hll];simp,hb,by dsimp only;rw[List.length_set];exact hx,fun k=>by
         dsimp only
         rw[set_getD (by omega),len_snoc]
         have:=hk k
         split<;>omega⟩   (Nat.lt_succ_self _) ⟨by rw[len_snoc];rfl,trivial⟩ (by repeat' (first | exact slots_nil | apply slots_cons | rfl | (rw[map_snoc];rfl) | (rw[len_snoc];rfl) | (rw[hS];rfl) | (rw[hS,map_snoc];rfl) | (refine int_eq ?_;(try dsimp only);omega) | (refine congrArg AV.bool ?_;simp_all;done))) (by repeat' (first | exact kept_nil | apply kept_cons | rfl)) (by repeat' (first | exact kept_nil | apply kept_cons | rfl))
 · rw[if_neg e6] at hB
   subst hB
   refine RawC.walk (H:=hint71 Try.prog) ir71 Try.func71 rfl rfl rfl ?_
   unfold ir71
   repeat' (first
    | refine advE ?_ | with_reducible refine w_alt ?_ ?_
    | with_reducible refine zI fun y hy=>?_ | refine advL ?_
    | ((with_reducible refine acall_id ?_);refine ACall.val (clone_c c _ (.inr ⟨rfl,hne⟩) (by omega)) rfl rfl ?_)
    | refine adv ?_ | with_reducible (first | intro _ | refine Rt.p (fun _=>?_) fun _=>?_)
    | ((with_reducible apply w_ixM);(focus exact rfl);(focus exact rfl);case' hk=>intro y hy) | ((with_reducible (first | apply w_val | apply q_ends));(focus exact rfl)))
   all_goals first
    | (exfalso;omega)
    | rfl
def cmpI (x y:Int):Int:=if x<y then-1 else if y<x then 1 else 0
theorem cmpI_eq {x y:Int}:cmpI x y=0↔x=y:=by unfold cmpI;split<;>(try split)<;>simp<;>omega
theorem cmpI_lt {x y:Int}:cmpI x y<0↔x<y:=by unfold cmpI;split<;>(try split)<;>simp<;>omega
theorem cmpI_anti (x y:Int):cmpI y x= -cmpI x y:=by
 unfold cmpI
 by_cases h1:x<y
 · rw[if_neg (by omega),if_pos h1,if_pos h1];omega
 · by_cases h2:y<x
   · rw[if_pos h2,if_neg h1,if_pos h2]
   · rw[if_neg h2,if_neg h1,if_neg h1,if_neg h2];omega
def lexI:List Int→List Int→Int
 | [],[]=>0
 | [],_::_=> -1
 | _::_,[]=>1
 | x::a,y::b=>if cmpI x y=0 then lexI a b else cmpI x y
theorem lexI_eq:∀{a b:List Int},lexI a b=0↔a=b
 | [],[]=>by simp[lexI]
 | [],_::_=>by simp[lexI]
 | _::_,[]=>by simp[lexI]
 | x::a,y::b=>by
   rw[lexI]
   split
   · rename_i h;rw[lexI_eq,cmpI_eq.1 h];simp
   · rename_i h
     refine⟨fun h2=>absurd h2 h,fun h2=>?_⟩
     cases h2
     exact absurd (cmpI_eq.2 rfl) h
theorem lexI_anti:∀(a b:List Int),lexI b a= -lexI a b
 | [],[]=>by simp[lexI]
 | [],_::_=>by simp[lexI]
 | _::_,[]=>by simp[lexI]
 | x::a,y::b=>by
   rw[lexI,lexI,lexI_anti a b,cmpI_anti x y]
   by_cases h:cmpI x y=0
   · rw[if_pos h,if_pos (by rw[h];rfl)]
   · rw[if_neg h,if_neg (by omega)]
theorem lexI_trans:∀{a b c:List Int},lexI a b<0→lexI b c<0→lexI a c<0
 | [],[],_,h,_=>by simp[lexI] at h
 | _::_,[],_,h,_=>by simp[lexI] at h
 | _,_::_,[],_,h=>by simp[lexI] at h
 | [],_::_,_::_,_,_=>by simp[lexI]
 | x::a,y::b,z::c,h1,h2=>by
   rw[lexI] at h1 h2 ⊢
   by_cases e1:cmpI x y=0
   · rw[if_pos e1] at h1
     obtain rfl:=cmpI_eq.1 e1
     by_cases e2:cmpI x z=0
     · rw[if_pos e2] at h2 ⊢;exact lexI_trans h1 h2
     · rw[if_neg e2] at h2 ⊢;exact h2
   · rw[if_neg e1] at h1
     have h1':=cmpI_lt.1 h1
     by_cases e2:cmpI y z=0
     · obtain rfl:=cmpI_eq.1 e2
       rw[if_neg e1];exact h1
     · rw[if_neg e2] at h2
       have h2':=cmpI_lt.1 h2
       have h3:cmpI x z<0:=cmpI_lt.2 (by omega)
       rw[if_neg (by omega)];exact h3
def lsI (a b:List Int):Int:=if cmpI a.length b.length=0 then lexI a b else cmpI a.length b.length
theorem lsI_eq {a b:List Int}:lsI a b=0↔a=b:=by
 unfold lsI
 split
 · exact lexI_eq
 · rename_i h
   exact⟨fun h2=>absurd h2 h,fun h2=>absurd (by rw[h2];exact cmpI_eq.2 rfl) h⟩
theorem lsI_anti (a b:List Int):lsI b a= -lsI a b:=by
 unfold lsI
 rw[cmpI_anti a.length b.length,lexI_anti a b]
 by_cases h:cmpI a.length b.length=0
 · rw[if_pos h,if_pos (by rw[h];rfl)]
 · rw[if_neg h,if_neg (by omega)]
theorem lsI_trans {a b c:List Int} (h1:lsI a b<0) (h2:lsI b c<0):lsI a c<0:=by
 unfold lsI at*
 by_cases e1:cmpI a.length b.length=0
 · rw[if_pos e1] at h1
   have q1:=cmpI_eq.1 e1
   rw[q1]
   by_cases e2:cmpI b.length c.length=0
   · rw[if_pos e2] at h2 ⊢;exact lexI_trans h1 h2
   · rw[if_neg e2] at h2 ⊢;exact h2
 · rw[if_neg e1] at h1
   have h1':=cmpI_lt.1 h1
   by_cases e2:cmpI b.length c.length=0
   · rw[←cmpI_eq.1 e2,if_neg e1];exact h1
   · rw[if_neg e2] at h2
     have h2':=cmpI_lt.1 h2
     have h3:cmpI a.length c.length<0:=cmpI_lt.2 (by omega)
     rw[if_neg (by omega)];exact h3
def ir118:IFn:=
 ⟨6,[(2,none)],(.seq (.ops [oo 2 (.mov (kB false))])
 (.seq (.ops [oo 3 (.mov 0),
 oo 4 (.mov 0),
 oo 5 (.bin .neq 3 4),
 oo 2 (.mov 5)])
 .ret))⟩
def hint118 (P:Program):Hint:={}
def ir106:IFn:=
 ⟨20,[(4,none)],(.seq (.ops [oo 4 (.mov (kI 0))])
 (.seq (.ops [oo 7 (.mov 0),
 oo 8 (.callF 118 [7]),
 oo 5 (.mov 8)])
 (.seq (.ops [oo 9 (.mov 1),
 oo 10 (.callF 118 [9]),
 oo 6 (.mov 10)])
 (.seq (.seq (.ops [oo 11 (.mov 5)])
 (.cnd 11
 (.seq (.seq (.ops [oo 12 (.mov 6)])
 (.cnd 12
 (.seq (.ops [oo 4 (.mov (kI 0))])
 .ret)
 .skip))
 (.seq (.ops [oo 4 (.mov (.k (.int .i64 (-1))))])
 .ret))
 .skip))
 (.seq (.seq (.ops [oo 13 (.mov 6)])
 (.cnd 13
 (.seq (.ops [oo 4 (.mov (kI 1))])
 .ret)
 .skip))
 (.seq (.seq (.ops [oo 14 (.mov 0),
 oo 15 (.mov 1),
 oo 16 (.bin .lss 14 15)])
 (.cnd 16
 (.seq (.ops [oo 4 (.mov (.k (.int .i64 (-1))))])
 .ret)
 .skip))
 (.seq (.seq (.ops [oo 17 (.mov 0),
 oo 18 (.mov 1),
 oo 19 (.bin .gtr 17 18)])
 (.cnd 19
 (.seq (.ops [oo 4 (.mov (kI 1))])
 .ret)
 .skip))
 (.seq (.ops [oo 4 (.mov (kI 0))])
 .ret))))))))⟩
def hint106 (P:Program):Hint:={}
def ir107:IFn:=
 ⟨36,[(4,none)],(.seq (.ops [oo 4 (.mov (kI 0))])
 (.seq (.seq (.ops [oo 9 (.mov 0),
 oo 10 (.len false 9),
 oo 11 (.mov (kI 0))])
 (.blk 0 (.loop (.seq (.ops [oo 12 (.bin .lss 11 10)])
 (.seq (.cnd 12
 .skip
 (.exit 0))
 (.seq (.blk 1 (.seq (.ops [oo 13 (.mov 11),
 oo 14 (.ixA 1 9 11),
 oo 15 (.ld 1 false 14),
 oo 5 (.mov 13),
 oo 6 (.mov 15)])
 (.seq (.seq (.ops [oo 16 (.mov 5),
 oo 17 (.mov 1),
 oo 18 (.len false 17),
 oo 19 (.bin .geq 16 18)])
 (.cnd 19
 (.seq (.ops [oo 4 (.mov (kI 1))])
 .ret)
 .skip))
 (.seq (.ops [oo 20 (.mov 1),
 oo 21 (.mov 5),
 oo 22 (.ixA 1 20 21),
 oo 23 (.ld 1 false 22),
 oo 7 (.mov 23)])
 (.seq (.ops [oo 24 (.mov 6),
 oo 25 (.mov 7),
 oo 26 (.callF 106 [24,25]),
 oo 8 (.mov 26)])
 (.seq (.ops [oo 27 (.mov 8),
 oo 28 (.bin .neq 27 (kI 0))])
 (.cnd 28
 (.seq (.ops [oo 29 (.mov 8),
 oo 4 (.mov 29)])
 .ret)
 .skip)))))))
 (.ops [oo 30 (.bin .add 11 (kI 1)),
 oo 11 (.mov 30)])))))))
 (.seq (.seq (.ops [oo 31 (.mov 0),
 oo 32 (.len false 31),
 oo 33 (.mov 1),
 oo 34 (.len false 33),
 oo 35 (.bin .lss 32 34)])
 (.cnd 35
 (.seq (.ops [oo 4 (.mov (.k (.int .i64 (-1))))])
 .ret)
 .skip))
 (.seq (.ops [oo 4 (.mov (kI 0))])
 .ret))))⟩
def hint107 (P:Program):Hint:={}
def ir105:IFn:=
 ⟨18,[(2,none)],(.seq (.ops [oo 2 (.mov (kI 0))])
 (.seq (.ops [oo 3 (.mov (kI 0))])
 (.seq (.seq (.ops [oo 6 (.mov 0),
 oo 7 (.len false 6),
 oo 8 (.mov (kI 0))])
 (.blk 0 (.loop (.seq (.ops [oo 9 (.bin .lss 8 7)])
 (.seq (.cnd 9
 .skip
 (.exit 0))
 (.seq (.blk 1 (.seq (.ops [oo 10 (.ixA 1 6 8),
 oo 11 (.ld 1 false 10),
 oo 5 (.mov 11)])
 (.seq (.ops [oo 12 (.mov 5),
 oo 13 (.mov 3),
 oo 14 (.bin .neq 12 13)])
 (.cnd 14
 (.seq (.ops [oo 15 (.mov 5),
 oo 2 (.mov 15)])
 .ret)
 .skip))))
 (.ops [oo 16 (.bin .add 8 (kI 1)),
 oo 8 (.mov 16)])))))))
 (.seq (.ops [oo 17 (.mov 3),
 oo 2 (.mov 17)])
 .ret))))⟩
def hint105 (P:Program):Hint:={}
theorem isNaN_c (x:Int):Fn0 Try.prog 118 [.int .i64 x] (fun v=>v= .bool false):=by
 refine RawC.walk (H:=hint118 Try.prog) ir118 Try.func118 rfl rfl rfl ?_
 unfold ir118
 repeat' (first
  | refine advE ?_ | with_reducible refine w_alt ?_ ?_
  | with_reducible refine zI fun y hy=>?_ | refine advL ?_
  | refine adv ?_ | with_reducible (first | intro _ | refine Rt.p (fun _=>?_) fun _=>?_)
  | ((with_reducible apply w_ixM);(focus exact rfl);(focus exact rfl);case' hk=>intro y hy) | ((with_reducible (first | apply w_val | apply q_ends));(focus exact rfl)))
 exact congrArg AV.bool (decide_eq_false (by simp))
theorem compare_c (x y:Int):Fn0 Try.prog 106 [.int .i64 x,.int .i64 y] (fun v=>v= .int .i64 (cmpI x y)):=by
 refine RawC.walk (H:=hint106 Try.prog) ir106 Try.func106 rfl rfl rfl ?_
 unfold ir106
 repeat' (first
  | refine advE ?_ | with_reducible refine w_alt ?_ ?_
  | with_reducible refine zI fun y hy=>?_ | refine advL ?_
  | ((with_reducible refine acall_id ?_);refine ACall.val (isNaN_c _) rfl rfl ?_)
  | refine adv ?_ | with_reducible (first | intro _ | refine Rt.p (fun _=>?_) fun _=>?_)
  | ((with_reducible apply w_ixM);(focus exact rfl);(focus exact rfl);case' hk=>intro y hy) | ((with_reducible (first | apply w_val | apply q_ends));(focus exact rfl)))
 all_goals (refine congrArg (AV.int .i64) ?_;unfold cmpI)
 · rw[if_pos (by assumption)]
 · rw[if_neg (by assumption),if_pos (by assumption)]
 · rw[if_neg (by assumption),if_neg (by assumption)]
theorem lexI_app (p a b:List Int):lexI (p++a) (p++b)=lexI a b:=by
 induction p with
 | nil=>rfl
 | cons x p ih=>rw[List.cons_append,List.cons_append,lexI,if_pos (cmpI_eq.2 rfl),ih]
theorem scompare_c (a b:List Int) (ha:a.length<1000000) (hb:b.length<1000000):Fn0 Try.prog 107 [.slc 1 (iR a) .non,.slc 1 (iR b) .non] (fun v=>v= .int .i64 (lexI a b)):=by
 refine RawC.walk (H:=hint107 Try.prog) ir107 Try.func107 rfl rfl rfl ?_
 unfold ir107
 repeat' (first
  | refine advE ?_ | with_reducible refine w_alt ?_ ?_
  | with_reducible refine zI fun y hy=>?_ | refine advL ?_
  | refine adv ?_ | with_reducible (first | intro _ | refine Rt.p (fun _=>?_) fun _=>?_)
  | ((with_reducible apply w_ixM);(focus exact rfl);(focus exact rfl);case' hk=>intro y hy) | ((with_reducible (first | apply w_val | apply q_ends));(focus exact rfl)))
 refine w_loopK [0,1,9,10] [] (fun x:List Int×List Int×List Int=>a=x.1++x.2.1∧b=x.1++x.2.2) (fun x=>x.2.1.length) (fun x=>[(11,.int .i64 x.1.length)]) (fun _=>[]) ([],a,b) ⟨rfl,rfl⟩ ⟨rfl,trivial⟩ trivial ?_
 rintro⟨pre,r,s⟩ ⟨h1,h2⟩ e σ
 dsimp only at h1 h2 ⊢
 have l1:=congrArg List.length h1
 have l2:=congrArg List.length h2
 rw[List.length_append] at l1 l2
 have hL:lexI a b=lexI r s:=by rw[h1,h2,lexI_app]
 cases r with
 | nil=>
   rw[List.length_nil] at l1
   repeat' (first
    | refine advE ?_ | with_reducible refine w_alt ?_ ?_
    | with_reducible refine zI fun y hy=>?_ | refine advL ?_
    | refine adv ?_ | with_reducible (first | intro _ | refine Rt.p (fun _=>?_) fun _=>?_)
    | ((with_reducible apply w_ixM);(focus exact rfl);(focus exact rfl);case' hk=>intro y hy) | ((with_reducible (first | apply w_val | apply q_ends));(focus exact rfl)))
   · cases s with
     | nil=>rw[List.length_nil] at l2;omega
     | cons y s=>rw[hL];rfl
   · cases s with
     | nil=>rw[hL];rfl
     | cons y s=>rw[List.length_cons] at l2;omega
 | cons x r=>
   rw[List.length_cons] at l1
   cases s with
   | nil=>
     rw[List.length_nil] at l2
     repeat' (first
      | refine advE ?_ | with_reducible refine w_alt ?_ ?_
      | (refine w_ixP h1 rfl rfl ?_)
      | with_reducible refine zI fun y hy=>?_ | refine advL ?_
      | refine adv ?_ | with_reducible (first | intro _ | refine Rt.p (fun _=>?_) fun _=>?_)
      | ((with_reducible apply w_ixM);(focus exact rfl);(focus exact rfl);case' hk=>intro y hy) | ((with_reducible (first | apply w_val | apply q_ends));(focus exact rfl)))
     rw[hL];rfl
   | cons y s=>
     rw[List.length_cons] at l2
     rw[lexI] at hL
     repeat' (first
      | refine advE ?_ | with_reducible refine w_alt ?_ ?_
      | (first | refine w_ixP h1 rfl rfl ?_ | refine w_ixP h2 rfl rfl ?_)
      | with_reducible refine zI fun y hy=>?_ | refine advL ?_
      | ((with_reducible refine acall_id ?_);refine ACall.val (compare_c _ _) rfl rfl ?_)
      | refine adv ?_ | with_reducible (first | intro _ | refine Rt.p (fun _=>?_) fun _=>?_)
      | ((with_reducible apply w_ixM);(focus exact rfl);(focus exact rfl);case' hk=>intro y hy) | ((with_reducible (first | apply w_val | apply q_ends));(focus exact rfl)))
     · rename_i h;rw[hL,if_neg h];rfl
     · rename_i h
       rw[if_pos (Decidable.not_not.1 h)] at hL
       have hxy:=cmpI_eq.1 (Decidable.not_not.1 h)
       refine zQ (pre++[x],r,s) ?_ ?_
       · dsimp only
         exact⟨by rw[h1];simp,by rw[h2,hxy];simp⟩
       · simp
def orI:List Int→Int
 | []=>0
 | x::r=>if x=0 then orI r else x
theorem or_c (l:List Int) (hl:l.length<1000000):Fn0 Try.prog 105 [.slc 1 (iR l) .non] (fun v=>v= .int .i64 (orI l)):=by
 refine RawC.walk (H:=hint105 Try.prog) ir105 Try.func105 rfl rfl rfl ?_
 unfold ir105
 repeat' (first
  | refine advE ?_ | with_reducible refine w_alt ?_ ?_
  | with_reducible refine zI fun y hy=>?_ | refine advL ?_
  | refine adv ?_ | with_reducible (first | intro _ | refine Rt.p (fun _=>?_) fun _=>?_)
  | ((with_reducible apply w_ixM);(focus exact rfl);(focus exact rfl);case' hk=>intro y hy) | ((with_reducible (first | apply w_val | apply q_ends));(focus exact rfl)))
 refine w_loopK [3,6,7] [] (fun x:List Int×List Int=>l=x.1++x.2∧orI l=orI x.2) (fun x=>x.2.length) (fun x=>[(8,.int .i64 x.1.length)]) (fun _=>[]) ([],l) ⟨rfl,rfl⟩ ⟨rfl,trivial⟩ trivial ?_
 rintro⟨pre,post⟩ ⟨hp,hb⟩ e σ
 dsimp only at hp hb ⊢
 have hlen:=congrArg List.length hp
 cases post with
 | nil=>
   simp only[List.append_nil,List.length_append,List.length_nil] at hlen
   repeat' (first
    | refine advE ?_ | with_reducible refine w_alt ?_ ?_
    | with_reducible refine zI fun y hy=>?_ | refine advL ?_
    | refine adv ?_ | with_reducible (first | intro _ | refine Rt.p (fun _=>?_) fun _=>?_)
    | ((with_reducible apply w_ixM);(focus exact rfl);(focus exact rfl);case' hk=>intro y hy) | ((with_reducible (first | apply w_val | apply q_ends));(focus exact rfl)))
   rw[hb];rfl
 | cons c post=>
   simp only[List.length_append,List.length_cons] at hlen
   rw[orI] at hb
   repeat' (first
    | refine advE ?_ | with_reducible refine w_alt ?_ ?_
    | (refine w_ixP hp rfl rfl ?_)
    | with_reducible refine zI fun y hy=>?_ | refine advL ?_
    | refine adv ?_ | with_reducible (first | intro _ | refine Rt.p (fun _=>?_) fun _=>?_)
    | ((with_reducible apply w_ixM);(focus exact rfl);(focus exact rfl);case' hk=>intro y hy) | ((with_reducible (first | apply w_val | apply q_ends));(focus exact rfl)))
   · rename_i h;rw[hb,if_neg h];rfl
   · rename_i h
     refine zQ (pre++[c],post) ?_ ?_
     · dsimp only
       exact⟨by rw[hp];simp,by rw[hb,if_pos (Decidable.not_not.1 h)]⟩
     · simp
def ir77:IFn:=
 ⟨15,[(4,none)],(.seq (.ops [oo 4 (.mov (kI 0))])
 (.seq (.ops [oo 5 (.mov 0),
 oo 6 (.len false 5),
 oo 7 (.mov 1),
 oo 8 (.len false 7),
 oo 9 (.callF 106 [6,8]),
 oo 10 (.mov 0),
 oo 11 (.mov 1),
 oo 12 (.callF 107 [10,11]),
 oo 13 (.bsl 1 [[(.int .i64 0)],[(.int .i64 0)]] [(0,9),(1,12)]),
 oo 14 (.callF 105 [13]),
 oo 4 (.mov 14)])
 .ret))⟩
def hint77 (P:Program):Hint:={}
theorem ordered_c (a b:List Int) (ha:a.length<1000000) (hb:b.length<1000000):Fn0 Try.prog 77 [.slc 1 (iR a) .non,.slc 1 (iR b) .non] (fun v=>v= .int .i64 (lsI a b)):=by
 refine RawC.walk (H:=hint77 Try.prog) ir77 Try.func77 rfl rfl rfl ?_
 unfold ir77
 repeat' (first
  | refine advE ?_ | with_reducible refine w_alt ?_ ?_
  | with_reducible refine zI fun y hy=>?_ | refine advL ?_
  | ((with_reducible refine acall_id ?_);refine ACall.val (compare_c _ _) rfl rfl ?_)
  | ((with_reducible refine acall_id ?_);refine ACall.val (scompare_c _ _ ha hb) rfl rfl ?_)
  | ((with_reducible refine acall_id ?_);refine ACall.val (or_c [_,_] (by simp)) rfl rfl ?_)
  | refine adv ?_ | with_reducible (first | intro _ | refine Rt.p (fun _=>?_) fun _=>?_)
  | ((with_reducible apply w_ixM);(focus exact rfl);(focus exact rfl);case' hk=>intro y hy) | ((with_reducible (first | apply w_val | apply q_ends));(focus exact rfl)))
 refine congrArg (AV.int .i64) ?_
 rw[orI,orI,orI,lsI]
 split
 · split
   · rename_i h;exact h.symm
   · rfl
 · rfl
def ansI (x:List Int) (n:Int):List (List Int×Int)→List (List Int×Int)
 | []=>[(x,n)]
 | y::r=>if lsI y.1 x<0 then y::ansI x n r else if y.1=x then (y.1,y.2+n)::r else (x,n)::y::r
def posI (x:List Int):List (List Int×Int)→Nat
 | []=>0
 | y::r=>if lsI y.1 x<0 then posI x r+1 else 0
def ansL (f:List Int→List Int) (l:List (List Int×Int)):List (List Int×Int):=l.foldl (fun A c=>ansI (f c.1) c.2 A) []
def srtA (L:List (List Int×Int)):Prop:=L.Pairwise fun a b=>lsI a.1 b.1<0
end Go.Abs
