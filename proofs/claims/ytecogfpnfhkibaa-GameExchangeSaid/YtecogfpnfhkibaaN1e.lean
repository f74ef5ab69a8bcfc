/- A part of the proofs of the laws of this seat: contracts of the functions that they reach, each proved of the program's form in Lean. No condition beyond those that each contract names. -/
import Derived.Test.YtecogfpnfhkibaaProg
import Derived.Test.YtecogfpnfhkibaaSnd3
import Derived.Test.YtecogfpnfhkibaaA0
import Derived.Test.YtecogfpnfhkibaaN1a
import Derived.Test.YtecogfpnfhkibaaN1b
import Derived.Test.YtecogfpnfhkibaaN1c
import Derived.Test.YtecogfpnfhkibaaN1d
set_option linter.unusedVariables false
set_option linter.unusedSimpArgs false
set_option maxRecDepth 20000
set_option maxHeartbeats 4000000
namespace Go.Abs
open Go.Proofs
theorem allL_mem {n:Nat}:∀{k:Nat} {s:List Int},s∈allL n k↔s.length=k∧ ∀w∈s,0≤w∧w<n
 | 0,s=>by
   rw[allL,List.mem_singleton]
   constructor
   · rintro rfl;exact⟨rfl,fun w hw=>by cases hw⟩
   · intro h;exact List.eq_nil_of_length_eq_zero h.1
 | k+1,s=>by
   rw[allL,List.mem_flatMap]
   constructor
   · rintro⟨w,hw,hs⟩
     obtain⟨t,ht,rfl⟩:=List.mem_map.1 hs
     obtain⟨h1,h2⟩:=allL_mem.1 ht
     refine⟨by simp[h1],fun v hv=>?_⟩
     rcases List.mem_cons.1 hv with rfl | hv
     · have:=List.mem_range.1 hw;omega
     · exact h2 v hv
   · rintro⟨h1,h2⟩
     cases s with
     | nil=>simp at h1
     | cons w t=>
       have hw:=h2 w (by simp)
       refine⟨w.toNat,List.mem_range.2 (by omega),List.mem_map.2 ⟨t,allL_mem.2 ⟨by simpa using h1,fun v hv=>h2 v (by simp[hv])⟩,?_⟩⟩
       rw[show ((w.toNat:Nat):Int)=w by omega]
structure GOK (G:Gm):Prop where
 n1:1≤G.ws.length
 n6:G.ws.length≤6
 d24:G.ds.length≤24
 cnt:∀d∈G.ds,drawsB d=true→1≤d.count∧d.count≤12
 cen:1≤censG (stepsG G.ds)∧censG (stepsG G.ds)≤9
 wd:wdOK G.ws.length (stepsG G.ds)
 ex:runOK G.ws.length (stepsG G.ds) tb0.bags tb0.mixed
 ws:wsErr [] G.ws=0
 ds:dsErr G.ws.length tb0 G.ds=0
theorem bgT0 (n:Nat):bgT n tb0.bags bg0:=by
 refine⟨rfl,fun v hv=>?_,fun i w _ _=>bg0_at i w,fun i hi=>?_⟩
 · rw[(List.mem_replicate.1 hv).2];decide
 · rw[nSum6,bg0_at,bg0_at,bg0_at,bg0_at,bg0_at,bg0_at]
   rcases (by omega:i=0∨i=1∨i=2∨i=3) with rfl | rfl | rfl | rfl<;>rfl
theorem dl_of {n:Nat} {d:Dl} {t:Tb} (h:dlErr n d t=0):inB d.kind 1 6=true∧formD d=true∧dealE n d t=0:=by
 unfold dlErr at h
 by_cases hk:inB d.kind 1 6=true
 · rw[if_pos hk] at h
   by_cases hf:formD d=true
   · rw[if_pos hf] at h;exact⟨hk,hf,h⟩
   · rw[if_neg hf] at h;exact absurd h (by decide)
 · rw[if_neg hk] at h;exact absurd h (by decide)
theorem ds_cons {n:Nat} {t:Tb} {d:Dl} {r:List Dl} (h:dsErr n t (d::r)=0):dlErr n d t=0∧dsErr n (dealT d t) r=0:=by
 rw[dsErr] at h
 by_cases hd:dlErr n d t=0
 · rw[if_pos hd] at h;exact⟨hd,h⟩
 · rw[if_neg hd] at h;exact absurd h hd
theorem deals_tab {n:Nat}:∀(l:List Dl) (t:Tb),tbOK t→dsErr n t l=0→tbOK (dsTab t l)
 | [],t,h,_=>h
 | d::r,t,h,h0=>by
   obtain⟨h1,h2⟩:=ds_cons h0
   obtain⟨k1,k2,k3⟩:=dl_of h1
   exact deals_tab r _ (dealT_ok k1 h k3) h2
theorem stp1_wd {n:Nat} {d:Dl} {t:Tb} (hk:inB d.kind 1 6=true) (h0:dealE n d t=0):wdOK n (stp1 d):=by
 intro x hx h1 h2
 unfold stp1 at hx
 split at hx
 · rw[(List.mem_replicate.1 hx).2] at h2;cases h2
 · rw[List.mem_singleton.1 hx] at h1 ⊢
   have h6:d.kind=6:=by simpa using h1
   unfold dealE at h0
   rw[if_neg (by omega),if_neg (by omega),if_neg (by omega),if_neg (by omega),if_neg (by omega)] at h0
   have:=inB_t.1 (place_0 h0)
   exact⟨this.1,by show d.wood<_;omega⟩
theorem deals_wd {n:Nat}:∀(l:List Dl) (t:Tb),dsErr n t l=0→wdOK n (stepsG l)
 | [],_,_=>fun x hx=>by cases hx
 | d::r,t,h0=>by
   obtain⟨h1,h2⟩:=ds_cons h0
   obtain⟨k1,k2,k3⟩:=dl_of h1
   intro x hx
   rcases List.mem_append.1 (show x∈stp1 d++stepsG r from hx) with hx | hx
   · exact stp1_wd k1 k3 x hx
   · exact deals_wd r _ h2 x hx
theorem gm_ok {G:Gm} (h:gmErr G=0):GOK G:=by
 unfold gmErr at h
 by_cases h1:G.ws=[]
 · rw[if_pos h1] at h;exact absurd h (by decide)
 rw[if_neg h1] at h
 by_cases h2:6<G.ws.length
 · rw[if_pos h2] at h;exact absurd h (by decide)
 rw[if_neg h2] at h
 by_cases h3:wsErr [] G.ws=0
 rotate_left
 · rw[if_neg h3] at h;exact absurd h h3
 rw[if_pos h3] at h
 by_cases h4:24<G.ds.length
 · rw[if_pos h4] at h;exact absurd h (by decide)
 rw[if_neg h4] at h
 by_cases h5:dsErr G.ws.length tb0 G.ds=0
 rotate_left
 · rw[if_neg h5] at h;exact absurd h h5
 rw[if_pos h5] at h
 by_cases h6:(dsTab tb0 G.ds).cens=0
 · rw[if_pos h6] at h;exact absurd h (by decide)
 obtain⟨i1,i2,i3⟩:=deals_run G.ds tb0 tb0_ok h5
 have hw0:G.ws.length≠0:=fun e=>h1 (List.eq_nil_of_length_eq_zero e)
 have hc0:tb0.cens=0:=rfl
 have hc9:=(deals_tab G.ds tb0 tb0_ok h5).c
 exact⟨by omega,by omega,by omega,i1,⟨by omega,by omega⟩,deals_wd _ _ h5,i2,h3,h5⟩
theorem tb0_in:tbIn tb0.bags tb0.mixed:=tb0_ok.tin
theorem bgT.bgin {n:Nat} {b B:List Int} {m:Int} (h:bgT n b B) (ht:tbIn b m):bgIn B:=by
 refine⟨h.l,fun v hv=>?_⟩
 obtain⟨p,hp,rfl⟩:=List.getElem_of_mem hv
 have hp24:p<24:=by rw[←h.l];exact hp
 have hi:(0:Int)≤(p/6:Nat)∧((p/6:Nat):Int)≤3:=by omega
 have:=h.at hi (w:=(p%6:Nat)) (by omega)
 have h2:=ht.le hi
 have h3:=ht.sm
 have h4:=ht.m
 have e:bgAt B (p/6:Nat) (p%6:Nat)=B[p]:=by
  unfold bgAt
  rw[Int.toNat_natCast,Int.toNat_natCast,show p/6*6+p%6=p by omega,List.getD_eq_getElem?_getD,List.getElem?_eq_getElem hp];rfl
 rw[e] at this
 omega
theorem crsG_list {G:Gm} (h:GOK G):crsG G=((allL G.ws.length (censG (stepsG G.ds))).filter fun s=>decide (0<cwG G s)).map fun s=>(s,cwG G s):=crsG_eq G (run_stOK h.ex)
theorem szP_pos {n:Nat}:∀{l:List Sp} {b:List Int} {m:Int},runOK n l b m→1≤szP l b
 | [],_,_,_=>Int.le_refl _
 | x::r,b,m,h=>by
   have ih:=szP_pos h.2
   rw[szP]
   split
   · have:=(h.1.d (by assumption)).2
     have:1*1≤atI b x.1.bag*szP r (spB x b):=Int.mul_le_mul this ih (by decide) (by omega)
     omega
   · omega
theorem lsum_pos {f:List Int→Int}:∀{L:List (List Int)},0<lsum L f→ ∃s∈L,0<f s
 | [],h=>by simp[lsum] at h
 | a::r,h=>by
   rw[lsum_cons] at h
   by_cases ha:0<f a
   · exact⟨a,by simp,ha⟩
   · obtain⟨s,hs,hf⟩:=lsum_pos (L:=r) (f:=f) (by omega)
     exact⟨s,by simp[hs],hf⟩
def allW (G:Gm):Int:=szP (stepsG G.ds) tb0.bags
theorem cwG_tot {G:Gm} (h:GOK G):lsum (allL G.ws.length (censG (stepsG G.ds))) (cwG G)=allW G:=cnt_tot h.n6 tb0_in h.ex h.wd (bgT0 _)
theorem crsG_mem {G:Gm} (h:GOK G) {c:List Int×Int}:c∈crsG G↔(c.1.length=censG (stepsG G.ds)∧ ∀w∈c.1,0≤w∧w<G.ws.length)∧0<cwG G c.1∧c.2=cwG G c.1:=by
 rw[crsG_list h,List.mem_map]
 constructor
 · rintro⟨s,hs,rfl⟩
   obtain⟨h1,h2⟩:=List.mem_filter.1 hs
   exact⟨allL_mem.1 h1,by simpa using h2,rfl⟩
 · rintro⟨h1,h2,h3⟩
   exact⟨c.1,List.mem_filter.2 ⟨allL_mem.2 h1,by simpa using h2⟩,by rw[←h3]⟩
theorem crsG_ne {G:Gm} (h:GOK G):crsG G≠[]:=fun e=>by
 have h1:=cwG_tot h
 have h2:=szP_pos h.ex
 obtain⟨s,hs,hp⟩:=lsum_pos (L:=allL G.ws.length (censG (stepsG G.ds))) (f:=cwG G) (by rw[h1];exact h2)
 have:(s,cwG G s)∈crsG G:=(crsG_mem h).2 ⟨allL_mem.1 hs,hp,rfl⟩
 rw[e] at this
 cases this
theorem szP_le {n:Nat}:∀{l:List Sp} {b:List Int} {m:Int},tbIn b m→runOK n l b m→szP l b≤fct (sumB b+12-m).toNat
 | [],b,m,_,_=>fct_pos _
 | x::r,b,m,ht,h=>by
   obtain⟨ht2,hs⟩:=ht.step h.1
   have ih:=szP_le ht2 h.2
   rw[szP]
   by_cases hd:x.2.1=true
   · obtain⟨hb,ha⟩:=h.1.d hd
     rw[if_pos hd] at hs ⊢
     have hle:=ht.le hb
     have hsm:=ht.sm
     have hm:=ht.m
     obtain⟨k,hk⟩:∃k:Nat,(sumB b+12-m).toNat=k+1:=⟨(sumB b+12-m).toNat-1,by omega⟩
     have hk2:(sumB (spB x b)+12-spM x m).toNat=k:=by omega
     rw[hk2] at ih
     rw[hk]
     have hz:=szP_pos h.2
     have e1:atI b x.1.bag*szP r (spB x b)≤((k+1:Nat):Int)*fct k:=Int.mul_le_mul (by omega) ih (by omega) (by omega)
     exact e1
   · rw[if_neg hd] at hs ⊢
     have hk2:(sumB (spB x b)+12-spM x m).toNat=(sumB b+12-m).toNat:=by omega
     rw[hk2] at ih
     omega
theorem allW_bd {G:Gm} (h:GOK G):1≤allW G∧allW G≤479001600:=by
 have:=szP_le tb0_in h.ex
 have e:(sumB tb0.bags+12-tb0.mixed).toNat=12:=by decide
 rw[e,fct12] at this
 exact⟨szP_pos h.ex,this⟩
theorem lsum_filter (f:List Int→Int) (hf:∀s,0≤f s):∀L:List (List Int),lsum (L.filter fun s=>decide (0<f s)) f=lsum L f
 | []=>rfl
 | a::r=>by
   rw[List.filter_cons,lsum_cons]
   have:=hf a
   split
   · rw[lsum_cons,lsum_filter f hf r]
   · rename_i h
     rw[lsum_filter f hf r]
     have:¬0<f a:=by simpa using h
     omega
theorem cwG_nn {G:Gm} (h:GOK G) (s:List Int):0≤cwG G s:=cntG_nn _ (run_stOK h.ex) s nn_bg0
def sumA:List (List Int×Int)→Int
 | []=>0
 | y::r=>y.2+sumA r
theorem sumA_map (f:List Int→Int):∀L:List (List Int),sumA (L.map fun s=>(s,f s))=lsum L f
 | []=>rfl
 | a::r=>by rw[List.map_cons,sumA,lsum_cons,sumA_map f r]
theorem crsG_sum {G:Gm} (h:GOK G):sumA (crsG G)=allW G:=by
 rw[crsG_list h,sumA_map,lsum_filter _ (cwG_nn h),cwG_tot h]
def ir48:IFn:=
 ⟨30,[(2,none)],(.seq (.ops [oo 2 (.mov (.k (.int .u64 0)))])
 (.seq (.ops [oo 4 (.mov 0),
 oo 5 (.mov 0),
 oo 6 (.nck 5),
 oo 7 (.flA 0 6),
 oo 8 (.ld 1 false 7),
 oo 9 (.bin .add 8 (.k (.int .u64 11507291218515648293))),
 oo 10 (.nck 4),
 oo 11 (.flA 0 10),
 ⟨none,none,(.st 1 11 9)⟩])
 (.seq (.ops [oo 12 (.mov 0),
 oo 13 (.nck 12),
 oo 14 (.flA 0 13),
 oo 15 (.ld 1 false 14),
 oo 3 (.mov 15)])
 (.seq (.ops [oo 16 (.mov 3),
 oo 17 (.mov 3),
 oo 18 (.bin .shr 17 (.k (.int .u64 32))),
 oo 19 (.bin .xor 16 18),
 oo 20 (.bin .mul 19 (.k (.int .u64 15485907386658061715))),
 oo 3 (.mov 20)])
 (.seq (.ops [oo 21 (.mov 3),
 oo 22 (.mov 3),
 oo 23 (.bin .shr 22 (.k (.int .u64 29))),
 oo 24 (.bin .xor 21 23),
 oo 25 (.bin .mul 24 (.k (.int .u64 14029467366897019727))),
 oo 3 (.mov 25)])
 (.seq (.ops [oo 26 (.mov 3),
 oo 27 (.mov 3),
 oo 28 (.bin .shr 27 (.k (.int .u64 32))),
 oo 29 (.bin .xor 26 28),
 oo 2 (.mov 29)])
 .ret))))))⟩
def hint48 (P:Program):Hint:={}
def ir15:IFn:=
 ⟨30,[(2,none)],(.seq (.ops [oo 2 (.mov (.k .npt))])
 (.seq (.ops [oo 5 (.bld [(.int .u64 0)] [(0,1,(.k (.int .u64 2685821657736338717)))]),
 oo 6 (.box 1 5),
 oo 3 (.mov 6)])
 (.seq (.seq (.ops [oo 4 (.mov (kI 0))])
 (.blk 0 (.loop (.seq (.seq (.ops [oo 7 (.mov 4),
 oo 8 (.mov 0),
 oo 9 (.len false 8),
 oo 10 (.bin .lss 7 9)])
 (.cnd 10
 .skip
 (.exit 0)))
 (.seq (.blk 1 (.seq (.ops [oo 13 (.mov 3),
 oo 14 (.mov 3),
 oo 15 (.nck 14),
 oo 16 (.flA 0 15),
 oo 17 (.ld 1 false 16),
 oo 18 (.mov 0),
 oo 19 (.mov 4),
 oo 20 (.ixA 1 18 19),
 oo 21 (.ld 1 false 20),
 oo 22 (.cvI .u64 21),
 oo 23 (.bin .xor 17 22),
 oo 24 (.bin .mul 23 (.k (.int .u64 15485907386658061715))),
 oo 25 (.nck 13),
 oo 26 (.flA 0 25),
 ⟨none,none,(.st 1 26 24)⟩])
 (.ops [oo 27 (.mov 3),
 oo 28 (.callF 48 [27])])))
 (.ops [oo 11 (.mov 4),
 oo 12 (.bin .add 11 (kI 1)),
 oo 4 (.mov 12)]))))))
 (.seq (.ops [oo 29 (.mov 3),
 oo 2 (.mov 29)])
 .ret))))⟩
def hint15 (P:Program):Hint:={}
def ir31:IFn:=
 ⟨14,[(4,none)],(.seq (.ops [oo 4 (.mov (kI 0))])
 (.seq (.seq (.ops [oo 5 (.mov 1),
 oo 6 (.bin .lss 5 (kI 2))])
 (.cnd 6
 (.seq (.ops [oo 4 (.mov (kI 0))])
 .ret)
 .skip))
 (.seq (.ops [oo 7 (.mov 0),
 oo 8 (.callF 48 [7]),
 oo 9 (.bin .shr 8 (.k (.int .u64 1))),
 oo 10 (.mov 1),
 oo 11 (.cvI .u64 10),
 oo 12 (.bin .rem 9 11),
 oo 13 (.cvI .i64 12),
 oo 4 (.mov 13)])
 .ret)))⟩
def hint31 (P:Program):Hint:={}
def ir30:IFn:=
 ⟨15,[(6,none)],(.seq (.ops [oo 6 (.mov (kI 0))])
 (.seq (.ops [oo 7 (.mov 1),
 oo 8 (.mov 0),
 oo 9 (.mov 2),
 oo 10 (.mov 1),
 oo 11 (.bin .sub 9 10),
 oo 12 (.bin .add 11 (kI 1)),
 oo 13 (.callF 31 [8,12]),
 oo 14 (.bin .add 7 13),
 oo 6 (.mov 14)])
 .ret))⟩
def hint30 (P:Program):Hint:={}
def ir47:IFn:=
 ⟨9,[(4,none)],(.seq (.ops [oo 4 (.mov (kB false))])
 (.seq (.ops [oo 5 (.mov 0),
 oo 6 (.mov 1),
 oo 7 (.callF 31 [5,6]),
 oo 8 (.bin .eql 7 (kI 0)),
 oo 4 (.mov 8)])
 .ret))⟩
def hint47 (P:Program):Hint:={}
theorem turn_c (g:Nat) (w:Int):RawC Try.prog 48 [.ref 1000 g 0] (BoxS g w) (BoxR g fun av=>∃n,av= .int .u64 n∧0≤n∧n<18446744073709551616):=by
 refine RawC.walk (H:=hint48 Try.prog) ir48 Try.func48 rfl rfl rfl ?_
 unfold ir48
 repeat' (first
  | with_reducible (first | refine Rd.p ?_ | refine w_alt ?_ ?_ | refine zE ?_ | refine zE0 ?_)
  | with_reducible (first | refine zI fun y hy=>?_ | refine zL ?_ | refine zS ?_ | refine zA fun _=>?_ | refine zV ?_ | refine zC ?_ | refine zG ?_ | refine zU ?_ | refine zG0 ?_ | refine zU0 ?_ | refine zF ?_)
  | with_reducible (first | refine zX ?_ | refine zD fun _=>?_ | refine zD0 ?_ | refine zN ?_ | refine zF0 ?_ | refine zX0 ?_ | refine z1 ?_ | refine z2 ?_ | refine z3 ?_ | refine z4 ?_ | refine z5 ?_ | refine z6 ?_ | refine z7 ?_ | refine z8 ?_ | refine y1 ?_ | refine y2 ?_ | refine y3 ?_ | refine y4 ?_ | refine y5 ?_ | refine y6 ?_ | refine y7 ?_ | refine y8 ?_ | refine Rt.p (fun _=>?_) fun _=>?_)
  | ((with_reducible apply w_ixM);(focus exact rfl);(focus exact rfl);case' hk=>intro y hy) | ((with_reducible (first | apply w_val | apply q_ends));(focus exact rfl)))
 exact⟨_,⟨_,rfl,(wrap_u64 _).1,(wrap_u64 _).2⟩,rfl⟩
theorem up_mod {a n:Int} (ha:0≤a) (hn:2≤n) (hw:IntKind.u64.wrap n=n):0≤(a.fdiv (2^min (Int.toNat 1) IntKind.u64.bits)).tmod (IntKind.u64.wrap n)∧(a.fdiv (2^min (Int.toNat 1) IntKind.u64.bits)).tmod (IntKind.u64.wrap n)<n:=by
 rw[hw]
 have h0:0≤a.fdiv (2^min (Int.toNat 1) IntKind.u64.bits):=Int.fdiv_nonneg ha (by decide)
 exact⟨Int.tmod_nonneg _ h0,Int.tmod_lt_of_pos _ (by omega)⟩
theorem up_c (g:Nat) (w n:Int) (hn:n<2^62):RawC Try.prog 31 [.ref 1000 g 0,.int .i64 n] (BoxS g w) (BoxR g fun av=>∃k,av= .int .i64 k∧0≤k∧(k<n∨k=0)):=by
 by_cases h2:n<2
 · refine RawC.walk (H:=hint31 Try.prog) ir31 Try.func31 rfl rfl rfl ?_
   unfold ir31
   repeat' (first
    | with_reducible (first | refine Rd.p ?_ | refine w_alt ?_ ?_ | refine zE ?_ | refine zE0 ?_)
    | with_reducible (first | refine zI fun y hy=>?_ | refine zL ?_ | refine zS ?_ | refine zA fun _=>?_ | refine zV ?_ | refine zC ?_ | refine zG ?_ | refine zU ?_ | refine zG0 ?_ | refine zU0 ?_ | refine zF ?_)
    | with_reducible (first | refine zX ?_ | refine zD fun _=>?_ | refine zD0 ?_ | refine zN ?_ | refine zF0 ?_ | refine zX0 ?_ | refine z1 ?_ | refine z2 ?_ | refine z3 ?_ | refine z4 ?_ | refine z5 ?_ | refine z6 ?_ | refine z7 ?_ | refine z8 ?_ | refine y1 ?_ | refine y2 ?_ | refine y3 ?_ | refine y4 ?_ | refine y5 ?_ | refine y6 ?_ | refine y7 ?_ | refine y8 ?_ | refine Rt.p (fun _=>?_) fun _=>?_)
    | ((with_reducible apply w_ixM);(focus exact rfl);(focus exact rfl);case' hk=>intro y hy) | ((with_reducible (first | apply w_val | apply q_ends));(focus exact rfl)))
   exact⟨_,⟨_,rfl,by omega⟩,rfl⟩
 have hw:=wrap_u64_id n (by omega) (by omega)
 refine RawC.walk (H:=hint31 Try.prog) ir31 Try.func31 rfl rfl rfl ?_
 unfold ir31
 repeat' (first
  | with_reducible (first | refine Rd.p ?_ | refine w_alt ?_ ?_ | refine zE ?_ | refine zE0 ?_)
  | with_reducible (first | refine zI fun y hy=>?_ | refine zL ?_ | refine zS ?_ | refine zA fun _=>?_)
  | ((with_reducible apply w_ixM);(focus exact rfl);(focus exact rfl);(focus ((repeat' (with_reducible (first | exact trivial | apply And.intro)))<;>(first | (have:=up_mod ha (by omega:2≤n) hw;unfold inI;omega) | exact sd)));case' hk=>intro y hy) | ((with_reducible apply w_slM);(focus exact rfl);(focus exact rfl);(focus exact rfl);(focus ((repeat' (with_reducible (first | exact trivial | apply And.intro)))<;>(first | (have:=up_mod ha (by omega:2≤n) hw;unfold inI;omega) | exact sd)))) | ((with_reducible apply w_val);(focus exact rfl);(focus ((repeat' (with_reducible (first | exact trivial | apply And.intro)))<;>(first | (have:=up_mod ha (by omega:2≤n) hw;unfold inI;omega) | exact sd)))) | ((with_reducible apply w_det);(focus exact fun _=>rfl);(focus ((repeat' (with_reducible (first | exact trivial | apply And.intro)))<;>(first | (have:=up_mod ha (by omega:2≤n) hw;unfold inI;omega) | exact sd)));case' hk=>intro _) | ((with_reducible apply w_det0);(focus exact fun _=>rfl);(focus ((repeat' (with_reducible (first | exact trivial | apply And.intro)))<;>(first | (have:=up_mod ha (by omega:2≤n) hw;unfold inI;omega) | exact sd)))) | ((with_reducible apply q_ends);(focus exact rfl);(focus ((repeat' (with_reducible (first | exact trivial | apply And.intro)))<;>(first | (have:=up_mod ha (by omega:2≤n) hw;unfold inI;omega) | exact sd))))
  | with_reducible (first | refine zI fun y hy=>?_ | refine zL ?_ | refine zS ?_ | refine zA fun _=>?_ | refine zV ?_ | refine zC ?_ | refine zG ?_ | refine zU ?_ | refine zG0 ?_ | refine zU0 ?_ | refine zF ?_)
  | ((with_reducible refine acall_id ?_);refine ACall.box (turn_c _ _) rfl rfl rfl ?_;rintro _ _ ⟨_,rfl,ha,_⟩)
  | with_reducible (first | refine zX ?_ | refine zD fun _=>?_ | refine zD0 ?_ | refine zN ?_ | refine zF0 ?_ | refine zX0 ?_ | refine z1 ?_ | refine z2 ?_ | refine z3 ?_ | refine z4 ?_ | refine z5 ?_ | refine z6 ?_ | refine z7 ?_ | refine z8 ?_ | refine y1 ?_ | refine y2 ?_ | refine y3 ?_ | refine y4 ?_ | refine y5 ?_ | refine y6 ?_ | refine y7 ?_ | refine y8 ?_ | refine Rt.p (fun _=>?_) fun _=>?_)
  | ((with_reducible apply w_ixM);(focus exact rfl);(focus exact rfl);case' hk=>intro y hy) | ((with_reducible (first | apply w_val | apply q_ends));(focus exact rfl)))
 have:=up_mod ha (by omega:2≤n) hw
 exact⟨_,⟨_,rfl,by omega⟩,rfl⟩
abbrev ltV (n:Int) (av:AV):Prop:=∃k,av= .int .i64 k∧0≤k∧k<n
theorem upp_c (g:Nat) (w n:Int) (h0:0<n) (hn:n<2^62):RawC Try.prog 31 [.ref 1000 g 0,.int .i64 n] (BoxS g w) (BoxR g (ltV n)):=
 (up_c g w n hn).mono fun _ _ ⟨w',⟨k,h1,h2,h3⟩,h4⟩=>⟨w',⟨k,h1,h2,by omega⟩,h4⟩
theorem any_c (g:Nat) (w a b:Int) (h0: -1000000<a) (h1:a<1000000) (h2: -1000000<b) (h3:b<1000000):RawC Try.prog 30 [.ref 1000 g 0,.int .i64 a,.int .i64 b] (BoxS g w) (BoxR g fun av=>∃k,av= .int .i64 k∧a≤k∧(k≤b∨k=a)):=by
 refine RawC.walk (H:=hint30 Try.prog) ir30 Try.func30 rfl rfl rfl ?_
 unfold ir30
 repeat' (first
  | with_reducible (first | refine Rd.p ?_ | refine w_alt ?_ ?_ | refine zE ?_ | refine zE0 ?_)
  | with_reducible (first | refine zI fun y hy=>?_ | refine zL ?_ | refine zS ?_ | refine zA fun _=>?_ | refine zV ?_ | refine zC ?_ | refine zG ?_ | refine zU ?_ | refine zG0 ?_ | refine zU0 ?_ | refine zF ?_)
  | ((with_reducible refine acall_id ?_);refine ACall.box (up_c _ _ _ (by omega)) rfl rfl rfl ?_;rintro _ _ ⟨_,rfl,_,_⟩)
  | with_reducible (first | refine zX ?_ | refine zD fun _=>?_ | refine zD0 ?_ | refine zN ?_ | refine zF0 ?_ | refine zX0 ?_ | refine z1 ?_ | refine z2 ?_ | refine z3 ?_ | refine z4 ?_ | refine z5 ?_ | refine z6 ?_ | refine z7 ?_ | refine z8 ?_ | refine y1 ?_ | refine y2 ?_ | refine y3 ?_ | refine y4 ?_ | refine y5 ?_ | refine y6 ?_ | refine y7 ?_ | refine y8 ?_ | refine Rt.p (fun _=>?_) fun _=>?_)
  | ((with_reducible apply w_ixM);(focus exact rfl);(focus exact rfl);case' hk=>intro y hy) | ((with_reducible (first | apply w_val | apply q_ends));(focus exact rfl)))
 exact⟨_,⟨_,rfl,by omega⟩,rfl⟩
theorem one_c (g:Nat) (w n:Int) (hn:n<2^62):RawC Try.prog 47 [.ref 1000 g 0,.int .i64 n] (BoxS g w) (BoxR g fun av=>∃t,av= .bool t):=by
 refine RawC.walk (H:=hint47 Try.prog) ir47 Try.func47 rfl rfl rfl ?_
 unfold ir47
 repeat' (first
  | with_reducible (first | refine Rd.p ?_ | refine w_alt ?_ ?_ | refine zE ?_ | refine zE0 ?_)
  | with_reducible (first | refine zI fun y hy=>?_ | refine zL ?_ | refine zS ?_ | refine zA fun _=>?_ | refine zV ?_ | refine zC ?_ | refine zG ?_ | refine zU ?_ | refine zG0 ?_ | refine zU0 ?_ | refine zF ?_)
  | ((with_reducible refine acall_id ?_);refine ACall.box (up_c _ _ _ (by omega)) rfl rfl rfl ?_;rintro _ _ ⟨_,rfl,_,_⟩)
  | with_reducible (first | refine zX ?_ | refine zD fun _=>?_ | refine zD0 ?_ | refine zN ?_ | refine zF0 ?_ | refine zX0 ?_ | refine z1 ?_ | refine z2 ?_ | refine z3 ?_ | refine z4 ?_ | refine z5 ?_ | refine z6 ?_ | refine z7 ?_ | refine z8 ?_ | refine y1 ?_ | refine y2 ?_ | refine y3 ?_ | refine y4 ?_ | refine y5 ?_ | refine y6 ?_ | refine y7 ?_ | refine y8 ?_ | refine Rt.p (fun _=>?_) fun _=>?_)
  | ((with_reducible apply w_ixM);(focus exact rfl);(focus exact rfl);case' hk=>intro y hy) | ((with_reducible (first | apply w_val | apply q_ends));(focus exact rfl)))
 exact⟨_,⟨_,rfl⟩,rfl⟩
theorem boxOf_c (l:List Int) (hl:l.length<2^62):RawC Try.prog 15 [.slc 1 (iR l) .non] (sg []) (fun av σ'=>∃g w,av= .ref 6 g 0∧σ' 6=(g,.row [.int .u64 w])):=by
 have hL:(iR l).length=l.length:=by simp
 refine RawC.walk (H:=hint15 Try.prog) ir15 Try.func15 rfl rfl rfl ?_
 unfold ir15
 repeat' (first
  | with_reducible (first | refine Rd.p ?_ | refine w_alt ?_ ?_ | refine zE ?_ | refine zE0 ?_)
  | with_reducible (first | refine zI fun y hy=>?_ | refine zL ?_ | refine zS ?_ | refine zA fun _=>?_ | refine zV ?_ | refine zC ?_ | refine zG ?_ | refine zU ?_ | refine zG0 ?_ | refine zU0 ?_ | refine zF ?_)
  | with_reducible (first | refine zX ?_ | refine zD fun _=>?_ | refine zD0 ?_ | refine zN ?_ | refine zF0 ?_ | refine zX0 ?_ | refine z1 ?_ | refine z2 ?_ | refine z3 ?_ | refine z4 ?_ | refine z5 ?_ | refine z6 ?_ | refine z7 ?_ | refine z8 ?_ | refine y1 ?_ | refine y2 ?_ | refine y3 ?_ | refine y4 ?_ | refine y5 ?_ | refine y6 ?_ | refine y7 ?_ | refine y8 ?_ | refine Rt.p (fun _=>?_) fun _=>?_)
  | ((with_reducible apply w_ixM);(focus exact rfl);(focus exact rfl);case' hk=>intro y hy) | ((with_reducible (first | apply w_val | apply q_ends));(focus exact rfl)))
 refine w_loopK [0,3] [] (fun x:Nat×Int=>x.1≤l.length) (fun x=>l.length-x.1) (fun x=>[(4,.int .i64 x.1)]) (fun x=>[(6,(_,.row [.int .u64 x.2]))]) (0,_) (Nat.zero_le _) ⟨rfl,trivial⟩ ⟨rfl,trivial⟩ ?_
 rintro⟨k,w⟩ hk e σ
 dsimp only at hk ⊢
 repeat' (first
  | with_reducible (first | refine Rd.p ?_ | refine w_alt ?_ ?_ | refine zE ?_ | refine zE0 ?_)
  | with_reducible (first | refine zI fun y hy=>?_ | refine zL ?_ | refine zS ?_ | refine zA fun _=>?_ | refine zV ?_ | refine zC ?_ | refine zG ?_ | refine zU ?_ | refine zG0 ?_ | refine zU0 ?_ | refine zF ?_)
  | ((with_reducible refine acall_id ?_);refine ACall.box (turn_c _ _) rfl rfl rfl ?_;rintro _ _ ⟨_,rfl,_,_⟩)
  | with_reducible (first | refine zX ?_ | refine zD fun _=>?_ | refine zD0 ?_ | refine zN ?_ | refine zF0 ?_ | refine zX0 ?_ | refine z1 ?_ | refine z2 ?_ | refine z3 ?_ | refine z4 ?_ | refine z5 ?_ | refine z6 ?_ | refine z7 ?_ | refine z8 ?_ | refine y1 ?_ | refine y2 ?_ | refine y3 ?_ | refine y4 ?_ | refine y5 ?_ | refine y6 ?_ | refine y7 ?_ | refine y8 ?_ | refine Rt.p (fun _=>?_) fun _=>?_)
  | ((with_reducible apply w_ixM);(focus exact rfl);(focus exact rfl);case' hk=>intro y hy) | ((with_reducible (first | apply w_val | apply q_ends));(focus exact rfl)))
 · simp at*
   exact q_loop (k+1,_) (by dsimp only;omega) (by dsimp only;omega) ⟨rfl,trivial⟩ ⟨rfl,trivial⟩ ⟨rfl,rfl,trivial⟩ trivial
 · exact⟨_,_,rfl,rfl⟩
def ir68:IFn:=
 ⟨2,[(0,none)],(.seq (.ops [oo 0 (.mov (.k .nsl))])
 (.seq (.ops [oo 1 (.bsl 1 [[(.str ByteArray.empty)],[(.str ByteArray.empty)],[(.str ByteArray.empty)],[(.str ByteArray.empty)],[(.str ByteArray.empty)],[(.str ByteArray.empty)]] [(0,(.k (.str ⟨#[107,121,97,114,97]⟩))),(1,(.k (.str ⟨#[114,97,107,111,107,117]⟩))),(2,(.k (.str ⟨#[109,97,110,97,98,97,110]⟩))),(3,(.k (.str ⟨#[115,111,114,97]⟩))),(4,(.k (.str ⟨#[98]⟩))),(5,(.k (.str ⟨#[97,98,99,100,101,102,103,104]⟩)))]),
 oo 0 (.mov 1)])
 .ret))⟩
def hint68 (P:Program):Hint:={}
def ir32:IFn:=
 ⟨26,[(4,none)],(.seq (.ops [oo 4 (.mov (.k .nsl))])
 (.seq (.ops [oo 5 (.nil 2 5)])
 (.seq (.seq (.ops [oo 7 (.mov 0),
 oo 8 (.mov 1),
 oo 9 (.callF 30 [7,(kI 1),8]),
 oo 6 (.mov 9)])
 (.blk 0 (.loop (.seq (.seq (.ops [oo 10 (.mov 6),
 oo 11 (.bin .gtr 10 (kI 0))])
 (.cnd 11
 .skip
 (.exit 0)))
 (.seq (.blk 1 (.ops [oo 14 (.mov 5),
 oo 16 (.mov 5),
 oo 17 (.len false 16),
 oo 20 (.mov 0),
 oo 15 (.callF 68 []),
 oo 18 (.ixA 1 15 17),
 oo 19 (.ld 1 false 18),
 oo 21 (.callF 31 [20,(kI 10)]),
 ⟨none,none,(.chk 1 false 18 19)⟩,
 oo 22 (.bld [(.str ByteArray.empty),(.int .i64 0)] [(0,1,19),(1,1,21)]),
 oo 23 (.bsl 2 [[(.str ByteArray.empty),(.int .i64 0)]] [(0,22)]),
 oo 24 (.app 2 24 14 23 5),
 oo 5 (.mov 24)]))
 (.ops [oo 12 (.mov 6),
 oo 13 (.bin .sub 12 (kI 1)),
 oo 6 (.mov 13)]))))))
 (.seq (.ops [oo 25 (.mov 5),
 oo 4 (.mov 25)])
 .ret))))⟩
def hint32 (P:Program):Hint:={site:=[(24,5)],nils:=[(5,2)],frz:=[],mve:=[],wr:=[] }
abbrev nmR (l:List ByteArray):List (List AV):=l.map fun s=>[.str s]
def woodNs:List ByteArray:=[⟨#[107,121,97,114,97]⟩,⟨#[114,97,107,111,107,117]⟩,⟨#[109,97,110,97,98,97,110]⟩,⟨#[115,111,114,97]⟩,⟨#[98]⟩,⟨#[97,98,99,100,101,102,103,104]⟩]
theorem woodNames_c:Fn0 Try.prog 68 [] (fun v=>v= .slc 1 (nmR woodNs) .non):=by
 refine RawC.walk (H:=hint68 Try.prog) ir68 Try.func68 rfl rfl rfl ?_
 unfold ir68
 repeat' (first
  | with_reducible (first | refine Rd.p ?_ | refine w_alt ?_ ?_ | refine zE ?_ | refine zE0 ?_)
  | with_reducible (first | refine zI fun y hy=>?_ | refine zL ?_ | refine zS ?_ | refine zA fun _=>?_ | refine zV ?_ | refine zC ?_ | refine zG ?_ | refine zU ?_ | refine zG0 ?_ | refine zU0 ?_ | refine zF ?_)
  | with_reducible (first | refine zX ?_ | refine zD fun _=>?_ | refine zD0 ?_ | refine zN ?_ | refine zF0 ?_ | refine zX0 ?_ | refine z1 ?_ | refine z2 ?_ | refine z3 ?_ | refine z4 ?_ | refine z5 ?_ | refine z6 ?_ | refine z7 ?_ | refine z8 ?_ | refine y1 ?_ | refine y2 ?_ | refine y3 ?_ | refine y4 ?_ | refine y5 ?_ | refine y6 ?_ | refine y7 ?_ | refine y8 ?_ | refine Rt.p (fun _=>?_) fun _=>?_)
  | ((with_reducible apply w_ixM);(focus exact rfl);(focus exact rfl);case' hk=>intro y hy) | ((with_reducible (first | apply w_val | apply q_ends));(focus exact rfl)))
 rfl
theorem woodNs_ok:woodNs.Nodup∧ ∀s∈woodNs,namedB s=true∧s.size≤8:=by decide
theorem wsErr_zero:∀{post pre:List Wd},(∀w∈post,namedB w.name=true∧inB w.fam 0 9=true)→((pre++post).map (·.name)).Nodup→wsErr pre post=0
 | [],_,_,_=>rfl
 | w::post,pre,h,hn=>by
   have h1:pre.any (fun x=>decide (x.name=w.name))=false:=by
    rw[List.any_eq_false]
    intro x hx
    simp only[decide_eq_true_eq]
    intro he
    rw[List.map_append,List.nodup_append] at hn
    exact hn.2.2 _ (List.mem_map.2 ⟨x,hx,rfl⟩) _ (List.mem_map.2 ⟨w,by simp,rfl⟩) he
   obtain⟨h2,h3⟩:=h w (by simp)
   rw[wsErr,if_pos h2,if_neg (by rw[h1];simp),if_pos h3]
   exact wsErr_zero (fun x hx=>h x (by simp[hx])) (by simpa using hn)
def madeW (ws:List Wd):Prop:=ws.map (·.name)=woodNs.take ws.length∧ ∀w∈ws,inB w.fam 0 9=true
theorem madeW_ok {ws:List Wd} (h:madeW ws):wsErr [] ws=0∧ ∀w∈ws,w.name.size≤8:=by
 have hm:∀w∈ws,w.name∈woodNs:=fun w hw=>List.mem_of_mem_take (h.1▸List.mem_map.2 ⟨w,hw,rfl⟩)
 refine⟨wsErr_zero (fun w hw=>⟨(woodNs_ok.2 _ (hm w hw)).1,h.2 w hw⟩) ?_,fun w hw=>(woodNs_ok.2 _ (hm w hw)).2⟩
 rw[List.nil_append,h.1]
 exact (List.take_sublist _ _).nodup woodNs_ok.1
theorem madeW_snoc {ws:List Wd} {w:Wd} (h:madeW ws) (hn:woodNs[ws.length]?=some w.name) (hf:inB w.fam 0 9=true):madeW (ws++[w]):=by
 refine⟨?_,fun x hx=>?_⟩
 · rw[List.map_append,h.1,len_snoc,List.take_add_one,hn];rfl
 · rcases List.mem_append.1 hx with hx | hx
   · exact h.2 x hx
   · simp at hx;subst hx;exact hf
theorem woodsOf_c (g:Nat) (w most:Int) (hm:1≤most∧most≤6):RawC Try.prog 32 [.ref 1000 g 0,.int .i64 most] (BoxS g w) (BoxR g fun av=>∃ws,av= .slc 2 (wR ws) .non∧madeW ws∧1≤ws.length∧(ws.length:Int)≤most):=by
 refine RawC.walk (H:=hint32 Try.prog) ir32 Try.func32 rfl rfl rfl ?_
 unfold ir32
 repeat' (first
  | with_reducible (first | refine Rd.p ?_ | refine w_alt ?_ ?_ | refine zE ?_ | refine zE0 ?_)
  | with_reducible (first | refine zI fun y hy=>?_ | refine zL ?_ | refine zS ?_ | refine zA fun _=>?_ | refine zV ?_ | refine zC ?_ | refine zG ?_ | refine zU ?_ | refine zG0 ?_ | refine zU0 ?_ | refine zF ?_)
  | ((with_reducible refine acall_id ?_);refine ACall.box (any_c _ _ _ _ (by omega) (by omega) (by omega) (by omega)) rfl rfl rfl ?_;rintro _ _ ⟨k,rfl,hk1,hk2⟩)
  | with_reducible (first | refine zX ?_ | refine zD fun _=>?_ | refine zD0 ?_ | refine zN ?_ | refine zF0 ?_ | refine zX0 ?_ | refine z1 ?_ | refine z2 ?_ | refine z3 ?_ | refine z4 ?_ | refine z5 ?_ | refine z6 ?_ | refine z7 ?_ | refine z8 ?_ | refine y1 ?_ | refine y2 ?_ | refine y3 ?_ | refine y4 ?_ | refine y5 ?_ | refine y6 ?_ | refine y7 ?_ | refine y8 ?_ | refine Rt.p (fun _=>?_) fun _=>?_)
  | ((with_reducible apply w_ixM);(focus exact rfl);(focus exact rfl);case' hk=>intro y hy) | ((with_reducible (first | apply w_val | apply q_ends));(focus exact rfl)))
 rename_i g0 w0
 refine w_loopK [0] [] (fun x:List Wd×Nat×Int×Nat=>madeW x.1∧(x.1.length:Int)+x.2.2.2=k) (fun x=>x.2.2.2) (fun x=>[(6,.int .i64 (x.2.2.2:Int)),(5,.slc 2 (wR x.1) (.own 5 x.2.1))])
  (fun x=>[(5,(x.2.1,.row [])),(1000,(g,.row [.int .u64 x.2.2.1]))]) ([],g0,w0,k.toNat) ⟨⟨rfl,by simp⟩,by show ((0:Nat):Int)+(k.toNat:Nat)=k;omega⟩ ⟨int_eq (by show k=((k.toNat:Nat):Int);omega),rfl,trivial⟩ ⟨rfl,rfl,trivial⟩ ?_
 rintro⟨ws,g5,w,j⟩ ⟨hg,hl⟩ e σ
 dsimp only at hg hl ⊢
 have hnl:woodNs.length=6:=rfl
 cases j with
 | zero=>
   repeat' (first
    | with_reducible (first | refine Rd.p ?_ | refine w_alt ?_ ?_ | refine zE ?_ | refine zE0 ?_)
    | with_reducible (first | refine zI fun y hy=>?_ | refine zL ?_ | refine zS ?_ | refine zA fun _=>?_ | refine zV ?_ | refine zC ?_ | refine zG ?_ | refine zU ?_ | refine zG0 ?_ | refine zU0 ?_ | refine zF ?_)
    | with_reducible (first | refine zX ?_ | refine zD fun _=>?_ | refine zD0 ?_ | refine zN ?_ | refine zF0 ?_ | refine zX0 ?_ | refine z1 ?_ | refine z2 ?_ | refine z3 ?_ | refine z4 ?_ | refine z5 ?_ | refine z6 ?_ | refine z7 ?_ | refine z8 ?_ | refine y1 ?_ | refine y2 ?_ | refine y3 ?_ | refine y4 ?_ | refine y5 ?_ | refine y6 ?_ | refine y7 ?_ | refine y8 ?_ | refine Rt.p (fun _=>?_) fun _=>?_)
    | ((with_reducible apply w_ixM);(focus exact rfl);(focus exact rfl);case' hk=>intro y hy) | ((with_reducible (first | apply w_val | apply q_ends));(focus exact rfl)))
   all_goals first
    | (exfalso;omega)
    | exact⟨_,⟨ws,rfl,hg,by omega,by omega⟩,rfl⟩
 | succ j=>
   repeat' (first
    | with_reducible (first | refine Rd.p ?_ | refine w_alt ?_ ?_ | refine zE ?_ | refine zE0 ?_)
    | with_reducible (first | refine zI fun y hy=>?_ | refine zL ?_ | refine zS ?_ | refine zA fun _=>?_ | refine zV ?_ | refine zC ?_ | refine zG ?_ | refine zU ?_ | refine zG0 ?_ | refine zU0 ?_ | refine zF ?_)
    | ((with_reducible refine acall_id ?_);refine ACall.val woodNames_c rfl rfl ?_)
    | ((with_reducible refine acall_id ?_);refine ACall.box (upp_c _ _ _ (by omega) (by omega)) rfl rfl rfl ?_;rintro _ _ ⟨a,rfl,ha1,ha2⟩)
    | with_reducible (first | refine zX ?_ | refine zD fun _=>?_ | refine zD0 ?_ | refine zN ?_ | refine zF0 ?_ | refine zX0 ?_ | refine z1 ?_ | refine z2 ?_ | refine z3 ?_ | refine z4 ?_ | refine z5 ?_ | refine z6 ?_ | refine z7 ?_ | refine z8 ?_ | refine y1 ?_ | refine y2 ?_ | refine y3 ?_ | refine y4 ?_ | refine y5 ?_ | refine y6 ?_ | refine y7 ?_ | refine y8 ?_ | refine Rt.p (fun _=>?_) fun _=>?_)
    | ((with_reducible apply w_ixM);(focus exact rfl);(focus exact rfl);case' hk=>intro y hy) | ((with_reducible (first | apply w_val | apply q_ends));(focus exact rfl)))
   all_goals try (exfalso;omega)
   rename_i w2 g6
   refine q_loop (ws++[⟨y,a⟩],g6,w2,j) ?_ ?_ ⟨int_eq (by simp),congrArg (fun z=>AV.slc 2 z (.own 5 g6)) (map_snoc (f:=fun w:Wd=>[AV.str w.name,AV.int .i64 w.fam]) (x:=⟨y,a⟩)).symm,trivial⟩ ⟨rfl,rfl,trivial⟩ (by repeat' (first | exact kept_nil | apply kept_cons | rfl)) (by repeat' (first | exact kept_nil | apply kept_cons | rfl))
   · exact⟨madeW_snoc hg (by simpa using hy) (inB_t.2 (by dsimp only;omega)),by dsimp only;rw[len_snoc];omega⟩
   · exact Nat.lt_succ_self j
def ir69:IFn:=
 ⟨33,[(4,none)],(.seq (.ops [oo 2 (.box 2 0),
 oo 3 (.box 2 1),
 oo 4 (.mov (kI 0))])
 (.seq (.blk 0 (.seq (.ops [oo 6 (.flA 0 3),
 oo 7 (.ld 1 false 6),
 oo 8 (.callF 50 [7,(kI 1),(kI 6)]),
 oo 9 (.not 8),
 oo 5 (.mov 9)])
 (.cnd 5
 (.seq (.ops [oo 4 (.mov (kI 4))])
 .ret)
 (.seq (.ops [oo 11 (.flA 0 3),
 oo 12 (.ld 1 false 11),
 oo 13 (.bin .neq 12 (kI 4)),
 oo 14 (.mov 13),
 ⟨(some 15),(some (14,true)),(.flA 1 3)⟩,
 ⟨(some 16),(some (14,true)),(.ld 1 false 15)⟩,
 ⟨(some 17),(some (14,true)),(.bin .neq 16 (kI 0))⟩,
 oo 18 (.pick 14 17 (kB false)),
 oo 10 (.mov 18)])
 (.cnd 10
 (.seq (.ops [oo 4 (.mov (kI 3))])
 .ret)
 (.seq (.ops [oo 20 (.flA 0 3),
 oo 21 (.ld 1 false 20),
 oo 22 (.bin .eql 21 (kI 4)),
 oo 23 (.mov 22),
 ⟨(some 24),(some (23,true)),(.flA 1 3)⟩,
 ⟨(some 25),(some (23,true)),(.ld 1 false 24)⟩,
 ⟨(some 26),(some (23,true)),(.flA 0 2)⟩,
 ⟨(some 27),(some (23,true)),(.ld 1 false 26)⟩,
 ⟨(some 28),(some (23,true)),(.len false 27)⟩,
 ⟨(some 29),(some (23,true)),(.bin .sub 28 (kI 1))⟩,
 ⟨(some 30),(some (23,true)),(.callF 50 [25,(kI 0),29])⟩,
 ⟨(some 31),(some (23,true)),(.not 30)⟩,
 oo 32 (.pick 23 31 (kB false)),
 oo 19 (.mov 32)])
 (.cnd 19
 (.seq (.ops [oo 4 (.mov (kI 7))])
 .ret)
 .skip)))))))
 (.seq (.ops [oo 4 (.mov (kI 0))])
 .ret)))⟩
def hint69 (P:Program):Hint:={}
structure Aq where
 kind:Int
 wood:Int
 deriving DecidableEq
abbrev aqA (a:Aq):AV:= .agg [.int .i64 a.kind,.int .i64 a.wood]
def askErr (n:Nat) (a:Aq):Int:=if inB a.kind 1 6=true then (if a.kind=4 then (if inB a.wood 0 (n-1)=true then 0 else 7) else if a.wood=0 then 0 else 3) else 4
theorem checkAsk_c (G:Gm) (a:Aq) (hn:G.ws.length<1000):Fn0 Try.prog 69 [gmA G,aqA a] (fun v=>v= .int .i64 (askErr G.ws.length a)):=by
 obtain⟨B,hB⟩:∃B,askErr G.ws.length a=B:=⟨_,rfl⟩
 rw[hB]
 unfold askErr at hB
 have h1:=gin_c a.kind 1 6
 have h2:=gin_c a.wood 0 (G.ws.length-1)
 cases e1:inB a.kind 1 6 with
 | false=>
   rw[e1] at hB h1
   rw[if_neg Bool.false_ne_true] at hB
   subst hB
   refine RawC.walk (H:=hint69 Try.prog) ir69 Try.func69 rfl rfl rfl ?_
   unfold ir69
   repeat' (first
    | with_reducible (first | refine Rd.p ?_ | refine w_alt ?_ ?_ | refine zE ?_ | refine zE0 ?_)
    | with_reducible (first | refine zI fun y hy=>?_ | refine zL ?_ | refine zS ?_ | refine zA fun _=>?_ | refine zV ?_ | refine zC ?_ | refine zG ?_ | refine zU ?_ | refine zG0 ?_ | refine zU0 ?_ | refine zF ?_)
    | ((with_reducible refine acall_id ?_);refine ACall.val h1 rfl rfl ?_)
    | with_reducible (first | refine zX ?_ | refine zD fun _=>?_ | refine zD0 ?_ | refine zN ?_ | refine zF0 ?_ | refine zX0 ?_ | refine z1 ?_ | refine z2 ?_ | refine z3 ?_ | refine z4 ?_ | refine z5 ?_ | refine z6 ?_ | refine z7 ?_ | refine z8 ?_ | refine y1 ?_ | refine y2 ?_ | refine y3 ?_ | refine y4 ?_ | refine y5 ?_ | refine y6 ?_ | refine y7 ?_ | refine y8 ?_ | refine Rt.p (fun _=>?_) fun _=>?_)
    | ((with_reducible apply w_ixM);(focus exact rfl);(focus exact rfl);case' hk=>intro y hy) | ((with_reducible (first | apply w_val | apply q_ends));(focus exact rfl)))
   all_goals first
    | (exfalso;omega)
    | rfl
 | true=>
   rw[e1] at hB h1
   rw[if_pos rfl] at hB
   by_cases e4:a.kind=4
   · rw[if_pos e4] at hB
     cases e2:inB a.wood 0 (G.ws.length-1) with
     | true=>
       rw[e2] at hB h2
       rw[if_pos rfl] at hB
       subst hB
       refine RawC.walk (H:=hint69 Try.prog) ir69 Try.func69 rfl rfl rfl ?_
       unfold ir69
       repeat' (first
        | with_reducible (first | refine Rd.p ?_ | refine w_alt ?_ ?_ | refine zE ?_ | refine zE0 ?_)
        | with_reducible (first | refine zI fun y hy=>?_ | refine zL ?_ | refine zS ?_ | refine zA fun _=>?_ | refine zV ?_ | refine zC ?_ | refine zG ?_ | refine zU ?_ | refine zG0 ?_ | refine zU0 ?_ | refine zF ?_)
        | ((with_reducible refine acall_id ?_);refine ACall.val h1 rfl rfl ?_)
        | ((with_reducible refine acall_id ?_);refine ACall.val h2 rfl rfl ?_)
        | with_reducible (first | refine zX ?_ | refine zD fun _=>?_ | refine zD0 ?_ | refine zN ?_ | refine zF0 ?_ | refine zX0 ?_ | refine z1 ?_ | refine z2 ?_ | refine z3 ?_ | refine z4 ?_ | refine z5 ?_ | refine z6 ?_ | refine z7 ?_ | refine z8 ?_ | refine y1 ?_ | refine y2 ?_ | refine y3 ?_ | refine y4 ?_ | refine y5 ?_ | refine y6 ?_ | refine y7 ?_ | refine y8 ?_ | refine Rt.p (fun _=>?_) fun _=>?_)
        | ((with_reducible apply w_ixM);(focus exact rfl);(focus exact rfl);case' hk=>intro y hy) | ((with_reducible (first | apply w_val | apply q_ends));(focus exact rfl)))
       all_goals first
        | (exfalso;omega)
        | rfl
     | false=>
       rw[e2] at hB h2
       rw[if_neg Bool.false_ne_true] at hB
       subst hB
       refine RawC.walk (H:=hint69 Try.prog) ir69 Try.func69 rfl rfl rfl ?_
       unfold ir69
       repeat' (first
        | with_reducible (first | refine Rd.p ?_ | refine w_alt ?_ ?_ | refine zE ?_ | refine zE0 ?_)
        | with_reducible (first | refine zI fun y hy=>?_ | refine zL ?_ | refine zS ?_ | refine zA fun _=>?_ | refine zV ?_ | refine zC ?_ | refine zG ?_ | refine zU ?_ | refine zG0 ?_ | refine zU0 ?_ | refine zF ?_)
        | ((with_reducible refine acall_id ?_);refine ACall.val h1 rfl rfl ?_)
        | ((with_reducible refine acall_id ?_);refine ACall.val h2 rfl rfl ?_)
        | with_reducible (first | refine zX ?_ | refine zD fun _=>?_ | refine zD0 ?_ | refine zN ?_ | refine zF0 ?_ | refine zX0 ?_ | refine z1 ?_ | refine z2 ?_ | refine z3 ?_ | refine z4 ?_ | refine z5 ?_ | refine z6 ?_ | refine z7 ?_ | refine z8 ?_ | refine y1 ?_ | refine y2 ?_ | refine y3 ?_ | refine y4 ?_ | refine y5 ?_ | refine y6 ?_ | refine y7 ?_ | refine y8 ?_ | refine Rt.p (fun _=>?_) fun _=>?_)
        | ((with_reducible apply w_ixM);(focus exact rfl);(focus exact rfl);case' hk=>intro y hy) | ((with_reducible (first | apply w_val | apply q_ends));(focus exact rfl)))
       all_goals first
        | (exfalso;omega)
        | rfl
   · rw[if_neg e4] at hB
     by_cases e0:a.wood=0
     · rw[if_pos e0] at hB
       subst hB
       refine RawC.walk (H:=hint69 Try.prog) ir69 Try.func69 rfl rfl rfl ?_
       unfold ir69
       repeat' (first
        | with_reducible (first | refine Rd.p ?_ | refine w_alt ?_ ?_ | refine zE ?_ | refine zE0 ?_)
        | with_reducible (first | refine zI fun y hy=>?_ | refine zL ?_ | refine zS ?_ | refine zA fun _=>?_ | refine zV ?_ | refine zC ?_ | refine zG ?_ | refine zU ?_ | refine zG0 ?_ | refine zU0 ?_ | refine zF ?_)
        | ((with_reducible refine acall_id ?_);refine ACall.val h1 rfl rfl ?_)
        | ((with_reducible refine acall_id ?_);refine ACall.val h2 rfl rfl ?_)
        | with_reducible (first | refine zX ?_ | refine zD fun _=>?_ | refine zD0 ?_ | refine zN ?_ | refine zF0 ?_ | refine zX0 ?_ | refine z1 ?_ | refine z2 ?_ | refine z3 ?_ | refine z4 ?_ | refine z5 ?_ | refine z6 ?_ | refine z7 ?_ | refine z8 ?_ | refine y1 ?_ | refine y2 ?_ | refine y3 ?_ | refine y4 ?_ | refine y5 ?_ | refine y6 ?_ | refine y7 ?_ | refine y8 ?_ | refine Rt.p (fun _=>?_) fun _=>?_)
        | ((with_reducible apply w_ixM);(focus exact rfl);(focus exact rfl);case' hk=>intro y hy) | ((with_reducible (first | apply w_val | apply q_ends));(focus exact rfl)))
       all_goals first
        | (exfalso;omega)
        | rfl
     · rw[if_neg e0] at hB
       subst hB
       refine RawC.walk (H:=hint69 Try.prog) ir69 Try.func69 rfl rfl rfl ?_
       unfold ir69
       repeat' (first
        | with_reducible (first | refine Rd.p ?_ | refine w_alt ?_ ?_ | refine zE ?_ | refine zE0 ?_)
        | with_reducible (first | refine zI fun y hy=>?_ | refine zL ?_ | refine zS ?_ | refine zA fun _=>?_ | refine zV ?_ | refine zC ?_ | refine zG ?_ | refine zU ?_ | refine zG0 ?_ | refine zU0 ?_ | refine zF ?_)
        | ((with_reducible refine acall_id ?_);refine ACall.val h1 rfl rfl ?_)
        | ((with_reducible refine acall_id ?_);refine ACall.val h2 rfl rfl ?_)
        | with_reducible (first | refine zX ?_ | refine zD fun _=>?_ | refine zD0 ?_ | refine zN ?_ | refine zF0 ?_ | refine zX0 ?_ | refine z1 ?_ | refine z2 ?_ | refine z3 ?_ | refine z4 ?_ | refine z5 ?_ | refine z6 ?_ | refine z7 ?_ | refine z8 ?_ | refine y1 ?_ | refine y2 ?_ | refine y3 ?_ | refine y4 ?_ | refine y5 ?_ | refine y6 ?_ | refine y7 ?_ | refine y8 ?_ | refine Rt.p (fun _=>?_) fun _=>?_)
        | ((with_reducible apply w_ixM);(focus exact rfl);(focus exact rfl);case' hk=>intro y hy) | ((with_reducible (first | apply w_val | apply q_ends));(focus exact rfl)))
       all_goals first
        | (exfalso;omega)
        | rfl
def ir116:IFn:=
 ⟨19,[(4,none)],(.seq (.ops [oo 4 (.mov (kI 0))])
 (.seq (.seq (.ops [oo 6 (.mov 0),
 oo 7 (.len false 6),
 oo 8 (.mov (kI 0))])
 (.blk 0 (.loop (.seq (.ops [oo 9 (.bin .lss 8 7)])
 (.seq (.cnd 9
 .skip
 (.exit 0))
 (.seq (.blk 1 (.seq (.ops [oo 10 (.mov 8),
 oo 5 (.mov 10)])
 (.seq (.ops [oo 11 (.mov 1),
 oo 12 (.mov 0),
 oo 13 (.mov 5),
 oo 14 (.ixA 5 12 13),
 oo 15 (.ld 5 true 14),
 oo 16 (.callV 11 [15])])
 (.cnd 16
 (.seq (.ops [oo 17 (.mov 5),
 oo 4 (.mov 17)])
 .ret)
 .skip))))
 (.ops [oo 18 (.bin .add 8 (kI 1)),
 oo 8 (.mov 18)])))))))
 (.seq (.ops [oo 4 (.mov (.k (.int .i64 (-1))))])
 .ret)))⟩
def hint116 (P:Program):Hint:={}
def ir99:IFn:=
 ⟨9,[(4,none)],(.seq (.ops [oo 4 (.mov (kB false))])
 (.seq (.ops [oo 5 (.mov 0),
 oo 6 (.mov 1),
 oo 7 (.callF 116 [5,6]),
 oo 8 (.bin .geq 7 (kI 0)),
 oo 4 (.mov 8)])
 .ret))⟩
def hint99 (P:Program):Hint:={}
def ir97:IFn:=
 ⟨24,[(4,none)],(.seq (.ops [oo 4 (.mov (.k .nsl))])
 (.seq (.ops [oo 5 (.nil 1 5)])
 (.seq (.seq (.ops [oo 8 (.mov 0),
 oo 9 (.len false 8),
 oo 10 (.mov (kI 0))])
 (.blk 0 (.loop (.seq (.ops [oo 11 (.bin .lss 10 9)])
 (.seq (.cnd 11
 .skip
 (.exit 0))
 (.seq (.blk 1 (.seq (.ops [oo 12 (.mov 10),
 oo 13 (.ixA 1 8 10),
 oo 14 (.ld 1 false 13),
 oo 6 (.mov 12),
 oo 7 (.mov 14)])
 (.seq (.ops [oo 15 (.mov 1),
 oo 16 (.mov 7),
 oo 17 (.callV 15 [16])])
 (.cnd 17
 (.ops [oo 18 (.mov 5),
 oo 19 (.mov 6),
 oo 20 (.bsl 1 [[(.int .i64 0)]] [(0,19)]),
 oo 21 (.app 1 8 18 20 5),
 oo 5 (.mov 21)])
 .skip))))
 (.ops [oo 22 (.bin .add 10 (kI 1)),
 oo 10 (.mov 22)])))))))
 (.seq (.ops [oo 23 (.mov 5),
 oo 4 (.mov 23)])
 .ret))))⟩
def hint97 (P:Program):Hint:={site:=[(21,5)],nils:=[(5,1)],frz:=[],mve:=[],wr:=[] }
def ir98:IFn:=
 ⟨9,[(3,none)],(.seq (.ops [oo 2 (.box 1 0),
 oo 3 (.mov (kB false))])
 (.seq (.seq (.frz 2)
 (.ops [oo 4 (.flA 1 1),
 oo 5 (.ld 1 false 4),
 oo 6 (.mkf (.func 100) [] [2]),
 oo 7 (.callF 99 [5,6]),
 oo 8 (.not 7),
 oo 3 (.mov 8)]))
 .ret))⟩
def hint98 (P:Program):Hint:={site:=[],nils:=[],frz:=[(6,2)],mve:=[],wr:=[] }
def ir101:IFn:=
 ⟨8,[(3,none)],(.seq (.ops [oo 3 (.mov (kB false))])
 (.seq (.ops [oo 4 (.mov 0),
 oo 5 (.flA 1 1),
 oo 6 (.ld 1 false 5),
 oo 7 (.bin .eql 4 6),
 oo 3 (.mov 7)])
 .ret))⟩
def hint101 (P:Program):Hint:={}
def ir100:IFn:=
 ⟨13,[(3,none)],(.seq (.ops [oo 2 (.box 5 0),
 oo 3 (.mov (kB false))])
 (.seq (.ops [oo 4 (.flA 0 2),
 oo 5 (.ld 1 false 4),
 oo 6 (.bin .eql 5 (kI 1)),
 oo 7 (.mov 6),
 ⟨(some 8),(some (7,true)),(.flA 3 2)⟩,
 ⟨(some 9),(some (7,true)),(.ld 1 false 8)⟩,
 ⟨(some 10),(some (7,true)),(.ld 1 false 1)⟩,
 ⟨(some 11),(some (7,true)),(.bin .eql 9 10)⟩,
 oo 12 (.pick 7 11 (kB false)),
 oo 3 (.mov 12)])
 .ret))⟩
def hint100 (P:Program):Hint:={}
def whF (p:Int→Bool):Nat→List Int→List Int
 | _,[]=>[]
 | s,x::r=>if p x=true then (s:Int)::whF p (s+1) r else whF p (s+1) r
theorem whF_len (p:Int→Bool):∀(s:Nat) (l:List Int),(whF p s l).length≤l.length
 | _,[]=>Nat.le_refl _
 | s,x::r=>by
   have:=whF_len p (s+1) r
   rw[whF]
   split
   · simp only[List.length_cons];omega
   · simp only[List.length_cons];omega
theorem where_c (k:Nat) (cs:List AV) (p:Int→Bool) (l:List Int) (hl:l.length<1000000) (hf:∀x∈l,Fn0 Try.prog k [.int .i64 x,.pin cs] (fun v=>v= .bool (p x))):Fn0 Try.prog 97 [.slc 1 (iR l) .non,.clo (.func k) [] [.pin cs]] (fun v=>v= .slc 1 (iR (whF p 0 l)) .non):=by
 refine RawC.walk (H:=hint97 Try.prog) ir97 Try.func97 rfl rfl rfl ?_
 unfold ir97
 repeat' (first
  | with_reducible (first | refine Rd.p ?_ | refine w_alt ?_ ?_ | refine zE ?_ | refine zE0 ?_)
  | with_reducible (first | refine zI fun y hy=>?_ | refine zL ?_ | refine zS ?_ | refine zA fun _=>?_ | refine zV ?_ | refine zC ?_ | refine zG ?_ | refine zU ?_ | refine zG0 ?_ | refine zU0 ?_ | refine zF ?_)
  | with_reducible (first | refine zX ?_ | refine zD fun _=>?_ | refine zD0 ?_ | refine zN ?_ | refine zF0 ?_ | refine zX0 ?_ | refine z1 ?_ | refine z2 ?_ | refine z3 ?_ | refine z4 ?_ | refine z5 ?_ | refine z6 ?_ | refine z7 ?_ | refine z8 ?_ | refine y1 ?_ | refine y2 ?_ | refine y3 ?_ | refine y4 ?_ | refine y5 ?_ | refine y6 ?_ | refine y7 ?_ | refine y8 ?_ | refine Rt.p (fun _=>?_) fun _=>?_)
  | ((with_reducible apply w_ixM);(focus exact rfl);(focus exact rfl);case' hk=>intro y hy) | ((with_reducible (first | apply w_val | apply q_ends));(focus exact rfl)))
 rename_i g5
 refine w_loopK [1,8,9] [] (fun x:List Int×List Int×List Int×Nat=>l=x.1++x.2.1∧x.2.2.1++whF p x.1.length x.2.1=whF p 0 l∧x.2.2.1.length≤x.1.length) (fun x=>x.2.1.length) (fun x=>[(10,.int .i64 x.1.length),(5,.slc 1 (iR x.2.2.1) (.own 5 x.2.2.2))]) (fun x=>[(5,(x.2.2.2,.row []))]) ([],l,[],g5) ⟨rfl,rfl,Nat.le_refl _⟩ ⟨rfl,rfl,trivial⟩ ⟨rfl,trivial⟩ ?_
 rintro⟨pre,post,out,g⟩ ⟨hll,hb,ho⟩ e σ
 dsimp only at hll hb ho ⊢
 have hlen:=congrArg List.length hll
 have hol:(iR out).length=out.length:=List.length_map _
 cases post with
 | nil=>
   simp only[List.append_nil,List.length_append,List.length_nil] at hlen
   rw[show whF p pre.length []=[] from rfl,List.append_nil] at hb
   rw[←hb]
   repeat' (first
    | with_reducible (first | refine Rd.p ?_ | refine w_alt ?_ ?_ | refine zE ?_ | refine zE0 ?_)
    | with_reducible (first | refine zI fun y hy=>?_ | refine zL ?_ | refine zS ?_ | refine zA fun _=>?_ | refine zV ?_ | refine zC ?_ | refine zG ?_ | refine zU ?_ | refine zG0 ?_ | refine zU0 ?_ | refine zF ?_)
    | with_reducible (first | refine zX ?_ | refine zD fun _=>?_ | refine zD0 ?_ | refine zN ?_ | refine zF0 ?_ | refine zX0 ?_ | refine z1 ?_ | refine z2 ?_ | refine z3 ?_ | refine z4 ?_ | refine z5 ?_ | refine z6 ?_ | refine z7 ?_ | refine z8 ?_ | refine y1 ?_ | refine y2 ?_ | refine y3 ?_ | refine y4 ?_ | refine y5 ?_ | refine y6 ?_ | refine y7 ?_ | refine y8 ?_ | refine Rt.p (fun _=>?_) fun _=>?_)
    | ((with_reducible apply w_ixM);(focus exact rfl);(focus exact rfl);case' hk=>intro y hy) | ((with_reducible (first | apply w_val | apply q_ends));(focus exact rfl)))
   all_goals first
    | (exfalso;omega)
    | rfl
 | cons c post=>
   simp only[List.length_append,List.length_cons] at hlen
   have hfc:=hf c (by rw[hll];simp)
   rw[whF] at hb
   have hpl:(pre++[c]).length=pre.length+1:=len_snoc
   cases hpc:p c with
   | false=>
     rw[hpc] at hfc
     rw[if_neg (by rw[hpc];exact Bool.false_ne_true)] at hb
     repeat' (first
      | with_reducible (first | refine Rd.p ?_ | refine w_alt ?_ ?_ | refine zE ?_ | refine zE0 ?_)
      | (refine w_ixP hll rfl rfl ?_)
      | with_reducible (first | refine zI fun y hy=>?_ | refine zL ?_ | refine zS ?_ | refine zA fun _=>?_ | refine zV ?_ | refine zC ?_ | refine zG ?_ | refine zU ?_ | refine zG0 ?_ | refine zU0 ?_ | refine zF ?_)
      | ((with_reducible refine acall_id ?_);refine ACall.val hfc rfl rfl ?_)
      | with_reducible (first | refine zX ?_ | refine zD fun _=>?_ | refine zD0 ?_ | refine zN ?_ | refine zF0 ?_ | refine zX0 ?_ | refine z1 ?_ | refine z2 ?_ | refine z3 ?_ | refine z4 ?_ | refine z5 ?_ | refine z6 ?_ | refine z7 ?_ | refine z8 ?_ | refine y1 ?_ | refine y2 ?_ | refine y3 ?_ | refine y4 ?_ | refine y5 ?_ | refine y6 ?_ | refine y7 ?_ | refine y8 ?_ | refine Rt.p (fun _=>?_) fun _=>?_)
      | ((with_reducible apply w_ixM);(focus exact rfl);(focus exact rfl);case' hk=>intro y hy) | ((with_reducible (first | apply w_val | apply q_ends));(focus exact rfl)))
     all_goals first
      | (exfalso;omega)
      | exact q_loop (pre++[c],post,out,g) ⟨by dsimp only;rw[hll];simp,by dsimp only;rw[hpl];exact hb,by dsimp only;omega⟩ (Nat.lt_succ_self _) ⟨by rw[len_snoc];rfl,rfl,trivial⟩ (by repeat' (first | exact slots_nil | apply slots_cons | rfl | (rw[map_snoc];rfl) | (rw[len_snoc];rfl) | (rw[hS];rfl) | (rw[hS,map_snoc];rfl) | (refine int_eq ?_;(try dsimp only);omega) | (refine congrArg AV.bool ?_;simp_all;done))) (by repeat' (first | exact kept_nil | apply kept_cons | rfl)) (by repeat' (first | exact kept_nil | apply kept_cons | rfl))
   | true=>
     rw[hpc] at hfc
     rw[if_pos hpc] at hb
     repeat' (first
      | with_reducible (first | refine Rd.p ?_ | refine w_alt ?_ ?_ | refine zE ?_ | refine zE0 ?_)
      | (refine w_ixP hll rfl rfl ?_)
      | with_reducible (first | refine zI fun y hy=>?_ | refine zL ?_ | refine zS ?_ | refine zA fun _=>?_ | refine zV ?_ | refine zC ?_ | refine zG ?_ | refine zU ?_ | refine zG0 ?_ | refine zU0 ?_ | refine zF ?_)
      | ((with_reducible refine acall_id ?_);refine ACall.val hfc rfl rfl ?_)
      | with_reducible (first | refine zX ?_ | refine zD fun _=>?_ | refine zD0 ?_ | refine zN ?_ | refine zF0 ?_ | refine zX0 ?_ | refine z1 ?_ | refine z2 ?_ | refine z3 ?_ | refine z4 ?_ | refine z5 ?_ | refine z6 ?_ | refine z7 ?_ | refine z8 ?_ | refine y1 ?_ | refine y2 ?_ | refine y3 ?_ | refine y4 ?_ | refine y5 ?_ | refine y6 ?_ | refine y7 ?_ | refine y8 ?_ | refine Rt.p (fun _=>?_) fun _=>?_)
      | ((with_reducible apply w_ixM);(focus exact rfl);(focus exact rfl);case' hk=>intro y hy) | ((with_reducible (first | apply w_val | apply q_ends));(focus exact rfl)))
     all_goals try (exfalso;omega)
     all_goals
      rename_i g4
      exact q_loop (pre++[c],post,out++[(pre.length:Int)],g4) ⟨by dsimp only;rw[hll];simp,by dsimp only;rw[hpl,List.append_assoc];exact hb,by dsimp only;rw[len_snoc];omega⟩ (Nat.lt_succ_self _) ⟨by rw[len_snoc];rfl,rfl,trivial⟩ (by repeat' (first | exact slots_nil | apply slots_cons | rfl | (rw[map_snoc];rfl) | (rw[len_snoc];rfl) | (rw[hS];rfl) | (rw[hS,map_snoc];rfl) | (refine int_eq ?_;(try dsimp only);omega) | (refine congrArg AV.bool ?_;simp_all;done))) (by repeat' (first | exact kept_nil | apply kept_cons | rfl)) (by repeat' (first | exact kept_nil | apply kept_cons | rfl))
theorem due2_c (a:Aq) (x:Int):Fn0 Try.prog 101 [.int .i64 x,.pin [.int .i64 a.kind,.int .i64 a.wood]] (fun v=>v= .bool (decide (x=a.wood))):=by
 refine RawC.walk (H:=hint101 Try.prog) ir101 Try.func101 rfl rfl rfl ?_
 unfold ir101
 repeat' (first
  | with_reducible (first | refine Rd.p ?_ | refine w_alt ?_ ?_ | refine zE ?_ | refine zE0 ?_)
  | with_reducible (first | refine zI fun y hy=>?_ | refine zL ?_ | refine zS ?_ | refine zA fun _=>?_ | refine zV ?_ | refine zC ?_ | refine zG ?_ | refine zU ?_ | refine zG0 ?_ | refine zU0 ?_ | refine zF ?_)
  | with_reducible (first | refine zX ?_ | refine zD fun _=>?_ | refine zD0 ?_ | refine zN ?_ | refine zF0 ?_ | refine zX0 ?_ | refine z1 ?_ | refine z2 ?_ | refine z3 ?_ | refine z4 ?_ | refine z5 ?_ | refine z6 ?_ | refine z7 ?_ | refine z8 ?_ | refine y1 ?_ | refine y2 ?_ | refine y3 ?_ | refine y4 ?_ | refine y5 ?_ | refine y6 ?_ | refine y7 ?_ | refine y8 ?_ | refine Rt.p (fun _=>?_) fun _=>?_)
  | ((with_reducible apply w_ixM);(focus exact rfl);(focus exact rfl);case' hk=>intro y hy) | ((with_reducible (first | apply w_val | apply q_ends));(focus exact rfl)))
 all_goals rfl
def triedB (ds:List Dl) (x:Int):Bool:=ds.any fun d=>decide (d.kind=1) && decide (d.wood=x)
theorem due11_c (d:Dl) (g:Nat) (x:Int):RawC Try.prog 100 [dlA d,.pin [.int .i64 x]] (sg []) (fun v _=>v= .bool (decide (d.kind=1) && decide (d.wood=x))):=by
 by_cases h:d.kind=1
 · rw[decide_eq_true h]
   refine RawC.walk (H:=hint100 Try.prog) ir100 Try.func100 rfl rfl rfl ?_
   unfold ir100
   repeat' (first
    | with_reducible (first | refine Rd.p ?_ | refine w_alt ?_ ?_ | refine zE ?_ | refine zE0 ?_)
    | with_reducible (first | refine zI fun y hy=>?_ | refine zL ?_ | refine zS ?_ | refine zA fun _=>?_ | refine zV ?_ | refine zC ?_ | refine zG ?_ | refine zU ?_ | refine zG0 ?_ | refine zU0 ?_ | refine zF ?_)
    | with_reducible (first | refine zX ?_ | refine zD fun _=>?_ | refine zD0 ?_ | refine zN ?_ | refine zF0 ?_ | refine zX0 ?_ | refine z1 ?_ | refine z2 ?_ | refine z3 ?_ | refine z4 ?_ | refine z5 ?_ | refine z6 ?_ | refine z7 ?_ | refine z8 ?_ | refine y1 ?_ | refine y2 ?_ | refine y3 ?_ | refine y4 ?_ | refine y5 ?_ | refine y6 ?_ | refine y7 ?_ | refine y8 ?_ | refine Rt.p (fun _=>?_) fun _=>?_)
    | ((with_reducible apply w_ixM);(focus exact rfl);(focus exact rfl);case' hk=>intro y hy) | ((with_reducible (first | apply w_val | apply q_ends));(focus exact rfl)))
   all_goals first
    | (exfalso;omega)
    | rfl
 · rw[decide_eq_false h]
   refine RawC.walk (H:=hint100 Try.prog) ir100 Try.func100 rfl rfl rfl ?_
   unfold ir100
   repeat' (first
    | with_reducible (first | refine Rd.p ?_ | refine w_alt ?_ ?_ | refine zE ?_ | refine zE0 ?_)
    | with_reducible (first | refine zI fun y hy=>?_ | refine zL ?_ | refine zS ?_ | refine zA fun _=>?_ | refine zV ?_ | refine zC ?_ | refine zG ?_ | refine zU ?_ | refine zG0 ?_ | refine zU0 ?_ | refine zF ?_)
    | with_reducible (first | refine zX ?_ | refine zD fun _=>?_ | refine zD0 ?_ | refine zN ?_ | refine zF0 ?_ | refine zX0 ?_ | refine z1 ?_ | refine z2 ?_ | refine z3 ?_ | refine z4 ?_ | refine z5 ?_ | refine z6 ?_ | refine z7 ?_ | refine z8 ?_ | refine y1 ?_ | refine y2 ?_ | refine y3 ?_ | refine y4 ?_ | refine y5 ?_ | refine y6 ?_ | refine y7 ?_ | refine y8 ?_ | refine Rt.p (fun _=>?_) fun _=>?_)
    | ((with_reducible apply w_ixM);(focus exact rfl);(focus exact rfl);case' hk=>intro y hy) | ((with_reducible (first | apply w_val | apply q_ends));(focus exact rfl)))
   all_goals first
    | (exfalso;omega)
    | rfl
theorem idxD_c (k:Nat) (cs:List AV) (p:Dl→Bool) (l:List Dl) (hl:l.length<1000000) (hf:∀x∈l,Fn0 Try.prog k [dlA x,.pin cs] (fun v=>v= .bool (p x))):Fn0 Try.prog 116 [.slc 5 (dlR l) .non,.clo (.func k) [] [.pin cs]] (fun v=>∃i:Int,v= .int .i64 i∧(0≤i↔l.any p=true)):=by
 refine RawC.walk (H:=hint116 Try.prog) ir116 Try.func116 rfl rfl rfl ?_
 unfold ir116
 repeat' (first
  | with_reducible (first | refine Rd.p ?_ | refine w_alt ?_ ?_ | refine zE ?_ | refine zE0 ?_)
  | with_reducible (first | refine zI fun y hy=>?_ | refine zL ?_ | refine zS ?_ | refine zA fun _=>?_ | refine zV ?_ | refine zC ?_ | refine zG ?_ | refine zU ?_ | refine zG0 ?_ | refine zU0 ?_ | refine zF ?_)
  | with_reducible (first | refine zX ?_ | refine zD fun _=>?_ | refine zD0 ?_ | refine zN ?_ | refine zF0 ?_ | refine zX0 ?_ | refine z1 ?_ | refine z2 ?_ | refine z3 ?_ | refine z4 ?_ | refine z5 ?_ | refine z6 ?_ | refine z7 ?_ | refine z8 ?_ | refine y1 ?_ | refine y2 ?_ | refine y3 ?_ | refine y4 ?_ | refine y5 ?_ | refine y6 ?_ | refine y7 ?_ | refine y8 ?_ | refine Rt.p (fun _=>?_) fun _=>?_)
  | ((with_reducible apply w_ixM);(focus exact rfl);(focus exact rfl);case' hk=>intro y hy) | ((with_reducible (first | apply w_val | apply q_ends));(focus exact rfl)))
 refine w_loopK [0,1,7] [] (fun x:List Dl×List Dl=>l=x.1++x.2∧x.1.any p=false) (fun x=>x.2.length) (fun x=>[(8,.int .i64 x.1.length)]) (fun _=>[]) ([],l) ⟨rfl,rfl⟩ ⟨rfl,trivial⟩ trivial ?_
 rintro⟨pre,post⟩ ⟨hll,hb⟩ e σ
 dsimp only at hll hb ⊢
 have hlen:=congrArg List.length hll
 cases post with
 | nil=>
   simp only[List.append_nil,List.length_append,List.length_nil] at hlen
   repeat' (first
    | with_reducible (first | refine Rd.p ?_ | refine w_alt ?_ ?_ | refine zE ?_ | refine zE0 ?_)
    | with_reducible (first | refine zI fun y hy=>?_ | refine zL ?_ | refine zS ?_ | refine zA fun _=>?_ | refine zV ?_ | refine zC ?_ | refine zG ?_ | refine zU ?_ | refine zG0 ?_ | refine zU0 ?_ | refine zF ?_)
    | with_reducible (first | refine zX ?_ | refine zD fun _=>?_ | refine zD0 ?_ | refine zN ?_ | refine zF0 ?_ | refine zX0 ?_ | refine z1 ?_ | refine z2 ?_ | refine z3 ?_ | refine z4 ?_ | refine z5 ?_ | refine z6 ?_ | refine z7 ?_ | refine z8 ?_ | refine y1 ?_ | refine y2 ?_ | refine y3 ?_ | refine y4 ?_ | refine y5 ?_ | refine y6 ?_ | refine y7 ?_ | refine y8 ?_ | refine Rt.p (fun _=>?_) fun _=>?_)
    | ((with_reducible apply w_ixM);(focus exact rfl);(focus exact rfl);case' hk=>intro y hy) | ((with_reducible (first | apply w_val | apply q_ends));(focus exact rfl)))
   all_goals first
    | (exfalso;omega)
    | exact⟨-1,rfl,by rw[hll,List.append_nil,hb];simp⟩
 | cons c post=>
   simp only[List.length_append,List.length_cons] at hlen
   have hfc:=hf c (by rw[hll];simp)
   cases hpc:p c with
   | false=>
     rw[hpc] at hfc
     repeat' (first
      | with_reducible (first | refine Rd.p ?_ | refine w_alt ?_ ?_ | refine zE ?_ | refine zE0 ?_)
      | (refine w_ixP (f:=fun d:Dl=>[AV.int .i64 d.kind,.int .i64 d.bag,.int .i64 d.other,.int .i64 d.wood,.int .i64 d.count]) hll rfl rfl ?_)
      | with_reducible (first | refine zI fun y hy=>?_ | refine zL ?_ | refine zS ?_ | refine zA fun _=>?_ | refine zV ?_ | refine zC ?_ | refine zG ?_ | refine zU ?_ | refine zG0 ?_ | refine zU0 ?_ | refine zF ?_)
      | ((with_reducible refine acall_id ?_);refine ACall.val hfc rfl rfl ?_)
      | with_reducible (first | refine zX ?_ | refine zD fun _=>?_ | refine zD0 ?_ | refine zN ?_ | refine zF0 ?_ | refine zX0 ?_ | refine z1 ?_ | refine z2 ?_ | refine z3 ?_ | refine z4 ?_ | refine z5 ?_ | refine z6 ?_ | refine z7 ?_ | refine z8 ?_ | refine y1 ?_ | refine y2 ?_ | refine y3 ?_ | refine y4 ?_ | refine y5 ?_ | refine y6 ?_ | refine y7 ?_ | refine y8 ?_ | refine Rt.p (fun _=>?_) fun _=>?_)
      | ((with_reducible apply w_ixM);(focus exact rfl);(focus exact rfl);case' hk=>intro y hy) | ((with_reducible (first | apply w_val | apply q_ends));(focus exact rfl)))
     all_goals first
      | (exfalso;omega)
      | exact q_loop (pre++[c],post) ⟨by dsimp only;rw[hll];simp,by rw[List.any_append,hb];simp[hpc]⟩ (Nat.lt_succ_self _) ⟨by rw[len_snoc];rfl,trivial⟩ (by repeat' (first | exact slots_nil | apply slots_cons | rfl | (rw[map_snoc];rfl) | (rw[len_snoc];rfl) | (rw[hS];rfl) | (rw[hS,map_snoc];rfl) | (refine int_eq ?_;(try dsimp only);omega) | (refine congrArg AV.bool ?_;simp_all;done))) (by repeat' (first | exact kept_nil | apply kept_cons | rfl)) (by repeat' (first | exact kept_nil | apply kept_cons | rfl))
   | true=>
     rw[hpc] at hfc
     repeat' (first
      | with_reducible (first | refine Rd.p ?_ | refine w_alt ?_ ?_ | refine zE ?_ | refine zE0 ?_)
      | (refine w_ixP (f:=fun d:Dl=>[AV.int .i64 d.kind,.int .i64 d.bag,.int .i64 d.other,.int .i64 d.wood,.int .i64 d.count]) hll rfl rfl ?_)
      | with_reducible (first | refine zI fun y hy=>?_ | refine zL ?_ | refine zS ?_ | refine zA fun _=>?_ | refine zV ?_ | refine zC ?_ | refine zG ?_ | refine zU ?_ | refine zG0 ?_ | refine zU0 ?_ | refine zF ?_)
      | ((with_reducible refine acall_id ?_);refine ACall.val hfc rfl rfl ?_)
      | with_reducible (first | refine zX ?_ | refine zD fun _=>?_ | refine zD0 ?_ | refine zN ?_ | refine zF0 ?_ | refine zX0 ?_ | refine z1 ?_ | refine z2 ?_ | refine z3 ?_ | refine z4 ?_ | refine z5 ?_ | refine z6 ?_ | refine z7 ?_ | refine z8 ?_ | refine y1 ?_ | refine y2 ?_ | refine y3 ?_ | refine y4 ?_ | refine y5 ?_ | refine y6 ?_ | refine y7 ?_ | refine y8 ?_ | refine Rt.p (fun _=>?_) fun _=>?_)
      | ((with_reducible apply w_ixM);(focus exact rfl);(focus exact rfl);case' hk=>intro y hy) | ((with_reducible (first | apply w_val | apply q_ends));(focus exact rfl)))
     all_goals first
      | (exfalso;omega)
      | exact⟨pre.length,rfl,by rw[hll];simp[hpc]⟩
theorem conD_c (k:Nat) (cs:List AV) (p:Dl→Bool) (l:List Dl) (hl:l.length<1000000) (hf:∀x∈l,Fn0 Try.prog k [dlA x,.pin cs] (fun v=>v= .bool (p x))):Fn0 Try.prog 99 [.slc 5 (dlR l) .non,.clo (.func k) [] [.pin cs]] (fun v=>v= .bool (l.any p)):=by
 have hi:=idxD_c k cs p l hl hf
 refine RawC.walk (H:=hint99 Try.prog) ir99 Try.func99 rfl rfl rfl ?_
 unfold ir99
 repeat' (first
  | with_reducible (first | refine Rd.p ?_ | refine w_alt ?_ ?_ | refine zE ?_ | refine zE0 ?_)
  | with_reducible (first | refine zI fun y hy=>?_ | refine zL ?_ | refine zS ?_ | refine zA fun _=>?_ | refine zV ?_ | refine zC ?_ | refine zG ?_ | refine zU ?_ | refine zG0 ?_ | refine zU0 ?_ | refine zF ?_)
  | ((with_reducible refine acall_id ?_);refine ACall.fn0 hi rfl ?_;rintro _ ⟨i,rfl,hk⟩)
  | with_reducible (first | refine zX ?_ | refine zD fun _=>?_ | refine zD0 ?_ | refine zN ?_ | refine zF0 ?_ | refine zX0 ?_ | refine z1 ?_ | refine z2 ?_ | refine z3 ?_ | refine z4 ?_ | refine z5 ?_ | refine z6 ?_ | refine z7 ?_ | refine z8 ?_ | refine y1 ?_ | refine y2 ?_ | refine y3 ?_ | refine y4 ?_ | refine y5 ?_ | refine y6 ?_ | refine y7 ?_ | refine y8 ?_ | refine Rt.p (fun _=>?_) fun _=>?_)
  | ((with_reducible apply w_ixM);(focus exact rfl);(focus exact rfl);case' hk=>intro y hy) | ((with_reducible (first | apply w_val | apply q_ends));(focus exact rfl)))
 exact congrArg AV.bool (by rw[Bool.eq_iff_iff];simpa using hk)
theorem due1_c (G:Gm) (x:Int) (hd:G.ds.length<1000):Fn0 Try.prog 98 [.int .i64 x,gmP G] (fun v=>v= .bool (!triedB G.ds x)):=by
 have hc:=fun g=>conD_c 100 [.int .i64 x] (fun d=>decide (d.kind=1) && decide (d.wood=x)) G.ds (by omega) fun d _=>due11_c d g x
 refine RawC.walk (H:=hint98 Try.prog) ir98 Try.func98 rfl rfl rfl ?_
 unfold ir98
 repeat' (first
  | with_reducible (first | refine Rd.p ?_ | refine w_alt ?_ ?_ | refine zE ?_ | refine zE0 ?_)
  | with_reducible (first | refine zI fun y hy=>?_ | refine zL ?_ | refine zS ?_ | refine zA fun _=>?_ | refine zV ?_ | refine zC ?_ | refine zG ?_ | refine zU ?_ | refine zG0 ?_ | refine zU0 ?_ | refine zF ?_)
  | (refine w_frzR rfl rfl rfl ?_)
  | ((with_reducible refine acall_id ?_);refine ACall.val (hc 0) rfl rfl ?_)
  | with_reducible (first | refine zX ?_ | refine zD fun _=>?_ | refine zD0 ?_ | refine zN ?_ | refine zF0 ?_ | refine zX0 ?_ | refine z1 ?_ | refine z2 ?_ | refine z3 ?_ | refine z4 ?_ | refine z5 ?_ | refine z6 ?_ | refine z7 ?_ | refine z8 ?_ | refine y1 ?_ | refine y2 ?_ | refine y3 ?_ | refine y4 ?_ | refine y5 ?_ | refine y6 ?_ | refine y7 ?_ | refine y8 ?_ | refine Rt.p (fun _=>?_) fun _=>?_)
  | ((with_reducible apply w_ixM);(focus exact rfl);(focus exact rfl);case' hk=>intro y hy) | ((with_reducible (first | apply w_val | apply q_ends));(focus exact rfl)))
 all_goals first
  | (exfalso;omega)
  | rfl
def ir115:IFn:=
 ⟨35,[(2,none)],(.seq (.ops [oo 2 (.mov (.k .nsl))])
 (.seq (.ops [⟨(some 9),none,.mkm⟩,
 oo 3 (.mov 9)])
 (.seq (.ops [oo 4 (.nil 1 4)])
 (.seq (.seq (.ops [oo 10 (.mov 0),
 oo 11 (.len false 10),
 oo 12 (.mov (kI 0))])
 (.blk 0 (.loop (.seq (.ops [oo 13 (.bin .lss 12 11)])
 (.seq (.cnd 13
 .skip
 (.exit 0))
 (.seq (.blk 1 (.seq (.ops [oo 14 (.ixA 1 10 12),
 oo 15 (.ld 1 false 14),
 oo 6 (.mov 15)])
 (.seq (.ops [oo 17 (.mov 3),
 oo 18 (.mov 6),
 oo 19 (.mlk .i (.int .i64 0) true 17 18),
 oo 16 (.mov 19),
 oo 20 (.ext 0 16),
 oo 21 (.ext 1 16),
 oo 7 (.mov 20),
 oo 8 (.mov 21)])
 (.seq (.seq (.ops [oo 22 (.mov 8),
 oo 23 (.not 22)])
 (.cnd 23
 (.seq (.ops [oo 24 (.mov 3),
 oo 25 (.mln 24),
 oo 7 (.mov 25)])
 (.ops [oo 26 (.mov 3),
 oo 27 (.mov 6),
 oo 28 (.mov 7),
 ⟨none,none,(.mup .i 26 27 28)⟩]))
 .skip))
 (.ops [oo 29 (.mov 4),
 oo 30 (.mov 7),
 oo 31 (.bsl 1 [[(.int .i64 0)]] [(0,30)]),
 oo 32 (.app 1 8 29 31 4),
 oo 4 (.mov 32)])))))
 (.ops [oo 33 (.bin .add 12 (kI 1)),
 oo 12 (.mov 33)])))))))
 (.seq (.ops [oo 34 (.mov 4),
 oo 2 (.mov 34)])
 .ret)))))⟩
def hint115 (P:Program):Hint:={site:=[(32,4)],nils:=[(4,1)],frz:=[],mve:=[],wr:=[] }
def ir96:IFn:=
 ⟨14,[(2,none),(3,none)],(.seq (.ops [oo 2 (.mov (.k .nsl)),
 oo 3 (.mov (kI 0))])
 (.seq (.blk 0 (.seq (.ops [oo 5 (.mov 0),
 oo 6 (.len false 5),
 oo 7 (.bin .eql 6 (kI 0)),
 oo 4 (.mov 7)])
 (.cnd 4
 (.seq (.ops [oo 2 (.mov (.k .nsl)),
 oo 3 (.mov (kI 6))])
 .ret)
 (.seq (.ops [oo 9 (.mov 0),
 oo 10 (.len false 9),
 oo 11 (.bin .gtr 10 (kI 9)),
 oo 8 (.mov 11)])
 (.cnd 8
 (.seq (.ops [oo 2 (.mov (.k .nsl)),
 oo 3 (.mov (kI 8))])
 .ret)
 .skip)))))
 (.seq (.ops [oo 12 (.mov 0),
 oo 13 (.callF 115 [12]),
 oo 2 (.mov 13),
 oo 3 (.mov (kI 0))])
 .ret)))⟩
def hint96 (P:Program):Hint:={}
def numF:List Int→List Int→List Int
 | _,[]=>[]
 | met,x::r=>if x∈met then (met.idxOf x:Int)::numF met r else (met.length:Int)::numF (met++[x]) r
abbrev fiK (l:List Int):List AV:=l.map (AV.int .i64)
abbrev fiV (l:List Int):List AV:=(List.range l.length).map fun (k:Nat)=>AV.int .i64 (k:Int)
section
variable {P:Program} {K:(Nat→AV)→Sig→Prop} {e:Nat→AV} {σ:Sig} {m k:IOpd} {r:List IStep} {d i h:Nat} {a:Int} {F:List Int}
theorem w_mlkF (hm:m.ev e= .map i h) (hσ:σ i=(h,.row [.mpv (fiK F) (fiV F)])) (hk:k.ev e= .int .i64 a)
  (hK:stepsW P r K (upd e d (.tup [.int .i64 (if a∈F then (F.idxOf a:Int) else 0),.bool (decide (a∈F))])) σ):stepsW P (⟨some d,none,.mlk .i (.int .i64 0) true m k⟩::r) K e σ:=by
 refine w_det (p:=h=h) (v:=fun _=> .tup [.int .i64 (if a∈F then (F.idxOf a:Int) else 0),.bool (decide (a∈F))]) (σ':=fun _=>σ) (fun _=>?_) rfl fun _=>hK
 show mlkO .i (.int .i64 0) true σ (k.ev e) (m.ev e)=_
 rw[hm,hk]
 simp only[mlkO,mapR,hσ,findI]
 by_cases ha:a∈F
 · have hlt:=List.idxOf_lt_length_iff.2 ha
   simp[ha,hlt,lkV]
 · simp[ha,lkV]
theorem w_mupF {v:IOpd} (hm:m.ev e= .map i h) (hσ:σ i=(h,.row [.mpv (fiK F) (fiV F)])) (hk:k.ev e= .int .i64 a) (hv:v.ev e= .int .i64 (F.length:Int)) (ha:¬a∈F)
  (hK:stepsW P r K e (upd σ i (h,.row [.mpv (fiK (F++[a])) (fiV (F++[a]))]))):stepsW P (⟨none,none,.mup .i m k v⟩::r) K e σ:=by
 refine w_det0 (p:=h=h) (v:= .junk) (σ':=upd σ i (h,.row [.mpv (fiK (F++[a])) (fiV (F++[a]))])) (fun _=>?_) rfl hK
 show mupO .i σ (k.ev e) (v.ev e) (m.ev e)=_
 rw[hm,hk,hv]
 simp only[mupO,mapW,hσ,findI,forceA,ha,if_false]
 have e1:fiV F++[AV.int .i64 (F.length:Int)]=fiV (F++[a]):=by
  show _=(List.range (F++[a]).length).map _
  rw[len_snoc,List.range_succ,List.map_append];rfl
 have e2:fiK F++[AV.int .i64 a]=fiK (F++[a]):=by simp
 show some (True,AV.junk,upd σ i (h,Res.row [AV.mpv (fiK F++[AV.int .i64 a]) (fiV F++[AV.int .i64 (F.length:Int)])]))=_
 rw[e1,e2]
end
theorem number_c (l:List Int) (hl:l.length<1000000):Fn0 Try.prog 115 [.slc 1 (iR l) .non] (fun v=>v= .slc 1 (iR (numF [] l)) .non):=by
 refine RawC.walk (H:=hint115 Try.prog) ir115 Try.func115 rfl rfl rfl ?_
 unfold ir115
 repeat' (first
  | with_reducible (first | refine Rd.p ?_ | refine w_alt ?_ ?_ | refine zE ?_ | refine zE0 ?_)
  | with_reducible (first | refine zI fun y hy=>?_ | refine zL ?_ | refine zS ?_ | refine zA fun _=>?_ | refine zV ?_ | refine zC ?_ | refine zG ?_ | refine zU ?_ | refine zG0 ?_ | refine zU0 ?_ | refine zF ?_)
  | with_reducible (first | refine zX ?_ | refine zD fun _=>?_ | refine zD0 ?_ | refine zN ?_ | refine zF0 ?_ | refine zX0 ?_ | refine z1 ?_ | refine z2 ?_ | refine z3 ?_ | refine z4 ?_ | refine z5 ?_ | refine z6 ?_ | refine z7 ?_ | refine z8 ?_ | refine y1 ?_ | refine y2 ?_ | refine y3 ?_ | refine y4 ?_ | refine y5 ?_ | refine y6 ?_ | refine y7 ?_ | refine y8 ?_ | refine Rt.p (fun _=>?_) fun _=>?_)
  | ((with_reducible apply w_ixM);(focus exact rfl);(focus exact rfl);case' hk=>intro y hy) | ((with_reducible (first | apply w_val | apply q_ends));(focus exact rfl)))
 rename_i g9 g4
 refine w_loopK [3,10,11] [] (fun x:List Int×List Int×List Int×List Int×Nat=>l=x.1++x.2.1∧x.2.2.1++numF x.2.2.2.1 x.2.1=numF [] l∧x.2.2.1.length≤x.1.length∧x.2.2.2.1.length≤x.1.length) (fun x=>x.2.1.length) (fun x=>[(12,.int .i64 x.1.length),(4,.slc 1 (iR x.2.2.1) (.own 4 x.2.2.2.2))]) (fun x=>[(4,(x.2.2.2.2,.row [])),(9,(g9,.row [.mpv (fiK x.2.2.2.1) (fiV x.2.2.2.1)]))]) ([],l,[],[],g4) ⟨rfl,rfl,Nat.le_refl _,Nat.le_refl _⟩ ⟨rfl,rfl,trivial⟩ ⟨rfl,rfl,trivial⟩ ?_
 rintro⟨pre,post,out,F,g⟩ ⟨hll,hb,ho,hf⟩ e σ
 dsimp only at hll hb ho hf ⊢
 have hlen:=congrArg List.length hll
 have hol:(iR out).length=out.length:=List.length_map _
 have hfl:(fiK F).length=F.length:=List.length_map _
 have hpl:∀c,(pre++[c]).length=pre.length+1:=fun c=>len_snoc
 cases post with
 | nil=>
   simp only[List.append_nil,List.length_append,List.length_nil] at hlen
   rw[show numF F []=[] from rfl,List.append_nil] at hb
   rw[←hb]
   repeat' (first
    | with_reducible (first | refine Rd.p ?_ | refine w_alt ?_ ?_ | refine zE ?_ | refine zE0 ?_)
    | with_reducible (first | refine zI fun y hy=>?_ | refine zL ?_ | refine zS ?_ | refine zA fun _=>?_ | refine zV ?_ | refine zC ?_ | refine zG ?_ | refine zU ?_ | refine zG0 ?_ | refine zU0 ?_ | refine zF ?_)
    | with_reducible (first | refine zX ?_ | refine zD fun _=>?_ | refine zD0 ?_ | refine zN ?_ | refine zF0 ?_ | refine zX0 ?_ | refine z1 ?_ | refine z2 ?_ | refine z3 ?_ | refine z4 ?_ | refine z5 ?_ | refine z6 ?_ | refine z7 ?_ | refine z8 ?_ | refine y1 ?_ | refine y2 ?_ | refine y3 ?_ | refine y4 ?_ | refine y5 ?_ | refine y6 ?_ | refine y7 ?_ | refine y8 ?_ | refine Rt.p (fun _=>?_) fun _=>?_)
    | ((with_reducible apply w_ixM);(focus exact rfl);(focus exact rfl);case' hk=>intro y hy) | ((with_reducible (first | apply w_val | apply q_ends));(focus exact rfl)))
   all_goals first
    | (exfalso;omega)
    | rfl
 | cons c post=>
   simp only[List.length_append,List.length_cons] at hlen
   rw[numF] at hb
   by_cases hc:c∈F
   · rw[if_pos hc] at hb
     have hix:(if c∈F then (F.idxOf c:Int) else 0)=F.idxOf c:=if_pos hc
     have hdc:decide (c∈F)=true:=decide_eq_true hc
     repeat' (first
      | with_reducible (first | refine Rd.p ?_ | refine w_alt ?_ ?_ | refine zE ?_ | refine zE0 ?_)
      | (first | refine w_ixP hll rfl rfl ?_ | (refine w_mlkF rfl rfl rfl ?_;rw[hix,hdc]))
      | with_reducible (first | refine zI fun y hy=>?_ | refine zL ?_ | refine zS ?_ | refine zA fun _=>?_ | refine zV ?_ | refine zC ?_ | refine zG ?_ | refine zU ?_ | refine zG0 ?_ | refine zU0 ?_ | refine zF ?_)
      | with_reducible (first | refine zX ?_ | refine zD fun _=>?_ | refine zD0 ?_ | refine zN ?_ | refine zF0 ?_ | refine zX0 ?_ | refine z1 ?_ | refine z2 ?_ | refine z3 ?_ | refine z4 ?_ | refine z5 ?_ | refine z6 ?_ | refine z7 ?_ | refine z8 ?_ | refine y1 ?_ | refine y2 ?_ | refine y3 ?_ | refine y4 ?_ | refine y5 ?_ | refine y6 ?_ | refine y7 ?_ | refine y8 ?_ | refine Rt.p (fun _=>?_) fun _=>?_)
      | ((with_reducible apply w_ixM);(focus exact rfl);(focus exact rfl);case' hk=>intro y hy) | ((with_reducible (first | apply w_val | apply q_ends));(focus exact rfl)))
     all_goals try (exfalso;omega)
     all_goals
      rename_i g5
      exact q_loop (pre++[c],post,out++[(F.idxOf c:Int)],F,g5) ⟨by dsimp only;rw[hll];simp,by dsimp only;rw[List.append_assoc];exact hb,by dsimp only;rw[len_snoc,hpl];omega,by dsimp only;rw[hpl];omega⟩ (Nat.lt_succ_self _) ⟨by rw[len_snoc];rfl,rfl,trivial⟩ (by repeat' (first | exact slots_nil | apply slots_cons | rfl | (rw[map_snoc];rfl) | (rw[len_snoc];rfl) | (rw[hS];rfl) | (rw[hS,map_snoc];rfl) | (refine int_eq ?_;(try dsimp only);omega) | (refine congrArg AV.bool ?_;simp_all;done))) (by repeat' (first | exact kept_nil | apply kept_cons | rfl)) (by repeat' (first | exact kept_nil | apply kept_cons | rfl))
   · rw[if_neg hc] at hb
     have hix:(if c∈F then (F.idxOf c:Int) else 0)=0:=if_neg hc
     have hdc:decide (c∈F)=false:=decide_eq_false hc
     repeat' (first
      | with_reducible (first | refine Rd.p ?_ | refine w_alt ?_ ?_ | refine zE ?_ | refine zE0 ?_)
      | (first | refine w_ixP hll rfl rfl ?_ | (refine w_mlkF rfl rfl rfl ?_;rw[hix,hdc]) | refine w_mupF rfl rfl rfl (int_eq (by omega)) hc ?_)
      | with_reducible (first | refine zI fun y hy=>?_ | refine zL ?_ | refine zS ?_ | refine zA fun _=>?_ | refine zV ?_ | refine zC ?_ | refine zG ?_ | refine zU ?_ | refine zG0 ?_ | refine zU0 ?_ | refine zF ?_)
      | with_reducible (first | refine zX ?_ | refine zD fun _=>?_ | refine zD0 ?_ | refine zN ?_ | refine zF0 ?_ | refine zX0 ?_ | refine z1 ?_ | refine z2 ?_ | refine z3 ?_ | refine z4 ?_ | refine z5 ?_ | refine z6 ?_ | refine z7 ?_ | refine z8 ?_ | refine y1 ?_ | refine y2 ?_ | refine y3 ?_ | refine y4 ?_ | refine y5 ?_ | refine y6 ?_ | refine y7 ?_ | refine y8 ?_ | refine Rt.p (fun _=>?_) fun _=>?_)
      | ((with_reducible apply w_ixM);(focus exact rfl);(focus exact rfl);case' hk=>intro y hy) | ((with_reducible (first | apply w_val | apply q_ends));(focus exact rfl)))
     all_goals try (exfalso;omega)
     all_goals
      rename_i _ g5
      rw[←hfl] at hb
      exact q_loop (pre++[c],post,out++[((fiK F).length:Int)],F++[c],g5) ⟨by dsimp only;rw[hll];simp,by dsimp only;rw[List.append_assoc];exact hb,by dsimp only;rw[len_snoc,hpl];omega,by dsimp only;rw[len_snoc,hpl];omega⟩ (Nat.lt_succ_self _) ⟨by rw[len_snoc];rfl,rfl,trivial⟩ (by repeat' (first | exact slots_nil | apply slots_cons | rfl | (rw[map_snoc];rfl) | (rw[len_snoc];rfl) | (rw[hS];rfl) | (rw[hS,map_snoc];rfl) | (refine int_eq ?_;(try dsimp only);omega) | (refine congrArg AV.bool ?_;simp_all;done))) (by repeat' (first | exact kept_nil | apply kept_cons | rfl)) (by repeat' (first | exact kept_nil | apply kept_cons | rfl))
theorem chartOf_c (l:List Int) (h1:1≤l.length) (h9:l.length≤9):Fn0 Try.prog 96 [.slc 1 (iR l) .non] (fun v=>v= .tup [.slc 1 (iR (numF [] l)) .non,.int .i64 0]):=by
 refine RawC.walk (H:=hint96 Try.prog) ir96 Try.func96 rfl rfl rfl ?_
 unfold ir96
 repeat' (first
  | with_reducible (first | refine Rd.p ?_ | refine w_alt ?_ ?_ | refine zE ?_ | refine zE0 ?_)
  | with_reducible (first | refine zI fun y hy=>?_ | refine zL ?_ | refine zS ?_ | refine zA fun _=>?_ | refine zV ?_ | refine zC ?_ | refine zG ?_ | refine zU ?_ | refine zG0 ?_ | refine zU0 ?_ | refine zF ?_)
  | ((with_reducible refine acall_id ?_);refine ACall.val (number_c l (by omega)) rfl rfl ?_)
  | with_reducible (first | refine zX ?_ | refine zD fun _=>?_ | refine zD0 ?_ | refine zN ?_ | refine zF0 ?_ | refine zX0 ?_ | refine z1 ?_ | refine z2 ?_ | refine z3 ?_ | refine z4 ?_ | refine z5 ?_ | refine z6 ?_ | refine z7 ?_ | refine z8 ?_ | refine y1 ?_ | refine y2 ?_ | refine y3 ?_ | refine y4 ?_ | refine y5 ?_ | refine y6 ?_ | refine y7 ?_ | refine y8 ?_ | refine Rt.p (fun _=>?_) fun _=>?_)
  | ((with_reducible apply w_ixM);(focus exact rfl);(focus exact rfl);case' hk=>intro y hy) | ((with_reducible (first | apply w_val | apply q_ends));(focus exact rfl)))
 all_goals first
  | (exfalso;omega)
  | rfl
def ir71:IFn:=
 ⟨75,[(6,none)],(.seq (.ops [oo 3 (.box 2 0),
 oo 4 (.box 2 1),
 oo 6 (.mov (.k .nsl))])
 (.seq (.seq (.ops [oo 15 (.flA 0 4),
 oo 16 (.ld 1 false 15)])
 (.blk 0 (.seq (.ops [oo 18 (.bin .eql 16 (kI 1)),
 oo 17 (.mov 18)])
 (.cnd 17
 (.seq (.ops [oo 20 (.mov 2),
 oo 21 (.callF 96 [20]),
 oo 19 (.mov 21),
 oo 22 (.ext 0 19),
 oo 23 (.ext 1 19),
 oo 7 (.mov 22),
 oo 8 (.mov 23)])
 (.seq (.ops [oo 24 (.mov 7),
 oo 6 (.mov 24)])
 .ret))
 (.seq (.ops [oo 26 (.bin .eql 16 (kI 2)),
 oo 25 (.mov 26)])
 (.cnd 25
 (.seq (.seq (.frz 3)
 (.ops [oo 27 (.mov 2),
 oo 28 (.mkf (.func 98) [] [3]),
 oo 29 (.callF 97 [27,28]),
 oo 6 (.mov 29)]))
 .ret)
 (.seq (.ops [oo 31 (.bin .eql 16 (kI 4)),
 oo 30 (.mov 31)])
 (.cnd 30
 (.seq (.seq (.frz 4)
 (.ops [oo 32 (.mov 2),
 oo 33 (.mkf (.func 101) [] [4]),
 oo 34 (.callF 97 [32,33]),
 oo 6 (.mov 34)]))
 .ret)
 (.seq (.ops [oo 36 (.bin .eql 16 (kI 5)),
 oo 35 (.mov 36)])
 (.cnd 35
 (.seq (.ops [oo 9 (.nil 1 9)])
 (.seq (.seq (.ops [oo 37 (.mov 2),
 oo 38 (.len false 37),
 oo 39 (.mov (kI 0))])
 (.blk 1 (.loop (.seq (.ops [oo 40 (.bin .lss 39 38)])
 (.seq (.cnd 40
 .skip
 (.exit 1))
 (.seq (.blk 2 (.seq (.ops [oo 41 (.ixA 1 37 39),
 oo 42 (.ld 1 false 41),
 oo 11 (.mov 42)])
 (.seq (.ops [oo 43 (.mov 9),
 oo 44 (.mov 11),
 oo 45 (.callF 102 [43,44]),
 oo 46 (.not 45)])
 (.cnd 46
 (.ops [oo 47 (.mov 9),
 oo 48 (.mov 11),
 oo 49 (.bsl 1 [[(.int .i64 0)]] [(0,48)]),
 oo 50 (.app 1 8 47 49 9),
 oo 9 (.mov 50)])
 .skip))))
 (.ops [oo 51 (.bin .add 39 (kI 1)),
 oo 39 (.mov 51)])))))))
 (.seq (.ops [oo 52 (.mov 9),
 oo 6 (.mov 52)])
 .ret)))
 (.seq (.ops [oo 54 (.bin .eql 16 (kI 6)),
 oo 53 (.mov 54)])
 (.cnd 53
 (.seq (.ops [oo 55 (.flA 0 3),
 oo 56 (.ld 1 false 55),
 oo 57 (.len false 56),
 oo 58 (.mks 1 8 [(.int .i64 0)] 57 57),
 oo 12 (.mov 58)])
 (.seq (.seq (.ops [oo 59 (.mov 2),
 oo 60 (.len false 59),
 oo 61 (.mov (kI 0))])
 (.blk 3 (.loop (.seq (.ops [oo 62 (.bin .lss 61 60)])
 (.seq (.cnd 62
 .skip
 (.exit 3))
 (.seq (.blk 4 (.seq (.ops [oo 63 (.ixA 1 59 61),
 oo 64 (.ld 1 false 63),
 oo 14 (.mov 64)])
 (.ops [oo 65 (.mov 12),
 oo 66 (.mov 14),
 oo 67 (.ixA 1 65 66),
 oo 68 (.ld 1 false 67),
 oo 69 (.bin .add 68 (kI 1)),
 oo 70 (.ixA 1 65 66),
 ⟨none,none,(.st 1 70 69)⟩])))
 (.ops [oo 71 (.bin .add 61 (kI 1)),
 oo 61 (.mov 71)])))))))
 (.seq (.seq (.frz 12)
 (.ops [oo 72 (.mov 12),
 oo 6 (.mov 72)]))
 .ret)))
 .skip))))))))))))
 (.seq (.ops [oo 73 (.mov 2),
 oo 74 (.callF 91 [73]),
 oo 6 (.mov 74)])
 .ret)))⟩
def hint71 (P:Program):Hint:={site:=[(50,9)],nils:=[(9,1)],frz:=[(28,3),(33,4),(72,12)],mve:=[],wr:=[] }
theorem w_frzIG {P:Program} {Q:Post} {e:Nat→AV} {σ:Sig} {t i g n:Nat} {xs:List Int} (F:List (Nat×AV)) (S:List (Nat×(Nat×Res))) (hx:e t= .msl i g n 1) (hσ:σ i=(g,.row (xs.map (AV.int .i64)))) (hn:xs.length=n)
  (hF:slots F (frzE i g (xs.map (AV.int .i64)) e)) (hS:slots S (frzS i g (xs.map (AV.int .i64)) σ)) (hk:∀e' σ',Q .nor (updL F e') (updL S σ')):awp P (.frz (.t t)) Q e σ:=by
 show frzW (e t) e σ (Q .nor)
 rw[hx]
 show (match σ i with | (g',.row c)=>g=g'∧c.all AV.scal=true∧Q .nor (frzE i g c e) (frzS i g c σ) | _=>False)
 rw[hσ]
 refine⟨rfl,by simp[AV.scal],?_⟩
 have:=hk (frzE i g (xs.map (AV.int .i64)) e) (frzS i g (xs.map (AV.int .i64)) σ)
 rw[updL_slots hF,updL_slots hS] at this
 exact this
def fstF:List Int→List Int→List Int
 | o,[]=>o
 | o,x::r=>if 0≤idxI o x then fstF o r else fstF (o++[x]) r
def cntX:List Int→List Int→List Int
 | xs,[]=>xs
 | xs,w::r=>cntX (xs.set w.toNat (xs.getD w.toNat 0+1)) r
def dueF (G:Gm) (a:Aq) (c:List Int):List Int:=
 if a.kind=1 then numF [] c else if a.kind=2 then whF (fun x=>!triedB G.ds x) 0 c else if a.kind=4 then whF (fun x=>decide (x=a.wood)) 0 c
 else if a.kind=5 then fstF [] c else if a.kind=6 then cntX (List.replicate G.ws.length 0) c else c
end Go.Abs
