/- A part of the proofs of the laws of this seat: contracts of the functions that they reach, each proved of the program's form in Lean. No condition beyond those that each contract names. -/
import Derived.Test.YtecogfpnfhkibaaProg
import Derived.Test.YtecogfpnfhkibaaSnd3
import Derived.Test.YtecogfpnfhkibaaA0
import Derived.Test.YtecogfpnfhkibaaN1a
import Derived.Test.YtecogfpnfhkibaaN1b
import Derived.Test.YtecogfpnfhkibaaN1c
import Derived.Test.YtecogfpnfhkibaaN1d
import Derived.Test.YtecogfpnfhkibaaN1e
import Derived.Test.YtecogfpnfhkibaaN1f
import Derived.Test.YtecogfpnfhkibaaN1g
import Derived.Test.YtecogfpnfhkibaaN3a
import Derived.Test.YtecogfpnfhkibaaN4a
set_option linter.unusedVariables false
set_option linter.unusedSimpArgs false
set_option maxRecDepth 20000
set_option maxHeartbeats 4000000
namespace Go.Abs
open Go.Proofs
theorem nSum_zero:∀n:Nat,nSum n (fun _=>0)=0
 | 0=>rfl
 | n+1=>by rw[nSum,nSum_zero n];rfl
section
variable {P:Program}
variable {α:Type} {row:α→List AV} {sz:Nat}
theorem ACall.liftNS {f:Nat} {args0 args:List AV} {l0:List (Nat×(Nat×Res))} {σ:Sig} {β:Type} {V:β→AV→Prop} {L:β→List (Nat×(Nat×Res))} {d:Nat} {Q:AV→Sig→Prop} (h:RawC P f args0 (sg l0) (SR V L)) (ρi os:List (Nat×Nat)) (hos:outsB d os=true) (hr:renOK (os++ρi)=true)
  (ha:args0=renL (flipL ρi) args) (h0:l0=pull (flipL ρi) σ ρi) (hl:liveL σ ρi) (hc:∀x,covers (L x) (os++ρi)=true) (hQ:∀x av,V x av→Q (ren (os++ρi) av) (pushV (os++ρi) (L x) (os++ρi) σ)):ACall P f args σ d Q:=
 ACall.liftN h ρi os hos hr ha h0 hl fun av σ0' ⟨x,hV,hs⟩=>by rw[push_slots hs (hc x)];exact hQ x av hV
end
theorem draw_same {B:List Int} {i v w:Int} (h:v.toNat=w.toNat):bgAt B i v=bgAt B i w∧drawB B i v=drawB B i w:=by
 unfold drawB bgAdd bgAt
 rw[h];exact⟨rfl,rfl⟩
theorem bgAt_draw {B:List Int} {i v j w:Int} (h:i.toNat*6+v.toNat≠j.toNat*6+w.toNat):bgAt (drawB B i v) j w=bgAt B j w:=by
 show (B.set _ _).getD _ 0=B.getD _ 0
 rw[List.getD_eq_getElem?_getD,List.getElem?_set_ne h,←List.getD_eq_getElem?_getD]
theorem draw_comm {B:List Int} {i v j w:Int} (h:i.toNat*6+v.toNat≠j.toNat*6+w.toNat):drawB (drawB B i v) j w=drawB (drawB B j w) i v:=by
 have e1:=bgAt_draw (B:=B) h
 have e2:=bgAt_draw (B:=B) (Ne.symm h)
 show (drawB B i v).set _ (bgAt (drawB B i v) j w+ -1)=(drawB B j w).set _ (bgAt (drawB B j w) i v+ -1)
 rw[e1,e2]
 exact List.set_comm _ _ h
theorem draw_two (B:List Int) (i v w:Int) (V:List Int→Int):bgAt B i v*(bgAt (drawB B i v) i w*V (drawB (drawB B i v) i w))=bgAt B i w*(bgAt (drawB B i w) i v*V (drawB (drawB B i w) i v)):=by
 by_cases h:v.toNat=w.toNat
 · obtain⟨e1,e2⟩:=draw_same (B:=B) (i:=i) h
   rw[e1,e2,(draw_same (B:=drawB B i w) (i:=i) h).1,(draw_same (B:=drawB B i w) (i:=i) h).2]
 · have hn:i.toNat*6+v.toNat≠i.toNat*6+w.toNat:=by omega
   rw[bgAt_draw hn,bgAt_draw (Ne.symm hn),draw_comm hn,Int.mul_left_comm]
theorem nSum_mull (k:Int) (f:Int→Int) (n:Nat):nSum n (fun w=>k*f w)=k*nSum n f:=by
 rw[←Int.mul_comm,←nSum_mulr]
 refine nSum_congr fun w _=>Int.mul_comm _ _
theorem nSum_swap (f:Int→Int→Int) (m:Nat):∀n:Nat,nSum n (fun v=>nSum m fun w=>f v w)=nSum m fun w=>nSum n fun v=>f v w
 | 0=>(nSum_zero m).symm
 | n+1=>by
   show nSum n _+nSum m _=nSum m fun w=>nSum n (fun v=>f v w)+f n w
   rw[nSum_swap f m n]
   have:∀k:Nat,nSum k (fun w=>nSum n fun v=>f v w)+nSum k (fun w=>f n w)=nSum k fun w=>nSum n (fun v=>f v w)+f n w:=by
    intro k
    induction k with
    | zero=>rfl
    | succ k ih=>show nSum k _+nSum n (fun v=>f v k)+(nSum k _+f n k)=nSum k _+(nSum n (fun v=>f v k)+f n k);rw[←ih];omega
   exact this m
theorem cntG_dr0 {n:Nat} {x:Sp} {r:List Sp} {c B:List Int} (hd:x.2.1=true) (hc:¬x.2.2=true):cntG n (x::r) c B=nSum n fun w=>bgAt B x.1.bag w*cntG n r c (drawB B x.1.bag w):=by
 rw[cntG_f hc];unfold nextV;rw[if_pos hd,if_neg hc]
theorem cntG_dr1 {n:Nat} {x:Sp} {r:List Sp} {w:Int} {c B:List Int} (hd:x.2.1=true) (hc:x.2.2=true):cntG n (x::r) (w::c) B=bgAt B x.1.bag w*cntG n r c (drawB B x.1.bag w):=by
 rw[cntG_t hc];unfold nextV;rw[if_pos hd,if_pos hc]
theorem cnt_swap0 {n:Nat} {x y:Sp} {r:List Sp} (hx:x.2.1=true) (hx0:¬x.2.2=true) (hy:y.2.1=true) (hb:x.1.bag=y.1.bag):cntG n (x::y::r)=cntG n (y::x::r):=by
 funext c B
 by_cases hc:y.2.2=true
 · cases c with
   | nil=>
     rw[cntG_dr0 hx hx0,cntG_n hc]
     simp only[cntG_n hc,Int.mul_zero]
     exact nSum_zero n
   | cons w c=>
     rw[cntG_dr0 hx hx0,cntG_dr1 hy hc,cntG_dr0 hx hx0,←nSum_mull]
     refine nSum_congr fun v _=>?_
     rw[cntG_dr1 hy hc,hb]
     exact draw_two B _ _ _ _
 · rw[cntG_dr0 hx hx0,cntG_dr0 hy hc]
   simp only[cntG_dr0 hy hc,cntG_dr0 hx hx0,←nSum_mull]
   rw[nSum_swap]
   refine nSum_congr fun w _=>nSum_congr fun v _=>?_
   rw[hb]
   exact draw_two B _ _ _ _
theorem cnt_congr {n:Nat} {x:Sp} {r r':List Sp} (h:cntG n r=cntG n r'):cntG n (x::r)=cntG n (x::r'):=by
 funext c B
 by_cases hc:x.2.2=true
 · cases c with
   | nil=>rw[cntG_n hc,cntG_n hc]
   | cons w c=>rw[cntG_t hc,cntG_t hc,h]
 · rw[cntG_f hc,cntG_f hc,h]
theorem cnt_front {n:Nat} {r r':List Sp} (h:cntG n r=cntG n r'):∀l:List Sp,cntG n (l++r)=cntG n (l++r')
 | []=>h
 | _::l=>cnt_congr (cnt_front h l)
theorem cnt_past {n:Nat} {x:Sp} (hx:x.2.1=true) (hx0:¬x.2.2=true) {r:List Sp}:∀{l:List Sp},(∀y∈l,y.2.1=true∧x.1.bag=y.1.bag)→cntG n (x::(l++r))=cntG n (l++x::r)
 | [],_=>rfl
 | y::l,h=>by
   obtain⟨h1,h2⟩:=h y (by simp)
   show cntG n (x::y::(l++r))=cntG n (y::(l++x::r))
   rw[cnt_swap0 hx hx0 h1 h2]
   exact cnt_congr (cnt_past hx hx0 fun z hz=>h z (by simp[hz]))
theorem cnt_pastN {n:Nat} {x:Sp} (hx:x.2.1=true) (hx0:¬x.2.2=true) {l:List Sp} (h:∀y∈l,y.2.1=true∧x.1.bag=y.1.bag):∀(s:Nat) (r:List Sp),cntG n (List.replicate s x++(l++r))=cntG n (l++(List.replicate s x++r))
 | 0,_=>rfl
 | s+1,r=>by
   rw[List.replicate_succ,List.cons_append,cnt_congr (cnt_pastN hx hx0 h s r),cnt_past hx hx0 h];rfl
theorem stepsG_app (l r:List Dl):stepsG (l++r)=stepsG l++stepsG r:=List.flatMap_append
theorem allL_len (n:Nat):∀k:Nat,(allL n k).length=n^k
 | 0=>rfl
 | k+1=>by
   rw[allL,List.length_flatMap]
   have:(List.range n).map (fun (w:Nat)=>((allL n k).map fun l=>(w:Int)::l).length)=(List.range n).map fun _=>n^k:=by
    refine List.map_congr_left fun w _=>?_
    rw[List.length_map,allL_len n k]
   rw[this,List.map_const',List.length_range,List.sum_replicate_nat,Nat.pow_succ,Nat.mul_comm]
theorem crsO_same {X Y:Gm} (hX:gmErr X=0) (hY:gmErr Y=0) (hn:X.ws.length=Y.ws.length) (hc:censG (stepsG X.ds)=censG (stepsG Y.ds)) (h:∀s,cwG X s=cwG Y s):crsO X=crsO Y:=by
 have e:crsG X=crsG Y:=by
  rw[crsG_list (gm_ok hX),crsG_list (gm_ok hY),hn,hc]
  simp only[h]
 unfold crsO
 rw[hX,hY,e]
theorem crsO_ok {X:Gm} (hX:gmErr X=0) {a b:Nat} (hn:X.ws.length≤a) (hc:censG (stepsG X.ds)≤b) (h:a^b≤5000):crsO X=(crsG X,0):=by
 have h1:=gm_ok hX
 have hl:(crsG X).length≤X.ws.length^censG (stepsG X.ds):=by
  rw[crsG_list h1,List.length_map]
  refine Nat.le_trans (List.length_filter_le _ _) ?_
  rw[allL_len];exact Nat.le_refl _
 have h2:X.ws.length^censG (stepsG X.ds)≤a^censG (stepsG X.ds):=Nat.pow_le_pow_left hn _
 have h3:a^censG (stepsG X.ds)≤a^b:=Nat.pow_le_pow_right (by have:=h1.n1;omega) hc
 unfold crsO
 rw[if_pos hX,if_pos (by omega)]
theorem spared {ws:List Wd} {D:List Dl} {s k:Int} (hx:gmErr ⟨ws,D++[⟨4,0,0,0,s⟩,⟨5,0,0,0,k⟩]⟩=0) (hy:gmErr ⟨ws,D++[⟨5,0,0,0,k⟩,⟨4,0,0,0,s⟩]⟩=0):crsO ⟨ws,D++[⟨4,0,0,0,s⟩,⟨5,0,0,0,k⟩]⟩=crsO ⟨ws,D++[⟨5,0,0,0,k⟩,⟨4,0,0,0,s⟩]⟩:=by
 have e1:stepsG (D++[⟨4,0,0,0,s⟩,⟨5,0,0,0,k⟩])=stepsG D++(List.replicate s.toNat ((⟨4,0,0,0,s⟩:Dl),true,false)++(List.replicate k.toNat ((⟨5,0,0,0,k⟩:Dl),true,true)++[])):=by
  rw[stepsG_app];rfl
 have e2:stepsG (D++[⟨5,0,0,0,k⟩,⟨4,0,0,0,s⟩])=stepsG D++(List.replicate k.toNat ((⟨5,0,0,0,k⟩:Dl),true,true)++(List.replicate s.toNat ((⟨4,0,0,0,s⟩:Dl),true,false)++[])):=by
  rw[stepsG_app];rfl
 refine crsO_same hx hy rfl ?_ fun c=>?_
 · show censG (stepsG (D++_))=censG (stepsG (D++_))
   rw[e1,e2]
   simp only[censG_app];omega
 · show cntG _ (stepsG (D++_)) c bg0=cntG _ (stepsG (D++_)) c bg0
   rw[e1,e2,cnt_front (cnt_pastN (x:=((⟨4,0,0,0,s⟩:Dl),true,false)) rfl (by show ¬false=true;decide) (l:=List.replicate k.toNat ((⟨5,0,0,0,k⟩:Dl),true,true)) (fun y hy=>by rw[(List.mem_replicate.1 hy).2];exact⟨rfl,rfl⟩) s.toNat [])]
theorem ownGameS_c (G:Gm) (hw:G.ws.length≤1000000) (hd:G.ds.length≤1000000) (hw1:G.ws≠[]) (hd1:G.ds≠[]):RawC Try.prog 17 [gmA G] (sg []) (SR (fun (x:Nat×Nat) v=>v= .agg [.slc 2 (wR G.ws) (.own 6 x.1),.slc 5 (dlR G.ds) (.own 10 x.2)]) (fun x=>[(6,(x.1,.row [])),(10,(x.2,.row []))])):=by
 have h1:(wR G.ws).length=G.ws.length:=by simp
 have h2:(dlR G.ds).length=G.ds.length:=by simp
 obtain⟨ws,ds⟩:=G
 cases ws with
 | nil=>exact absurd rfl hw1
 | cons a ws=>
 cases ds with
 | nil=>exact absurd rfl hd1
 | cons d ds=>
 refine RawC.walk (H:=hint17 Try.prog) ir17 Try.func17 rfl rfl rfl ?_
 unfold ir17
 repeat' (first
  | with_reducible (first | refine Rd.p ?_ | refine w_alt ?_ ?_ | refine zO ?_ | refine zE0 ?_)
  | with_reducible refine zI fun y hy=>?_ | refine advL ?_
  | refine adv ?_ | with_reducible (first | intro _ | refine Rt.p (fun _=>?_) fun _=>?_)
  | ((with_reducible apply w_ixM);(focus exact rfl);(focus exact rfl);case' hk=>intro y hy) | ((with_reducible (first | apply w_val | apply q_ends));(focus exact rfl)))
 all_goals first
  | exact⟨(_,_),rfl,rfl,rfl,trivial⟩
def ir7:IFn:=
 ⟨103,[(2,none)],(.seq (.ops [oo 2 (.mov (kB false))])
 (.seq (.ops [oo 18 (.mov 0),
 oo 19 (.callF 15 [18]),
 oo 3 (.mov 19)])
 (.seq (.ops [oo 20 (.mov 3),
 oo 21 (.callF 32 [20,(kI 3)]),
 oo 22 (.bld [.nsl,.nsl] [(0,1,21)]),
 oo 4 (.new [.nsl,.nsl]),
 ⟨none,none,(.st 2 4 22)⟩])
 (.seq (.ops [oo 5 (.mov (kI 0))])
 (.seq (.seq (.ops [oo 23 (.mov 3),
 oo 24 (.callF 30 [23,(kI 2),(kI 5)]),
 oo 6 (.mov 24)])
 (.blk 0 (.loop (.seq (.seq (.ops [oo 25 (.mov 6),
 oo 26 (.bin .gtr 25 (kI 0))])
 (.cnd 26
 .skip
 (.exit 0)))
 (.seq (.blk 1 (.seq (.ops [oo 29 (.flA 1 4),
 oo 30 (.ld 1 false 29),
 oo 31 (.mov 3),
 oo 32 (.flA 0 4),
 oo 33 (.ld 1 false 32),
 oo 34 (.len false 33),
 oo 35 (.callF 31 [31,34]),
 ⟨none,none,(.chk 1 false 29 30)⟩,
 oo 36 (.bld [(.int .i64 0),(.int .i64 0),(.int .i64 0),(.int .i64 0),(.int .i64 0)] [(0,1,(kI 2)),(3,1,35),(4,1,(kI 1))]),
 oo 37 (.bsl 5 [[(.int .i64 0),(.int .i64 0),(.int .i64 0),(.int .i64 0),(.int .i64 0)]] [(0,36)]),
 oo 38 (.app 5 40 30 37 38),
 oo 39 (.flA 1 4),
 ⟨none,none,(.st 1 39 38)⟩])
 (.ops [oo 40 (.mov 5),
 oo 41 (.bin .add 40 (kI 1)),
 oo 5 (.mov 41)])))
 (.ops [oo 27 (.mov 6),
 oo 28 (.bin .sub 27 (kI 1)),
 oo 6 (.mov 28)]))))))
 (.seq (.ops [oo 42 (.mov 3),
 oo 43 (.mov 5),
 oo 44 (.bin .sub 43 (kI 1)),
 oo 45 (.callF 30 [42,(kI 1),44]),
 oo 7 (.mov 45)])
 (.seq (.ops [oo 46 (.mov 7),
 oo 47 (.bld [(.int .i64 0),(.int .i64 0),(.int .i64 0),(.int .i64 0),(.int .i64 0)] [(0,1,(kI 4)),(4,1,46)]),
 oo 48 (.mov 3),
 oo 49 (.mov 5),
 oo 50 (.mov 7),
 oo 51 (.bin .sub 49 50),
 oo 52 (.callF 30 [48,(kI 1),51]),
 oo 53 (.bld [(.int .i64 0),(.int .i64 0),(.int .i64 0),(.int .i64 0),(.int .i64 0)] [(0,1,(kI 5)),(4,1,52)]),
 oo 8 (.new [(.int .i64 0),(.int .i64 0),(.int .i64 0),(.int .i64 0),(.int .i64 0)]),
 oo 9 (.new [(.int .i64 0),(.int .i64 0),(.int .i64 0),(.int .i64 0),(.int .i64 0)]),
 ⟨none,none,(.st 5 8 47)⟩,
 ⟨none,none,(.st 5 9 53)⟩])
 (.seq (.ops [⟨none,none,(.kil 10)⟩,
 ⟨none,none,(.kil 11)⟩,
 oo 54 (.ld 2 true 4),
 oo 56 (.ld 2 true 4),
 oo 55 (.callF 17 [54]),
 ⟨none,none,(.chk 2 true 4 56)⟩,
 oo 57 (.callF 17 [56]),
 oo 10 (.new [.nsl,.nsl]),
 oo 11 (.new [.nsl,.nsl]),
 ⟨none,none,(.st 2 10 55)⟩,
 ⟨none,none,(.st 2 11 57)⟩])
 (.seq (.ops [oo 58 (.flA 1 10),
 oo 59 (.ld 1 false 58),
 oo 60 (.ld 5 true 8),
 oo 61 (.ld 5 true 9),
 oo 62 (.bsl 5 [[(.int .i64 0),(.int .i64 0),(.int .i64 0),(.int .i64 0),(.int .i64 0)],[(.int .i64 0),(.int .i64 0),(.int .i64 0),(.int .i64 0),(.int .i64 0)]] [(0,60),(1,61)]),
 oo 64 (.flA 1 11),
 oo 65 (.ld 1 false 64),
 oo 66 (.ld 5 true 9),
 oo 67 (.ld 5 true 8),
 oo 68 (.bsl 5 [[(.int .i64 0),(.int .i64 0),(.int .i64 0),(.int .i64 0),(.int .i64 0)],[(.int .i64 0),(.int .i64 0),(.int .i64 0),(.int .i64 0),(.int .i64 0)]] [(0,66),(1,67)]),
 oo 63 (.app 5 40 59 62 63),
 ⟨none,none,(.chk 1 false 64 65)⟩,
 ⟨none,none,(.chk 5 true 9 66)⟩,
 ⟨none,none,(.chk 5 true 8 67)⟩,
 oo 70 (.flA 1 10),
 oo 69 (.app 5 40 65 68 69),
 ⟨none,none,(.st 1 70 63)⟩,
 oo 71 (.flA 1 11),
 ⟨none,none,(.st 1 71 69)⟩])
 (.seq (.ops [oo 73 (.ld 2 true 10),
 oo 74 (.callF 21 [73]),
 oo 72 (.mov 74),
 oo 75 (.ext 0 72),
 oo 76 (.ext 1 72),
 oo 77 (.ext 2 72),
 oo 12 (.mov 75),
 oo 13 (.mov 76),
 oo 14 (.mov 77)])
 (.seq (.ops [oo 79 (.ld 2 true 11),
 oo 80 (.callF 21 [79]),
 oo 78 (.mov 80),
 oo 81 (.ext 0 78),
 oo 82 (.ext 1 78),
 oo 83 (.ext 2 78),
 oo 15 (.mov 81),
 oo 16 (.mov 82),
 oo 17 (.mov 83)])
 (.seq (.ops [oo 84 (.mov 14),
 oo 85 (.bin .eql 84 (kI 0)),
 oo 86 (.mov 85),
 ⟨(some 87),(some (86,true)),(.mov 17)⟩,
 ⟨(some 88),(some (86,true)),(.bin .eql 87 (kI 0))⟩,
 oo 89 (.pick 86 88 (kB false)),
 oo 90 (.mov 89),
 ⟨(some 91),(some (90,true)),(.mov 12)⟩,
 ⟨(some 92),(some (90,true)),(.mov 15)⟩,
 ⟨(some 93),(some (90,true)),(.callF 23 [91,92])⟩,
 oo 94 (.pick 90 93 (kB false)),
 oo 95 (.mov 94),
 ⟨(some 96),(some (95,true)),(.mov 13)⟩,
 ⟨(some 97),(some (95,true)),(.mov 16)⟩,
 ⟨(some 98),(some (95,true)),(.callF 24 [96,97])⟩,
 oo 99 (.pick 95 98 (kB false)),
 oo 100 (.mov 99),
 ⟨(some 101),(some (100,true)),(.callF 13 [])⟩,
 oo 102 (.pick 100 101 (kB false)),
 oo 2 (.mov 102)])
 .ret))))))))))))⟩
def hint7 (P:Program):Hint:={}
def spV (D:List Dl) (g:Nat):AV:=match D with
 | []=> .nsl
 | _::_=> .slc 5 (dlR D) (.own 38 g)
def spX (D:List Dl) (g:Nat):Nat×Res:=match D with
 | []=>(0,.dead)
 | _::_=>(g,.row [])
theorem spV_snoc {g4:Nat} {ws:List Wd} {x:Dl} {l:List Dl} (d:Dl) (g:Nat):(g4,Res.row [AV.slc 2 (wR ws) .non,.slc 5 (dlR (x::l)++[d.row]) (.own 38 g)])=(g4,Res.row [AV.slc 2 (wR ws) .non,spV (x::l++[d]) g]):=by
 show _=(g4,Res.row [AV.slc 2 (wR ws) .non,.slc 5 (dlR (x::l++[d])) (.own 38 g)])
 rw[show dlR (x::l++[d])=dlR (x::l)++[d.row] from List.map_append]
def mxT (k:Nat):Tb:={tb0 with mixed:=(k:Int),bags:=[(k:Int),0,0,0] }
theorem mxT_snoc {n:Nat} {D:List Dl} {w:Int} (h:mkG n D (mxT D.length) 0) (hw:0≤w∧w<n) (hl:D.length<12):mkG n (D++[⟨2,0,0,w,1⟩]) (mxT (D++[(⟨2,0,0,w,1⟩:Dl)]).length) 0:=by
 have:=h.mix (b:=0) (w:=w) (c:=1) (by omega) hw (by omega) (by show (D.length:Int)+1≤12;omega)
 have e:mxT (D++[(⟨2,0,0,w,1⟩:Dl)]).length={mxT D.length with mixed:=(mxT D.length).mixed+1,bags:=setI (mxT D.length).bags 0 (atI (mxT D.length).bags 0+1) }:=by
  rw[len_snoc]
  show mxT _={mxT D.length with mixed:=(D.length:Int)+1,bags:=[(D.length:Int)+1,0,0,0] }
  unfold mxT
  simp
 rw[e];exact this
theorem spared_all {ws:List Wd} {D:List Dl} {s k:Int} (hmk:mkG ws.length D (mxT D.length) 0) (hmw:madeW ws) (hw1:1≤ws.length) (hw2:(ws.length:Int)≤3) (hD:D.length≤5) (hs:1≤s) (hk:1≤k) (hsk:s+k≤D.length):
  ∃L,crsO ⟨ws,D++[⟨4,0,0,0,s⟩,⟨5,0,0,0,k⟩]⟩=(L,0)∧crsO ⟨ws,D++[⟨5,0,0,0,k⟩,⟨4,0,0,0,s⟩]⟩=(L,0):=by
 have hb:atI (mxT D.length).bags 0=D.length:=rfl
 have hc:(mxT D.length).cens=0:=rfl
 have a1:=hmk.aside (b:=0) (c:=s) (by omega) (by omega)
 have a2:=a1.pass (b:=0) (c:=k) (by omega) (by show 1≤k∧k≤(D.length:Int)-s;omega) (by show (0:Int)+k≤9;omega)
 have b1:=hmk.pass (b:=0) (c:=k) (by omega) (by omega) (by omega)
 have b2:=b1.aside (b:=0) (c:=s) (by omega) (by show 1≤s∧s≤(D.length:Int)-k;omega)
 rw[List.append_assoc] at a2 b2
 have hx:=(mkG.made (G:=⟨ws,D++[⟨4,0,0,0,s⟩,⟨5,0,0,0,k⟩]⟩) (woods:=3) (drawn:=5) (cens:=4) a2 hmw hw1 hw2 (by decide) (by simp;omega) (by omega) (by show 1≤(0:Int)+k∧(0:Int)+k≤4;omega)).e
 have hy:=(mkG.made (G:=⟨ws,D++[⟨5,0,0,0,k⟩,⟨4,0,0,0,s⟩]⟩) (woods:=3) (drawn:=5) (cens:=4) b2 hmw hw1 hw2 (by decide) (by simp;omega) (by omega) (by show 1≤(0:Int)+k∧(0:Int)+k≤4;omega)).e
 have hmix:censG (stepsG D)=0:=by
  have h:=deals_run D tb0 tb0_ok hmk.e
  have e1:(dsTab tb0 D).cens=0:=by rw[hmk.t];rfl
  have e2:=h.2.2
  have e3:tb0.cens=0:=rfl
  omega
 have hcx:censG (stepsG (D++[⟨4,0,0,0,s⟩,⟨5,0,0,0,k⟩]))≤4:=by
  rw[stepsG_app,censG_app,hmix]
  have:censG (stepsG [⟨4,0,0,0,s⟩,⟨5,0,0,0,k⟩])=k.toNat:=by
   show censG (List.replicate s.toNat ((⟨4,0,0,0,s⟩:Dl),true,false)++(List.replicate k.toNat ((⟨5,0,0,0,k⟩:Dl),true,true)++[]))=_
   simp[censG]
  omega
 have hok:=crsO_ok hx (a:=3) (b:=4) (by show ws.length≤3;omega) hcx (by decide)
 exact⟨_,hok,by rw[←spared hx hy];exact hok⟩
theorem gameSpared_c (nums:List Int) (hn:nums.length<2^62):Fn0 Try.prog 7 [.slc 1 (iR nums) .non] (fun v=>v= .bool true):=by
 refine RawC.walk (H:=hint7 Try.prog) ir7 Try.func7 rfl rfl rfl ?_
 unfold ir7
 repeat' (first
  | refine advE ?_ | with_reducible refine w_alt ?_ ?_
  | with_reducible refine zI fun y hy=>?_ | refine advL ?_
  | ((with_reducible refine acall_id ?_);refine ACall.liftS (boxOf_s nums hn) [] (some 6) rfl rfl rfl trivial (fun _=>rfl) ?_;rintro⟨gb,w⟩ _ rfl)
  | ((with_reducible refine acall_id ?_);refine ACall.box (woodsOf_c _ _ _ (by decide)) rfl rfl rfl ?_;rintro _ _ ⟨ws,rfl,hmw,hw1,hw2⟩)
  | ((with_reducible refine acall_id ?_);refine ACall.box (any_c _ _ 2 5 (by decide) (by decide) (by decide) (by decide)) rfl rfl rfl ?_;rintro _ _ ⟨m,rfl,hm1,hm2⟩)
  | refine adv ?_ | with_reducible (first | intro _ | refine Rt.p (fun _=>?_) fun _=>?_)
  | ((with_reducible apply w_ixM);(focus exact rfl);(focus exact rfl);case' hk=>intro y hy) | ((with_reducible (first | apply w_val | apply q_ends));(focus exact rfl)))
 rename_i w1 g4 w2
 have hwl:(wR ws).length=ws.length:=List.length_map _
 refine w_loopK [3,4,87,88,91,92,93,96,97,98,101] [] (fun x:List Dl×Nat×Int×Nat=>mkG ws.length x.1 (mxT x.1.length) 0∧(x.1.length:Int)+x.2.2.2=m) (fun x=>x.2.2.2) (fun x=>[(5,.int .i64 (x.1.length:Int)),(6,.int .i64 (x.2.2.2:Int))]) (fun x=>[(19,(gb,.row [.int .u64 x.2.2.1])),(4,(g4,.row [.slc 2 (wR ws) .non,spV x.1 x.2.1])),(38,spX x.1 x.2.1)]) ([],0,w2,m.toNat) ⟨mkG.nil _,by show ((([]:List Dl).length:Nat):Int)+_=m;simp;omega⟩ ⟨rfl,int_eq (by simp;omega),trivial⟩ ⟨rfl,rfl,rfl,trivial⟩ ?_
 rintro⟨D,gd,w,j⟩ ⟨hmk,hj⟩ e σ
 dsimp only at hmk hj ⊢
 cases j with
 | succ j=>
   have hj1:((j+1:Nat):Int)=j+1:=by simp
   cases D with
   | nil=>
     have hz:([]:List Dl).length=0:=rfl
     repeat' (first
      | refine advE ?_ | with_reducible refine w_alt ?_ ?_
      | with_reducible refine zI fun y hy=>?_ | refine advL ?_
      | ((with_reducible refine acall_id ?_);refine ACall.box (upp_c _ _ _ (by omega) (by omega)) rfl rfl rfl ?_;rintro _ _ ⟨wd,rfl,hd1,hd2⟩)
      | refine adv ?_ | with_reducible (first | intro _ | refine Rt.p (fun _=>?_) fun _=>?_)
      | ((with_reducible apply w_ixM);(focus exact rfl);(focus exact rfl);case' hk=>intro y hy) | ((with_reducible (first | apply w_val | apply q_ends));(focus exact rfl)))
     all_goals first
      | (exfalso;omega)
      | exact q_loop ([⟨2,0,0,wd,1⟩],_,_,j) ⟨mxT_snoc hmk ⟨hd1,by omega⟩ (by decide),by show ((([(⟨2,0,0,wd,1⟩:Dl)]).length:Nat):Int)+_=m;simp at hj ⊢;omega⟩ (Nat.lt_succ_self _) ⟨rfl,int_eq (by simp),trivial⟩ ⟨rfl,rfl,rfl,trivial⟩ (by repeat' (first | exact kept_nil | apply kept_cons | rfl)) (by repeat' (first | exact kept_nil | apply kept_cons | rfl))
   | cons x l=>
     have hxl:(dlR (x::l)).length=(x::l).length:=List.length_map _
     repeat' (first
      | refine advE ?_ | with_reducible refine w_alt ?_ ?_
      | with_reducible refine zI fun y hy=>?_ | refine advL ?_
      | ((with_reducible refine acall_id ?_);refine ACall.box (upp_c _ _ _ (by omega) (by omega)) rfl rfl rfl ?_;rintro _ _ ⟨wd,rfl,hd1,hd2⟩)
      | refine adv ?_ | with_reducible (first | intro _ | refine Rt.p (fun _=>?_) fun _=>?_)
      | ((with_reducible apply w_ixM);(focus exact rfl);(focus exact rfl);case' hk=>intro y hy) | ((with_reducible (first | apply w_val | apply q_ends));(focus exact rfl)))
     all_goals first
      | (exfalso;omega)
      | exact q_loop (x::l++[⟨2,0,0,wd,1⟩],_,_,j) ⟨mxT_snoc hmk ⟨hd1,by omega⟩ (by omega),by dsimp only;rw[len_snoc];omega⟩ (Nat.lt_succ_self _) ⟨by rw[len_snoc];rfl,int_eq (by simp),trivial⟩ ⟨rfl,spV_snoc ⟨2,0,0,wd,1⟩ _,rfl,trivial⟩ (by repeat' (first | exact kept_nil | apply kept_cons | rfl)) (by repeat' (first | exact kept_nil | apply kept_cons | rfl))
 | zero=>
   cases D with
   | nil=>
     exfalso
     have hz:([]:List Dl).length=0:=rfl
     omega
   | cons x l=>
     have hxl:(dlR (x::l)).length=(x::l).length:=List.length_map _
     have hz:((0:Nat):Int)=0:=rfl
     repeat' (first
      | refine advE ?_ | with_reducible refine w_alt ?_ ?_
      | with_reducible refine zI fun y hy=>?_ | refine advL ?_
      | ((with_reducible refine acall_id ?_);refine ACall.box (any_c _ _ _ _ (by omega) (by omega) (by omega) (by omega)) rfl rfl rfl ?_;rintro _ _ ⟨s,rfl,hs1,hs2⟩)
      | ((with_reducible refine acall_id ?_);(first | refine ACall.liftNS (d:=55) (ownGameS_c ⟨ws,x::l⟩ (by dsimp only;omega) (by dsimp only;omega) (by intro h;dsimp only at h;rw[h] at hw1;simp at hw1) (by simp)) [] [(6,3106),(10,3110)] rfl rfl rfl rfl trivial (fun _=>rfl) ?_ | refine ACall.liftNS (d:=57) (ownGameS_c ⟨ws,x::l⟩ (by dsimp only;omega) (by dsimp only;omega) (by intro h;dsimp only at h;rw[h] at hw1;simp at hw1) (by simp)) [] [(6,3206),(10,3210)] rfl rfl rfl rfl trivial (fun _=>rfl) ?_);rintro⟨g6,g10⟩ _ rfl)
      | refine adv ?_ | with_reducible (first | intro _ | refine Rt.p (fun _=>?_) fun _=>?_)
      | ((with_reducible apply w_ixM);(focus exact rfl);(focus exact rfl);case' hk=>intro y hy) | ((with_reducible (first | apply w_val | apply q_ends));(focus exact rfl)))
     rename_i _ s1 hs3 hs4 _ _ _ _ _ _ _ _ _
     have hD5:(x::l).length≤5:=by omega
     obtain⟨L,hX,hY⟩:=spared_all (ws:=ws) (D:=x::l) (s:=s1) (k:=s) hmk hmw hw1 hw2 hD5 hs3 hs1 (by omega)
     have hlen:∀a b:Dl,(x::l++[a,b]).length<1000:=fun a b=>by rw[List.length_append];show _+2<1000;omega
     have hws:∀w∈ws,w.name.size≤1000:=fun w hw=>by have:=(madeW_ok hmw).2 w hw;omega
     have hC:=fun a b:Dl=>subV2 (courses_f ⟨ws,x::l++[a,b]⟩ (invW ws.length) (by show ws.length<1000;omega) (hlen a b) hws gmOK) (sub_crsA _ _)
     have hC1:=hC ⟨4,0,0,0,s1⟩ ⟨5,0,0,0,s⟩
     have hC2:=hC ⟨5,0,0,0,s⟩ ⟨4,0,0,0,s1⟩
     have hap:∀a b:Dl,dlR (x::l++[a,b])=dlR (x::l)++[a.row,b.row]:=fun a b=>List.map_append
     obtain⟨b1,b2⟩:=crsO_bd ⟨ws,x::l++[⟨4,0,0,0,s1⟩,⟨5,0,0,0,s⟩]⟩
     rw[hX] at hC1 b1 b2
     dsimp only at b1 b2
     rw[hY] at hC2
     simp only[gmA,hap] at hC1 hC2
     clear hC hap hX hY
     have hE:=eqLists_c (L.map (·.1)) (L.map (·.1)) (by rw[List.length_map];omega) (fun l hl=>by
      obtain⟨x,hx,rfl⟩:=List.mem_map.1 hl
      have:=b2 x hx;omega)
     rw[decide_eq_true rfl] at hE
     have hE2:=eq_c (L.map (·.2)) (L.map (·.2)) (by rw[List.length_map];omega)
     rw[decide_eq_true rfl] at hE2
     repeat' (first
      | refine advE ?_ | with_reducible refine w_alt ?_ ?_
      | with_reducible refine zI fun y hy=>?_ | refine advL ?_
      | ((with_reducible refine acall_id ?_);refine ACall.val awake_c rfl rfl ?_)
      | ((with_reducible refine acall_id ?_);refine ACall.val hC1 rfl rfl ?_)
      | ((with_reducible refine acall_id ?_);refine ACall.val hC2 rfl rfl ?_)
      | ((with_reducible refine acall_id ?_);refine ACall.val hE rfl rfl ?_)
      | ((with_reducible refine acall_id ?_);refine ACall.val hE2 rfl rfl ?_)
      | refine adv ?_ | with_reducible (first | intro _ | refine Rt.p (fun _=>?_) fun _=>?_)
      | ((with_reducible apply w_ixM);(focus exact rfl);(focus exact rfl);case' hk=>intro y hy) | ((with_reducible (first | apply w_val | apply q_ends));(focus exact rfl)))
     all_goals first
      | (exfalso;omega)
      | rfl
end Go.Abs
