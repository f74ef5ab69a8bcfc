/- A part of the proofs of the laws of this seat: contracts of the functions that they reach, each proved of the program's form in Lean. No condition beyond those that each contract names. -/
import Derived.Test.YtecogfpnfhkibaaProg
import Derived.Test.YtecogfpnfhkibaaSnd3
import Derived.Test.YtecogfpnfhkibaaA0
import Derived.Test.YtecogfpnfhkibaaN1a
import Derived.Test.YtecogfpnfhkibaaN1b
import Derived.Test.YtecogfpnfhkibaaN1c
import Derived.Test.YtecogfpnfhkibaaN1d
import Derived.Test.YtecogfpnfhkibaaN1e
import Derived.Test.YtecogfpnfhkibaaN1f
import Derived.Test.YtecogfpnfhkibaaN1g
import Derived.Test.YtecogfpnfhkibaaN2a
import Derived.Test.YtecogfpnfhkibaaN2b
import Derived.Test.YtecogfpnfhkibaaN2c
import Derived.Test.YtecogfpnfhkibaaN4a
set_option linter.unusedVariables false
set_option linter.unusedSimpArgs false
set_option maxRecDepth 20000
set_option maxHeartbeats 4000000
namespace Go.Abs
open Go.Proofs
theorem lsum_nn {f:List Int→Int}:∀{L:List (List Int)},(∀s∈L,0≤f s)→0≤lsum L f
 | [],_=>Int.le_refl _
 | a::r,h=>by
   have:=lsum_nn (L:=r) fun s hs=>h s (by simp[hs])
   have:=h a (by simp)
   rw[lsum_cons];omega
theorem lsum_mem {f:List Int→Int}:∀{L:List (List Int)},(∀s∈L,0≤f s)→ ∀s∈L,f s≤lsum L f
 | a::r,h,s,hs=>by
   have h1:=lsum_nn (L:=r) fun s hs=>h s (by simp[hs])
   have h2:=h a (by simp)
   rw[lsum_cons]
   rcases List.mem_cons.1 hs with rfl | hs
   · omega
   · have:=lsum_mem (L:=r) (fun s hs=>h s (by simp[hs])) s hs
     omega
theorem nSum_more {n:Nat} {f:Int→Int}:∀m:Nat,(∀k:Nat,n≤k→k<n+m→f k=0)→nSum (n+m) f=nSum n f
 | 0,_=>rfl
 | m+1,h=>by
   show nSum (n+m) f+f ((n+m:Nat):Int)=_
   rw[nSum_more m fun k h1 h2=>h k h1 (by omega),h (n+m) (by omega) (by omega)];omega
theorem cntP_nil {n:Nat} (hn:n≤6):∀{l:List Sp} {b:List Int} {m:Int} {B:List Int},tbIn b m→runOK n l b m→bgT n b B→cntP l [] B=szP l b
 | [],_,_,_,_,_,_=>rfl
 | x::r,b,m,B,ht,hr,hB=>by
   have hx:=hr.1
   have ht2:=(ht.step hx).1
   rw[cntP,szP]
   by_cases hd:x.2.1=true
   · obtain⟨hb,ha⟩:=hx.d hd
     have hs:=hB.size hb
     obtain⟨hp,hq⟩:=pickW_ok (B:=B) (i:=x.1.bag) (p:=0) (Int.le_refl _) (by rw[hs];omega)
     have hB2:=hB.draw ht.l hn hb hp hq
     rw[if_pos hd,if_pos hd,hs]
     have e:spB x b=setI b x.1.bag (atI b x.1.bag+ -1):=by unfold spB;rw[if_pos hd]
     rw[cntP_nil hn ht2 hr.2 (by rw[e];exact hB2)]
   · have hdf:x.2.1=false:=by simpa using hd
     rw[if_neg hd,if_neg hd,Int.one_mul]
     have hB2:=hB.mix ht.l hn hx hdf
     have:=cntP_nil hn ht2 hr.2 hB2
     split<;>exact this
theorem cntP_sum {n:Nat} (hn:n≤6):∀{l:List Sp} {b:List Int} {m:Int} {B:List Int} {c:List Int},tbIn b m→runOK n l b m→wdOK n l→bgT n b B→c.length≤censG l→(∀w∈c,0≤w∧w<n)→cntP l c B=lsum (allL n (censG l-c.length)) (fun s=>cntG n l (c++s) B)
 | l,b,m,B,[],ht,hr,hw,hB,_,_=>by
   rw[cntP_nil hn ht hr hB,←cnt_tot hn ht hr hw hB];rfl
 | [],_,_,_,w::c,_,_,_,_,h,_=>by simp[censG] at h
 | x::r,b,m,B,w::c,ht,hr,hw,hB,hl,hcw=>by
   have hx:=hr.1
   have ht2:=(ht.step hx).1
   have hwr:wdOK n r:=fun y hy=>hw y (by simp[hy])
   have hw0:=hcw w (by simp)
   have hnn:=hB.nn
   rw[censG_cons] at hl ⊢
   rw[List.length_cons] at hl ⊢
   rw[cntP]
   have hdr:x.2.1=true→ ∀(c':List Int),c'.length≤censG r→(∀w∈c',0≤w∧w<n)→ ∀v:Int,0≤v→v<n→bgAt B x.1.bag v*cntP r c' (drawB B x.1.bag v)=lsum (allL n (censG r-c'.length)) fun s=>bgAt B x.1.bag v*cntG n r (c'++s) (drawB B x.1.bag v):=fun hd c' h1 h2 v hv0 hv=>by
    obtain⟨hb,ha⟩:=hx.d hd
    rw[lsum_mul]
    by_cases h0:bgAt B x.1.bag v=0
    · rw[h0,Int.zero_mul,Int.zero_mul]
    · have hp:=bgAt_nn hnn x.1.bag v
      have hB2:=hB.draw ht.l hn hb (w:=v) (by omega) (by omega)
      have e:spB x b=setI b x.1.bag (atI b x.1.bag+ -1):=by unfold spB;rw[if_pos hd]
      rw[cntP_sum hn ht2 hr.2 hwr (by rw[e];exact hB2) h1 h2]
   by_cases hd:x.2.1=true
   · obtain⟨hb,ha⟩:=hx.d hd
     rw[if_pos hd]
     by_cases hc:x.2.2=true
     · simp only[if_pos hc] at hl ⊢
       rw[nSum_one (fun v=>bgAt B x.1.bag v*cntP r c (drawB B x.1.bag v)) w 6,if_pos (by omega),hdr hd c (by omega) (fun v hv=>hcw v (by simp[hv])) w hw0.1 hw0.2,show 1+censG r-(c.length+1)=censG r-c.length by omega]
       refine lsum_congr fun s _=>?_
       rw[List.cons_append,cntG_t hc]
       unfold nextV
       rw[if_pos hd,if_pos hc]
     · simp only[if_neg hc] at hl ⊢
       have hz:∀k:Nat,n≤k→k<n+(6-n)→bgAt B x.1.bag (k:Int)*cntP r (w::c) (drawB B x.1.bag k)=0:=fun k h1 h2=>by
        rw[hB.z x.1.bag k hb (by omega),Int.zero_mul]
       have:=nSum_more (f:=fun v=>bgAt B x.1.bag v*cntP r (w::c) (drawB B x.1.bag v)) (6-n) hz
       rw[show n+(6-n)=6 by omega] at this
       rw[this,Nat.zero_add]
       have e:lsum (allL n (censG r-(c.length+1))) (fun s=>cntG n (x::r) (w::c++s) B)=lsum (allL n (censG r-(c.length+1))) (fun s=>nSum n fun v=>bgAt B x.1.bag v*cntG n r (w::c++s) (drawB B x.1.bag v)):=lsum_congr fun s _=>by
        rw[cntG_f hc]
        unfold nextV
        rw[if_pos hd,if_neg hc]
       rw[e,lsum_nSum]
       refine nSum_congr fun v hv=>?_
       exact hdr hd (w::c) (by simp;omega) hcw v (by omega) (by omega)
   · have hdf:x.2.1=false:=by simpa using hd
     have hB2:=hB.mix ht.l hn hx hdf
     rw[if_neg hd]
     by_cases hc:x.2.2=true
     · simp only[if_pos hc] at hl ⊢
       rw[show 1+censG r-(c.length+1)=censG r-c.length by omega]
       by_cases hwx:w=x.1.wood
       · rw[if_pos hwx,cntP_sum hn ht2 hr.2 hwr hB2 (by omega) fun v hv=>hcw v (by simp[hv])]
         refine lsum_congr fun s _=>?_
         rw[List.cons_append,cntG_t hc]
         unfold nextV
         rw[if_neg hd,if_neg (by rintro⟨_,h⟩;exact h hwx.symm)]
       · rw[if_neg hwx,←lsum_zero (allL n (censG r-c.length))]
         refine lsum_congr fun s _=>?_
         rw[List.cons_append,cntG_t hc]
         unfold nextV
         rw[if_neg hd,if_pos ⟨hc,fun h=>hwx h.symm⟩]
     · simp only[if_neg hc] at hl ⊢
       rw[Nat.zero_add,cntP_sum hn ht2 hr.2 hwr hB2 (by simp;omega) hcw]
       refine lsum_congr fun s _=>?_
       rw[cntG_f hc]
       unfold nextV
       rw[if_neg hd,if_neg (fun h=>hc h.1)]
def crsR (n:Nat) (l:List Sp) (B:List Int):Nat→List Int→List (List Int×Int)
 | 0,c=>if cntP l c B=0 then[] else[(c,cntP l c B)]
 | k+1,c=>if cntP l c B=0 then[] else (List.range n).flatMap fun (w:Nat)=>crsR n l B k (c++[(w:Int)])
theorem flat_congr {α β:Type} {f g:α→List β}:∀{l:List α},(∀x∈l,f x=g x)→l.flatMap f=l.flatMap g
 | [],_=>rfl
 | a::r,h=>by rw[List.flatMap_cons,List.flatMap_cons,h a (by simp),flat_congr fun x hx=>h x (by simp[hx])]
theorem crsR_eq {n:Nat} (hn:n≤6) {l:List Sp} {b:List Int} {m:Int} {B:List Int} (ht:tbIn b m) (hr:runOK n l b m) (hw:wdOK n l) (hB:bgT n b B):∀(k:Nat) (c:List Int),c.length+k=censG l→(∀w∈c,0≤w∧w<n)→crsR n l B k c=((allL n k).filter fun s=>decide (0<cntG n l (c++s) B)).map fun s=>(c++s,cntG n l (c++s) B)
 | 0,c,hl,hc=>by
   have h:=cntP_sum hn ht hr hw hB (by omega) hc
   rw[show censG l-c.length=0 by omega] at h
   have h2:cntP l c B=cntG n l c B:=by
    rw[h];show cntG n l (c++[]) B+0=_;rw[List.append_nil];omega
   have h0:=cntG_nn n (run_stOK hr) c hB.nn
   rw[crsR,h2]
   show _=([[]].filter fun s=>decide (0<cntG n l (c++s) B)).map _
   by_cases e:cntG n l c B=0
   · rw[if_pos e,List.filter_cons,List.append_nil,e];rfl
   · rw[if_neg e,List.filter_cons,List.append_nil,if_pos (by simp;omega)];simp
 | k+1,c,hl,hc=>by
   have h:=cntP_sum hn ht hr hw hB (by omega) hc
   rw[show censG l-c.length=k+1 by omega] at h
   have hnn:∀s,0≤cntG n l (c++s) B:=fun s=>cntG_nn n (run_stOK hr) _ hB.nn
   rw[crsR]
   by_cases e:cntP l c B=0
   · rw[if_pos e]
     rw[e] at h
     have:((allL n (k+1)).filter fun s=>decide (0<cntG n l (c++s) B))=[]:=List.filter_eq_nil_iff.2 fun s hs=>by
      have h1:=lsum_mem (f:=fun s=>cntG n l (c++s) B) (fun s _=>hnn s) s hs
      simp;omega
     rw[this];rfl
   · rw[if_neg e,allL,List.filter_flatMap,List.map_flatMap]
     refine flat_congr fun w hwn=>?_
     have hwn:=List.mem_range.1 hwn
     rw[crsR_eq hn ht hr hw hB k (c++[(w:Int)]) (by simp;omega) (fun v hv=>by
      rcases List.mem_append.1 hv with hv | hv
      · exact hc v hv
      · rw[List.mem_singleton.1 hv];omega),List.filter_map,List.map_map]
     simp only[Function.comp_def,List.append_assoc,List.singleton_append]
theorem wdOK_nrm {n:Nat} {l:List Sp} (h:wdOK n l):wdOK n (l.map nrm):=fun y hy h1 h2=>by
 obtain⟨x,hx,rfl⟩:=List.mem_map.1 hy
 rw[nrm_2] at h1 h2
 rw[(nrm_bag x).2.1]
 exact h x hx h1 h2
theorem censG_nrm:∀l:List Sp,censG (l.map nrm)=censG l
 | []=>rfl
 | x::r=>by rw[List.map_cons,censG_cons,censG_cons,nrm_2,censG_nrm r]
theorem nextV_nrm (x:Sp) (w:Int) (n:Nat) (V:List Int→Int) (B:List Int):nextV (nrm x) w n V B=nextV x w n V B:=by
 by_cases h:x.2.1=true
 · unfold nextV;rw[nrm_2,if_pos h,if_pos h,(nrm_bag x).1]
 · rw[nrm_f (by simpa using h)]
theorem cntG_nrm (n:Nat):∀(l:List Sp) (c B:List Int),cntG n (l.map nrm) c B=cntG n l c B
 | [],c,B=>rfl
 | x::r,c,B=>by
   have ih:∀c,cntG n (r.map nrm) c=cntG n r c:=fun c=>funext fun B=>cntG_nrm n r c B
   rw[List.map_cons]
   by_cases h:x.2.2=true
   · have h':(nrm x).2.2=true:=by rw[nrm_2];exact h
     cases c with
     | nil=>rw[cntG_n h',cntG_n h]
     | cons w c=>rw[cntG_t h',cntG_t h,nextV_nrm,ih]
   · have h':¬(nrm x).2.2=true:=by rw[nrm_2];exact h
     rw[cntG_f h',cntG_f h,nextV_nrm,ih]
def ir41:IFn:=
 ⟨33,[(2,none)],(.seq (.ops [oo 1 (.box 2 0),
 oo 2 (.mov (kI 0))])
 (.seq (.ops [oo 3 (.mov (kI 0))])
 (.seq (.seq (.ops [oo 4 (.mov (kI 0))])
 (.blk 0 (.loop (.seq (.seq (.ops [oo 5 (.mov 4),
 oo 6 (.flA 1 1),
 oo 7 (.ld 1 false 6),
 oo 8 (.len false 7),
 oo 9 (.bin .lss 5 8)])
 (.cnd 9
 .skip
 (.exit 0)))
 (.seq (.blk 1 (.seq (.ops [oo 12 (.flA 1 1),
 oo 13 (.ld 1 false 12),
 oo 14 (.mov 4),
 oo 15 (.ixA 5 13 14),
 oo 16 (.flA 0 15),
 oo 17 (.ld 1 false 16)])
 (.blk 2 (.seq (.ops [oo 19 (.bin .eql 17 (kI 5)),
 oo 18 (.mov 19)])
 (.cnd 18
 (.ops [oo 20 (.mov 3),
 oo 21 (.flA 1 1),
 oo 22 (.ld 1 false 21),
 oo 23 (.mov 4),
 oo 24 (.ixA 5 22 23),
 oo 25 (.flA 4 24),
 oo 26 (.ld 1 false 25),
 oo 27 (.bin .add 20 26),
 oo 3 (.mov 27)])
 (.seq (.ops [oo 29 (.bin .eql 17 (kI 6)),
 oo 28 (.mov 29)])
 (.cnd 28
 (.ops [oo 30 (.mov 3),
 oo 31 (.bin .add 30 (kI 1)),
 oo 3 (.mov 31)])
 .skip)))))))
 (.ops [oo 10 (.mov 4),
 oo 11 (.bin .add 10 (kI 1)),
 oo 4 (.mov 11)]))))))
 (.seq (.ops [oo 32 (.mov 3),
 oo 2 (.mov 32)])
 .ret))))⟩
def hint41 (P:Program):Hint:={}
theorem censG_stp (d:Dl):censG (stp1 d)=if d.kind=5 then d.count.toNat else if d.kind=6 then 1 else 0:=by
 unfold stp1
 by_cases h:drawsB d=true
 · rw[if_pos h,censG_rep]
   have hk:d.kind=4∨d.kind=5:=by simpa[drawsB] using h
   by_cases h5:d.kind=5
   · rw[if_pos h5,if_pos (by simpa using h5)]
   · rw[if_neg h5,if_neg (by simpa using h5),if_neg (by omega)]
 · have hk:¬(d.kind=4∨d.kind=5):=by simpa[drawsB] using h
   rw[if_neg h,if_neg (by omega)]
   by_cases h6:d.kind=6
   · simp[censG,h6]
   · simp[censG,h6]
theorem censG_le:∀{l:List Dl},(∀d∈l,drawsB d=true→1≤d.count∧d.count≤12)→censG (stepsG l)≤12*l.length
 | [],_=>Nat.le_refl _
 | d::r,h=>by
   have h1:=censG_le (l:=r) fun x hx=>h x (by simp[hx])
   show censG (stp1 d++stepsG r)≤12*(r.length+1)
   rw[censG_app,censG_stp]
   split
   · have:=h d (by simp) (by simp[drawsB];right;assumption);omega
   · split<;>omega
theorem Censers_c (G:Gm) (hd:G.ds.length≤24) (hc:∀d∈G.ds,drawsB d=true→1≤d.count∧d.count≤12):Fn0 Try.prog 41 [gmA G] (fun v=>v= .int .i64 (censG (stepsG G.ds):Nat)):=by
 refine RawC.walk (H:=hint41 Try.prog) ir41 Try.func41 rfl rfl rfl ?_
 unfold ir41
 repeat' (first
  | refine advE ?_ | with_reducible refine w_alt ?_ ?_
  | with_reducible refine zI fun y hy=>?_ | refine advL ?_
  | refine adv ?_ | with_reducible (first | intro _ | refine Rt.p (fun _=>?_) fun _=>?_)
  | ((with_reducible apply w_ixM);(focus exact rfl);(focus exact rfl);case' hk=>intro y hy) | ((with_reducible (first | apply w_val | apply q_ends));(focus exact rfl)))
 refine w_loopK [1] [1] (fun x:List Dl×List Dl=>G.ds=x.1++x.2) (fun x=>x.2.length) (fun x=>[(4,.int .i64 (x.1.length:Int)),(3,.int .i64 (censG (stepsG x.1):Nat))]) (fun _=>[]) ([],G.ds) rfl ⟨rfl,rfl,trivial⟩ trivial ?_
 rintro⟨pre,post⟩ hl e σ
 dsimp only at hl ⊢
 have hlen:=congrArg List.length hl
 rw[List.length_append] at hlen
 have hcl:=censG_le (l:=pre) fun d hd=>hc d (by rw[hl];simp[hd])
 cases post with
 | nil=>
   simp only[List.length_nil] at hlen
   rw[List.append_nil] at hl
   rw[←hl] at hcl ⊢
   repeat' (first
    | refine advE ?_ | with_reducible refine w_alt ?_ ?_
    | with_reducible refine zI fun y hy=>?_ | refine advL ?_
    | refine adv ?_ | with_reducible (first | intro _ | refine Rt.p (fun _=>?_) fun _=>?_)
    | ((with_reducible apply w_ixM);(focus exact rfl);(focus exact rfl);case' hk=>intro y hy) | ((with_reducible (first | apply w_val | apply q_ends));(focus exact rfl)))
   all_goals first
    | (exfalso;omega)
    | rfl
 | cons d post=>
   simp only[List.length_cons] at hlen
   have hsn:censG (stepsG (pre++[d]))=censG (stepsG pre)+(if d.kind=5 then d.count.toNat else if d.kind=6 then 1 else 0):=by
    show censG ((pre++[d]).flatMap stp1)=_
    rw[List.flatMap_append,censG_app,List.flatMap_cons,List.flatMap_nil,List.append_nil,censG_stp];rfl
   by_cases h5:d.kind=5
   · have:=hc d (by rw[hl];simp) (by simp[drawsB];right;exact h5)
     rw[if_pos h5] at hsn
     repeat' (first
      | refine advE ?_ | with_reducible refine w_alt ?_ ?_
      | (refine w_ixP (f:=fun d:Dl=>[AV.int .i64 d.kind,.int .i64 d.bag,.int .i64 d.other,.int .i64 d.wood,.int .i64 d.count]) hl rfl rfl ?_)
      | with_reducible refine zI fun y hy=>?_ | refine advL ?_
      | refine adv ?_ | with_reducible (first | intro _ | refine Rt.p (fun _=>?_) fun _=>?_)
      | ((with_reducible apply w_ixM);(focus exact rfl);(focus exact rfl);case' hk=>intro y hy) | ((with_reducible (first | apply w_val | apply q_ends));(focus exact rfl)))
     all_goals first
      | (exfalso;omega)
      | exact q_loop (pre++[d],post) (by show G.ds=_;rw[hl];simp) (Nat.lt_succ_self _) ⟨by rw[len_snoc];rfl,by show AV.int .i64 _=AV.int .i64 _;rw[hsn];exact int_eq (by omega),trivial⟩ (by repeat' (first | exact slots_nil | apply slots_cons | rfl | (rw[map_snoc];rfl) | (rw[len_snoc];rfl) | (rw[hS];rfl) | (rw[hS,map_snoc];rfl) | (refine int_eq ?_;(try dsimp only);omega) | (refine congrArg AV.bool ?_;simp_all;done))) (by repeat' (first | exact kept_nil | apply kept_cons | rfl)) (by repeat' (first | exact kept_nil | apply kept_cons | rfl))
   · rw[if_neg h5] at hsn
     by_cases h6:d.kind=6
     · rw[if_pos h6] at hsn
       repeat' (first
        | refine advE ?_ | with_reducible refine w_alt ?_ ?_
        | (refine w_ixP (f:=fun d:Dl=>[AV.int .i64 d.kind,.int .i64 d.bag,.int .i64 d.other,.int .i64 d.wood,.int .i64 d.count]) hl rfl rfl ?_)
        | with_reducible refine zI fun y hy=>?_ | refine advL ?_
        | refine adv ?_ | with_reducible (first | intro _ | refine Rt.p (fun _=>?_) fun _=>?_)
        | ((with_reducible apply w_ixM);(focus exact rfl);(focus exact rfl);case' hk=>intro y hy) | ((with_reducible (first | apply w_val | apply q_ends));(focus exact rfl)))
       all_goals first
        | (exfalso;omega)
        | exact q_loop (pre++[d],post) (by show G.ds=_;rw[hl];simp) (Nat.lt_succ_self _) ⟨by rw[len_snoc];rfl,by show AV.int .i64 _=AV.int .i64 _;rw[hsn];rfl,trivial⟩ (by repeat' (first | exact slots_nil | apply slots_cons | rfl | (rw[map_snoc];rfl) | (rw[len_snoc];rfl) | (rw[hS];rfl) | (rw[hS,map_snoc];rfl) | (refine int_eq ?_;(try dsimp only);omega) | (refine congrArg AV.bool ?_;simp_all;done))) (by repeat' (first | exact kept_nil | apply kept_cons | rfl)) (by repeat' (first | exact kept_nil | apply kept_cons | rfl))
     · rw[if_neg h6] at hsn
       repeat' (first
        | refine advE ?_ | with_reducible refine w_alt ?_ ?_
        | (refine w_ixP (f:=fun d:Dl=>[AV.int .i64 d.kind,.int .i64 d.bag,.int .i64 d.other,.int .i64 d.wood,.int .i64 d.count]) hl rfl rfl ?_)
        | with_reducible refine zI fun y hy=>?_ | refine advL ?_
        | refine adv ?_ | with_reducible (first | intro _ | refine Rt.p (fun _=>?_) fun _=>?_)
        | ((with_reducible apply w_ixM);(focus exact rfl);(focus exact rfl);case' hk=>intro y hy) | ((with_reducible (first | apply w_val | apply q_ends));(focus exact rfl)))
       all_goals first
        | (exfalso;omega)
        | exact q_loop (pre++[d],post) (by show G.ds=_;rw[hl];simp) (Nat.lt_succ_self _) ⟨by rw[len_snoc];rfl,by show AV.int .i64 _=AV.int .i64 _;rw[hsn];rfl,trivial⟩ (by repeat' (first | exact slots_nil | apply slots_cons | rfl | (rw[map_snoc];rfl) | (rw[len_snoc];rfl) | (rw[hS];rfl) | (rw[hS,map_snoc];rfl) | (refine int_eq ?_;(try dsimp only);omega) | (refine congrArg AV.bool ?_;simp_all;done))) (by repeat' (first | exact kept_nil | apply kept_cons | rfl)) (by repeat' (first | exact kept_nil | apply kept_cons | rfl))
def ir14:IFn:=
 ⟨255,[(8,some (2,true))],(.seq (.ops [oo 8 (.new [.nsl,.nsl])])
 (.seq (.ops [oo 23 (.mov 0),
 oo 24 (.mov 1),
 oo 25 (.callF 32 [23,24]),
 oo 26 (.bld [.nsl,.nsl] [(0,1,25)]),
 oo 9 (.new [.nsl,.nsl]),
 ⟨none,none,(.st 2 9 26)⟩])
 (.seq (.seq (.ops [oo 10 (.mov (kI 0))])
 (.blk 0 (.loop (.seq (.seq (.ops [oo 27 (.mov 10),
 oo 28 (.flA 0 9),
 oo 29 (.ld 1 false 28),
 oo 30 (.len false 29),
 oo 31 (.bin .lss 27 30)])
 (.cnd 31
 .skip
 (.exit 0)))
 (.seq (.blk 1 (.seq (.ops [oo 34 (.mov 0),
 oo 35 (.callF 47 [34,(kI 3)]),
 oo 36 (.not 35)])
 (.cnd 36
 (.ops [oo 37 (.flA 1 9),
 oo 38 (.ld 1 false 37),
 oo 39 (.mov 10),
 oo 40 (.bld [(.int .i64 0),(.int .i64 0),(.int .i64 0),(.int .i64 0),(.int .i64 0)] [(0,1,(kI 1)),(3,1,39)]),
 oo 41 (.bsl 5 [[(.int .i64 0),(.int .i64 0),(.int .i64 0),(.int .i64 0),(.int .i64 0)]] [(0,40)]),
 oo 42 (.app 5 40 38 41 42),
 oo 43 (.flA 1 9),
 ⟨none,none,(.st 1 43 42)⟩])
 .skip)))
 (.ops [oo 32 (.mov 10),
 oo 33 (.bin .add 32 (kI 1)),
 oo 10 (.mov 33)]))))))
 (.seq (.ops [oo 44 (.mov 0),
 oo 45 (.callF 31 [44,(kI 2)]),
 oo 46 (.bin .add (kI 1) 45),
 oo 11 (.mov 46)])
 (.seq (.ops [oo 12 (.new [(.int .i64 0),(.int .i64 0),(.int .i64 0),(.int .i64 0)])])
 (.seq (.ops [oo 13 (.mov (kI 0)),
 oo 14 (.mov (kI 0)),
 oo 15 (.mov (kI 0))])
 (.seq (.seq (.ops [oo 16 (.mov (kI 0))])
 (.blk 2 (.loop (.seq (.seq (.ops [oo 47 (.mov 16),
 oo 48 (.bin .lss 47 (kI 10)),
 oo 49 (.mov 48),
 ⟨(some 50),(some (49,true)),(.flA 1 9)⟩,
 ⟨(some 51),(some (49,true)),(.ld 1 false 50)⟩,
 ⟨(some 52),(some (49,true)),(.len false 51)⟩,
 ⟨(some 53),(some (49,true)),(.bin .lss 52 (kI 22))⟩,
 oo 54 (.pick 49 53 (kB false))])
 (.cnd 54
 .skip
 (.exit 2)))
 (.seq (.blk 3 (.seq (.ops [oo 57 (.mov 0),
 oo 58 (.mov 11),
 oo 59 (.callF 31 [57,58]),
 oo 17 (.mov 59)])
 (.seq (.ops [oo 60 (.mov 0),
 oo 61 (.callF 31 [60,(kI 7)])])
 (.blk 4 (.seq (.seq (.ops [oo 83 (.bin .eql 61 (kI 0)),
 oo 82 (.mov 83)])
 (.cnd 82
 .skip
 (.seq (.ops [oo 84 (.bin .eql 61 (kI 1)),
 oo 82 (.mov 84)])
 (.cnd 82
 .skip
 (.ops [oo 85 (.bin .eql 61 (kI 2)),
 oo 82 (.mov 85)])))))
 (.cnd 82
 (.seq (.ops [oo 86 (.mov 0),
 oo 87 (.callF 30 [86,(kI 1),(kI 3)]),
 oo 18 (.mov 87)])
 (.seq (.ops [oo 88 (.mov 13),
 oo 89 (.mov 18),
 oo 90 (.bin .add 88 89),
 oo 91 (.bin .leq 90 (kI 12))])
 (.cnd 91
 (.seq (.ops [oo 92 (.flA 1 9),
 oo 93 (.ld 1 false 92),
 oo 94 (.mov 17),
 oo 95 (.mov 0),
 oo 96 (.flA 0 9),
 oo 97 (.ld 1 false 96),
 oo 98 (.len false 97),
 oo 100 (.mov 18),
 oo 99 (.callF 31 [95,98]),
 ⟨none,none,(.chk 1 false 92 93)⟩,
 oo 101 (.bld [(.int .i64 0),(.int .i64 0),(.int .i64 0),(.int .i64 0),(.int .i64 0)] [(0,1,(kI 2)),(1,1,94),(3,1,99),(4,1,100)]),
 oo 102 (.bsl 5 [[(.int .i64 0),(.int .i64 0),(.int .i64 0),(.int .i64 0),(.int .i64 0)]] [(0,101)]),
 oo 103 (.app 5 40 93 102 42),
 oo 104 (.flA 1 9),
 ⟨none,none,(.st 1 104 103)⟩])
 (.ops [oo 105 (.mov 17),
 oo 106 (.mov 13),
 oo 107 (.mov 18),
 oo 108 (.bin .add 106 107),
 oo 109 (.mov 17),
 oo 110 (.ixAr 4 1 12 109),
 oo 111 (.ld 1 false 110),
 oo 112 (.mov 18),
 oo 113 (.bin .add 111 112),
 oo 13 (.mov 108),
 oo 114 (.ixAr 4 1 12 105),
 ⟨none,none,(.st 1 114 113)⟩]))
 .skip)))
 (.seq (.ops [oo 116 (.bin .eql 61 (kI 3)),
 oo 115 (.mov 116)])
 (.cnd 115
 (.seq (.ops [oo 117 (.mov 0),
 oo 118 (.mov 11),
 oo 119 (.callF 31 [117,118]),
 oo 19 (.mov 119)])
 (.seq (.ops [oo 120 (.mov 19),
 oo 121 (.mov 17),
 oo 122 (.bin .neq 120 121)])
 (.cnd 122
 (.seq (.ops [oo 123 (.flA 1 9),
 oo 124 (.ld 1 false 123),
 oo 125 (.mov 17),
 oo 126 (.mov 19),
 oo 127 (.bld [(.int .i64 0),(.int .i64 0),(.int .i64 0),(.int .i64 0),(.int .i64 0)] [(0,1,(kI 3)),(1,1,125),(2,1,126)]),
 oo 128 (.bsl 5 [[(.int .i64 0),(.int .i64 0),(.int .i64 0),(.int .i64 0),(.int .i64 0)]] [(0,127)]),
 oo 129 (.app 5 40 124 128 42),
 oo 130 (.flA 1 9),
 ⟨none,none,(.st 1 130 129)⟩])
 (.ops [oo 131 (.mov 19),
 oo 132 (.mov 17),
 oo 133 (.mov 19),
 oo 134 (.ixAr 4 1 12 133),
 oo 135 (.ld 1 false 134),
 oo 136 (.mov 17),
 oo 137 (.ixAr 4 1 12 136),
 oo 138 (.ld 1 false 137),
 oo 139 (.bin .add 135 138),
 oo 140 (.ixAr 4 1 12 131),
 ⟨none,none,(.st 1 140 139)⟩,
 oo 141 (.ixAr 4 1 12 132),
 ⟨none,none,(.st 1 141 (kI 0))⟩]))
 .skip)))
 (.seq (.ops [oo 143 (.bin .eql 61 (kI 4)),
 oo 142 (.mov 143)])
 (.cnd 142
 (.seq (.ops [oo 144 (.mov 0),
 oo 145 (.callF 30 [144,(kI 1),(kI 2)]),
 oo 20 (.mov 145)])
 (.seq (.ops [oo 146 (.mov 20),
 oo 147 (.mov 17),
 oo 148 (.ixAr 4 1 12 147),
 oo 149 (.ld 1 false 148),
 oo 150 (.bin .leq 146 149),
 oo 151 (.mov 150),
 ⟨(some 152),(some (151,true)),(.mov 14)⟩,
 ⟨(some 153),(some (151,true)),(.mov 20)⟩,
 ⟨(some 154),(some (151,true)),(.bin .add 152 153)⟩,
 ⟨(some 155),(some (151,true)),(.mov 2)⟩,
 ⟨(some 156),(some (151,true)),(.bin .leq 154 155)⟩,
 oo 157 (.pick 151 156 (kB false))])
 (.cnd 157
 (.seq (.ops [oo 158 (.flA 1 9),
 oo 159 (.ld 1 false 158),
 oo 160 (.mov 17),
 oo 161 (.mov 20),
 oo 162 (.bld [(.int .i64 0),(.int .i64 0),(.int .i64 0),(.int .i64 0),(.int .i64 0)] [(0,1,(kI 4)),(1,1,160),(4,1,161)]),
 oo 163 (.bsl 5 [[(.int .i64 0),(.int .i64 0),(.int .i64 0),(.int .i64 0),(.int .i64 0)]] [(0,162)]),
 oo 164 (.app 5 40 159 163 42),
 oo 165 (.flA 1 9),
 ⟨none,none,(.st 1 165 164)⟩])
 (.ops [oo 166 (.mov 17),
 oo 167 (.mov 14),
 oo 168 (.mov 20),
 oo 169 (.bin .add 167 168),
 oo 170 (.mov 17),
 oo 171 (.ixAr 4 1 12 170),
 oo 172 (.ld 1 false 171),
 oo 173 (.mov 20),
 oo 174 (.bin .sub 172 173),
 oo 14 (.mov 169),
 oo 175 (.ixAr 4 1 12 166),
 ⟨none,none,(.st 1 175 174)⟩]))
 .skip)))
 (.seq (.ops [oo 177 (.bin .eql 61 (kI 5)),
 oo 176 (.mov 177)])
 (.cnd 176
 (.seq (.ops [oo 178 (.mov 0),
 oo 179 (.callF 30 [178,(kI 1),(kI 3)]),
 oo 21 (.mov 179)])
 (.seq (.ops [oo 180 (.mov 21),
 oo 181 (.mov 17),
 oo 182 (.ixAr 4 1 12 181),
 oo 183 (.ld 1 false 182),
 oo 184 (.bin .leq 180 183),
 oo 185 (.mov 184),
 ⟨(some 186),(some (185,true)),(.mov 14)⟩,
 ⟨(some 187),(some (185,true)),(.mov 21)⟩,
 ⟨(some 188),(some (185,true)),(.bin .add 186 187)⟩,
 ⟨(some 189),(some (185,true)),(.mov 2)⟩,
 ⟨(some 190),(some (185,true)),(.bin .leq 188 189)⟩,
 oo 191 (.pick 185 190 (kB false)),
 oo 192 (.mov 191),
 ⟨(some 193),(some (192,true)),(.mov 15)⟩,
 ⟨(some 194),(some (192,true)),(.mov 21)⟩,
 ⟨(some 195),(some (192,true)),(.bin .add 193 194)⟩,
 ⟨(some 196),(some (192,true)),(.mov 3)⟩,
 ⟨(some 197),(some (192,true)),(.bin .leq 195 196)⟩,
 oo 198 (.pick 192 197 (kB false))])
 (.cnd 198
 (.seq (.ops [oo 199 (.flA 1 9),
 oo 200 (.ld 1 false 199),
 oo 201 (.mov 17),
 oo 202 (.mov 21),
 oo 203 (.bld [(.int .i64 0),(.int .i64 0),(.int .i64 0),(.int .i64 0),(.int .i64 0)] [(0,1,(kI 5)),(1,1,201),(4,1,202)]),
 oo 204 (.bsl 5 [[(.int .i64 0),(.int .i64 0),(.int .i64 0),(.int .i64 0),(.int .i64 0)]] [(0,203)]),
 oo 205 (.app 5 40 200 204 42),
 oo 206 (.flA 1 9),
 ⟨none,none,(.st 1 206 205)⟩])
 (.ops [oo 207 (.mov 17),
 oo 208 (.mov 14),
 oo 209 (.mov 21),
 oo 210 (.bin .add 208 209),
 oo 211 (.mov 15),
 oo 212 (.mov 21),
 oo 213 (.bin .add 211 212),
 oo 214 (.mov 17),
 oo 215 (.ixAr 4 1 12 214),
 oo 216 (.ld 1 false 215),
 oo 217 (.mov 21),
 oo 218 (.bin .sub 216 217),
 oo 14 (.mov 210),
 oo 15 (.mov 213),
 oo 219 (.ixAr 4 1 12 207),
 ⟨none,none,(.st 1 219 218)⟩]))
 .skip)))
 (.seq (.ops [oo 62 (.mov 15),
 oo 63 (.mov 3),
 oo 64 (.bin .lss 62 63),
 oo 65 (.mov 64),
 ⟨(some 66),(some (65,true)),(.mov 0)⟩,
 ⟨(some 67),(some (65,true)),(.callF 47 [66,(kI 3)])⟩,
 oo 68 (.pick 65 67 (kB false))])
 (.cnd 68
 (.seq (.ops [oo 69 (.flA 1 9),
 oo 70 (.ld 1 false 69),
 oo 71 (.mov 0),
 oo 72 (.flA 0 9),
 oo 73 (.ld 1 false 72),
 oo 74 (.len false 73),
 oo 75 (.callF 31 [71,74]),
 ⟨none,none,(.chk 1 false 69 70)⟩,
 oo 76 (.bld [(.int .i64 0),(.int .i64 0),(.int .i64 0),(.int .i64 0),(.int .i64 0)] [(0,1,(kI 6)),(3,1,75)]),
 oo 77 (.bsl 5 [[(.int .i64 0),(.int .i64 0),(.int .i64 0),(.int .i64 0),(.int .i64 0)]] [(0,76)]),
 oo 78 (.app 5 40 70 77 42),
 oo 79 (.flA 1 9),
 ⟨none,none,(.st 1 79 78)⟩])
 (.ops [oo 80 (.mov 15),
 oo 81 (.bin .add 80 (kI 1)),
 oo 15 (.mov 81)]))
 .skip))))))))))))))
 (.ops [oo 55 (.mov 16),
 oo 56 (.bin .add 55 (kI 1)),
 oo 16 (.mov 56)]))))))
 (.seq (.seq (.ops [oo 220 (.ixAr 4 1 12 (kI 0)),
 oo 221 (.ld 1 false 220),
 oo 222 (.mov 2),
 oo 223 (.mov 14),
 oo 224 (.bin .sub 222 223),
 oo 225 (.mov 3),
 oo 226 (.mov 15),
 oo 227 (.bin .sub 225 226),
 oo 228 (.mx3 false 221 224 227),
 oo 22 (.mov 228)])
 (.seq (.ops [oo 229 (.mov 22),
 oo 230 (.bin .gtr 229 (kI 0))])
 (.cnd 230
 (.seq (.ops [oo 231 (.flA 1 9),
 oo 232 (.ld 1 false 231),
 oo 233 (.mov 22),
 oo 234 (.bld [(.int .i64 0),(.int .i64 0),(.int .i64 0),(.int .i64 0),(.int .i64 0)] [(0,1,(kI 5)),(4,1,233)]),
 oo 235 (.bsl 5 [[(.int .i64 0),(.int .i64 0),(.int .i64 0),(.int .i64 0),(.int .i64 0)]] [(0,234)]),
 oo 236 (.app 5 40 232 235 42),
 oo 237 (.flA 1 9),
 ⟨none,none,(.st 1 237 236)⟩])
 (.ops [oo 238 (.mov 15),
 oo 239 (.mov 22),
 oo 240 (.bin .add 238 239),
 oo 15 (.mov 240)]))
 .skip)))
 (.seq (.seq (.ops [oo 241 (.mov 15),
 oo 242 (.bin .eql 241 (kI 0))])
 (.cnd 242
 (.ops [oo 243 (.flA 1 9),
 oo 244 (.ld 1 false 243),
 oo 245 (.mov 0),
 oo 246 (.flA 0 9),
 oo 247 (.ld 1 false 246),
 oo 248 (.len false 247),
 oo 249 (.callF 31 [245,248]),
 ⟨none,none,(.chk 1 false 243 244)⟩,
 oo 250 (.bld [(.int .i64 0),(.int .i64 0),(.int .i64 0),(.int .i64 0),(.int .i64 0)] [(0,1,(kI 6)),(3,1,249)]),
 oo 251 (.bsl 5 [[(.int .i64 0),(.int .i64 0),(.int .i64 0),(.int .i64 0),(.int .i64 0)]] [(0,250)]),
 oo 252 (.app 5 40 244 251 42),
 oo 253 (.flA 1 9),
 ⟨none,none,(.st 1 253 252)⟩])
 .skip))
 (.seq (.ops [oo 254 (.ld 2 true 9),
 ⟨none,none,(.st 2 8 254)⟩])
 .ret))))))))))⟩
def hint14 (P:Program):Hint:={site:=[(42,42),(78,42),(103,42),(129,42),(164,42),(205,42),(236,42),(252,42)],nils:=[],frz:=[],mve:=[],wr:=[] }
def dlV (D:List Dl) (g:Nat):AV:=match D with
 | []=> .nsl
 | _::_=> .slc 5 (dlR D) (.own 42 g)
def dlX (D:List Dl) (g:Nat):Nat×Res:=match D with
 | []=>(0,.dead)
 | _::_=>(g,.row [])
theorem dlV_snoc {x:Dl} {l:List Dl} (d:Dl) (g:Nat):AV.slc 5 (dlR (x::l)++[d.row]) (.own 42 g)=dlV (x::l++[d]) g:=by
 show _=AV.slc 5 (dlR (x::l++[d])) _
 rw[show dlR (x::l++[d])=dlR (x::l)++[d.row] from List.map_append]
theorem sl9 {g9:Nat} {ws:List Wd} {x:Dl} {l:List Dl} (d:Dl) (g:Nat):(g9,Res.row [AV.slc 2 (wR ws) .non,.slc 5 (dlR (x::l)++[d.row]) (.own 42 g)])=(g9,Res.row [AV.slc 2 (wR ws) .non,dlV (x::l++[d]) g]):=
 congrArg (fun z=>(g9,Res.row [AV.slc 2 (wR ws) .non,z])) (dlV_snoc d g)
theorem gm_snoc {ws:List Wd} {x:Dl} {l:List Dl} (d:Dl):AV.agg [.slc 2 (wR ws) .non,.slc 5 (dlR (x::l)++[d.row]) .non]=gmA ⟨ws,x::l++[d]⟩:=by
 show _=AV.agg [.slc 2 (wR ws) .non,.slc 5 (dlR (x::l++[d])) .non]
 rw[show dlR (x::l++[d])=dlR (x::l)++[d.row] from List.map_append]
theorem gameOf_c (g:Nat) (w woods drawn cens:Int) (h1:1≤woods∧woods≤6) (h2:0≤drawn∧drawn≤9) (h3:1≤cens∧cens≤9):RawC Try.prog 14 [.ref 1000 g 0,.int .i64 woods,.int .i64 drawn,.int .i64 cens] (BoxS g w) (BoxR g fun av=>∃G,av=gmA G∧madeO G woods drawn cens):=by
 refine RawC.walk (H:=hint14 Try.prog) ir14 Try.func14 rfl rfl rfl ?_
 unfold ir14
 repeat' (first
  | with_reducible (first | refine Rd.p ?_ | refine w_alt ?_ ?_ | refine zE ?_ | refine zE0 ?_)
  | with_reducible (first | refine zI fun y hy=>?_ | refine zL ?_ | refine zS ?_ | refine zA fun _=>?_ | refine zV ?_ | refine zC ?_ | refine zG ?_ | refine zU ?_ | refine zG0 ?_ | refine zU0 ?_ | refine zF ?_)
  | ((with_reducible refine acall_id ?_);refine ACall.box (woodsOf_c _ _ _ h1) rfl rfl rfl ?_;rintro _ _ ⟨ws,rfl,hmw,hw1,hw2⟩)
  | with_reducible (first | refine zX ?_ | refine zD fun _=>?_ | refine zD0 ?_ | refine zN ?_ | refine zF0 ?_ | refine zX0 ?_ | refine z1 ?_ | refine z2 ?_ | refine z3 ?_ | refine z4 ?_ | refine z5 ?_ | refine z6 ?_ | refine z7 ?_ | refine z8 ?_ | refine y1 ?_ | refine y2 ?_ | refine y3 ?_ | refine y4 ?_ | refine y5 ?_ | refine y6 ?_ | refine y7 ?_ | refine y8 ?_ | refine Rt.p (fun _=>?_) fun _=>?_)
  | ((with_reducible apply w_ixM);(focus exact rfl);(focus exact rfl);case' hk=>intro y hy) | ((with_reducible (first | apply w_val | apply q_ends));(focus exact rfl)))
 rename_i g8 w0 g9
 have hwl:(wR ws).length=ws.length:=List.length_map _
 refine w_loopK [0,2,3,8,9,50,51,52,53,66,67,152,153,154,155,156,186,187,188,189,190,193,194,195,196,197] [8] (fun x:List Dl×List Bool×Int×Nat×Nat=>mkG ws.length x.1 {tb0 with tried:=x.2.1 } 0∧x.2.2.2.2≤ws.length∧x.1.length≤x.2.2.2.2∧ ∀i:Nat,x.2.2.2.2≤i→x.2.1.getD i false=false)
  (fun x=>ws.length-x.2.2.2.2) (fun x=>[(10,.int .i64 (x.2.2.2.2:Int))]) (fun x=>[(1000,(g,.row [.int .u64 x.2.2.1])),(9,(g9,.row [.slc 2 (wR ws) .non,dlV x.1 x.2.2.2.1])),(42,dlX x.1 x.2.2.2.1)]) ([],tb0.tried,w0,0,0) ⟨mkG.nil _,Nat.zero_le _,Nat.le_refl _,fun i _=>by
    show ([false,false,false,false,false,false]:List Bool).getD i false=false
    rcases i with _ | _ | _ | _ | _ | _ | i<;>rfl⟩ ⟨rfl,trivial⟩ ⟨rfl,rfl,rfl,trivial⟩ ?_
 rintro⟨D,tr,w,gd,j⟩ ⟨hmk,hj,hDl,htr⟩ e σ
 dsimp only at hmk hj hDl htr ⊢
 by_cases hjn:j=ws.length
 rotate_left
 · have hmk2:=hmk.trial (w:=(j:Int)) (by omega) (htr j (Nat.le_refl _))
   have htr2:∀i:Nat,j+1≤i→(tr.set j true).getD i false=false:=fun i hi=>by
    rw[List.getD_eq_getElem?_getD,List.getElem?_set,if_neg (by omega),←List.getD_eq_getElem?_getD]
    exact htr i (by omega)
   cases D with
   | nil=>
     repeat' (first
      | with_reducible (first | refine Rd.p ?_ | refine w_alt ?_ ?_ | refine zE ?_ | refine zE0 ?_)
      | with_reducible (first | refine zI fun y hy=>?_ | refine zL ?_ | refine zS ?_ | refine zA fun _=>?_ | refine zV ?_ | refine zC ?_ | refine zG ?_ | refine zU ?_ | refine zG0 ?_ | refine zU0 ?_ | refine zF ?_)
      | ((with_reducible refine acall_id ?_);refine ACall.box (one_c _ _ _ (by omega)) rfl rfl rfl ?_;rintro _ _ ⟨b,rfl⟩)
      | with_reducible (first | refine zX ?_ | refine zD fun _=>?_ | refine zD0 ?_ | refine zN ?_ | refine zF0 ?_ | refine zX0 ?_ | refine z1 ?_ | refine z2 ?_ | refine z3 ?_ | refine z4 ?_ | refine z5 ?_ | refine z6 ?_ | refine z7 ?_ | refine z8 ?_ | refine y1 ?_ | refine y2 ?_ | refine y3 ?_ | refine y4 ?_ | refine y5 ?_ | refine y6 ?_ | refine y7 ?_ | refine y8 ?_ | refine Rt.p (fun _=>?_) fun _=>?_)
      | ((with_reducible apply w_ixM);(focus exact rfl);(focus exact rfl);case' hk=>intro y hy) | ((with_reducible (first | apply w_val | apply q_ends));(focus exact rfl)))
     all_goals first
      | (exfalso;omega)
      | exact q_loop ([⟨1,0,0,(j:Int),0⟩],tr.set j true,_,_,j+1) ⟨hmk2,by show j+1≤_;omega,Nat.le_add_left _ _,htr2⟩ (by show _-(j+1)<_-j;omega) ⟨int_eq (by simp),trivial⟩ (by repeat' (first | exact slots_nil | apply slots_cons | rfl | (rw[map_snoc];rfl) | (rw[len_snoc];rfl) | (rw[hS];rfl) | (rw[hS,map_snoc];rfl) | (refine int_eq ?_;(try dsimp only);omega) | (refine congrArg AV.bool ?_;simp_all;done))) (by repeat' (first | exact kept_nil | apply kept_cons | rfl)) (by repeat' (first | exact kept_nil | apply kept_cons | rfl))
      | exact q_loop ([],tr,_,gd,j+1) ⟨hmk,by show j+1≤_;omega,Nat.zero_le _,fun i hi=>htr i (by dsimp only at hi;omega)⟩ (by show _-(j+1)<_-j;omega) ⟨int_eq (by simp),trivial⟩ (by repeat' (first | exact slots_nil | apply slots_cons | rfl | (rw[map_snoc];rfl) | (rw[len_snoc];rfl) | (rw[hS];rfl) | (rw[hS,map_snoc];rfl) | (refine int_eq ?_;(try dsimp only);omega) | (refine congrArg AV.bool ?_;simp_all;done))) (by repeat' (first | exact kept_nil | apply kept_cons | rfl)) (by repeat' (first | exact kept_nil | apply kept_cons | rfl))
   | cons x l=>
     have hxl:(dlR (x::l)).length=(x::l).length:=List.length_map _
     repeat' (first
      | with_reducible (first | refine Rd.p ?_ | refine w_alt ?_ ?_ | refine zE ?_ | refine zE0 ?_)
      | with_reducible (first | refine zI fun y hy=>?_ | refine zL ?_ | refine zS ?_ | refine zA fun _=>?_ | refine zV ?_ | refine zC ?_ | refine zG ?_ | refine zU ?_ | refine zG0 ?_ | refine zU0 ?_ | refine zF ?_)
      | ((with_reducible refine acall_id ?_);refine ACall.box (one_c _ _ _ (by omega)) rfl rfl rfl ?_;rintro _ _ ⟨b,rfl⟩)
      | with_reducible (first | refine zX ?_ | refine zD fun _=>?_ | refine zD0 ?_ | refine zN ?_ | refine zF0 ?_ | refine zX0 ?_ | refine z1 ?_ | refine z2 ?_ | refine z3 ?_ | refine z4 ?_ | refine z5 ?_ | refine z6 ?_ | refine z7 ?_ | refine z8 ?_ | refine y1 ?_ | refine y2 ?_ | refine y3 ?_ | refine y4 ?_ | refine y5 ?_ | refine y6 ?_ | refine y7 ?_ | refine y8 ?_ | refine Rt.p (fun _=>?_) fun _=>?_)
      | ((with_reducible apply w_ixM);(focus exact rfl);(focus exact rfl);case' hk=>intro y hy) | ((with_reducible (first | apply w_val | apply q_ends));(focus exact rfl)))
     all_goals first
      | (exfalso;omega)
      | exact q_loop (x::l++[⟨1,0,0,(j:Int),0⟩],tr.set j true,_,_,j+1) ⟨hmk2,by show j+1≤_;omega,by show (x::l++[_]).length≤j+1;rw[len_snoc];omega,htr2⟩ (by show _-(j+1)<_-j;omega) ⟨int_eq (by simp),trivial⟩ ⟨rfl,sl9 ⟨1,0,0,(j:Int),0⟩ _,rfl,trivial⟩ (by repeat' (first | exact kept_nil | apply kept_cons | rfl)) (by repeat' (first | exact kept_nil | apply kept_cons | rfl))
      | exact q_loop (x::l,tr,_,gd,j+1) ⟨hmk,by show j+1≤_;omega,by show (x::l).length≤j+1;omega,fun i hi=>htr i (by dsimp only at hi;omega)⟩ (by show _-(j+1)<_-j;omega) ⟨int_eq (by simp),trivial⟩ (by repeat' (first | exact slots_nil | apply slots_cons | rfl | (rw[map_snoc];rfl) | (rw[len_snoc];rfl) | (rw[hS];rfl) | (rw[hS,map_snoc];rfl) | (refine int_eq ?_;(try dsimp only);omega) | (refine congrArg AV.bool ?_;simp_all;done))) (by repeat' (first | exact kept_nil | apply kept_cons | rfl)) (by repeat' (first | exact kept_nil | apply kept_cons | rfl))
 subst hjn
 clear htr hj
 repeat' (first
  | with_reducible (first | refine Rd.p ?_ | refine w_alt ?_ ?_ | refine zE ?_ | refine zE0 ?_)
  | with_reducible (first | refine zI fun y hy=>?_ | refine zL ?_ | refine zS ?_ | refine zA fun _=>?_ | refine zV ?_ | refine zC ?_ | refine zG ?_ | refine zU ?_ | refine zG0 ?_ | refine zU0 ?_ | refine zF ?_)
  | ((with_reducible refine acall_id ?_);refine ACall.box (upp_c _ _ 2 (by omega) (by omega)) rfl rfl rfl ?_;rintro _ _ ⟨bg,rfl,hbg1,hbg2⟩)
  | with_reducible (first | refine zX ?_ | refine zD fun _=>?_ | refine zD0 ?_ | refine zN ?_ | refine zF0 ?_ | refine zX0 ?_ | refine z1 ?_ | refine z2 ?_ | refine z3 ?_ | refine z4 ?_ | refine z5 ?_ | refine z6 ?_ | refine z7 ?_ | refine z8 ?_ | refine y1 ?_ | refine y2 ?_ | refine y3 ?_ | refine y4 ?_ | refine y5 ?_ | refine y6 ?_ | refine y7 ?_ | refine y8 ?_ | refine Rt.p (fun _=>?_) fun _=>?_)
  | ((with_reducible apply w_ixM);(focus exact rfl);(focus exact rfl);case' hk=>intro y hy) | ((with_reducible (first | apply w_val | apply q_ends));(focus exact rfl)))
 rename_i w1 g12
 refine w_loopK [0,2,3,8,9,11,12] [8] (fun x:List Dl×Tb×Int×Nat×Int×Nat=>mkG ws.length x.1 x.2.1 x.2.2.1∧x.2.2.2.1≤10∧x.1.length≤22∧0≤x.2.2.1∧x.2.2.1≤drawn∧x.2.1.cens≤cens)
  (fun x=>10-x.2.2.2.1) (fun x=>[(13,.int .i64 x.2.1.mixed),(14,.int .i64 x.2.2.1),(15,.int .i64 x.2.1.cens),(16,.int .i64 (x.2.2.2.1:Int))]) (fun x=>[(1000,(g,.row [.int .u64 x.2.2.2.2.1])),(9,(g9,.row [.slc 2 (wR ws) .non,dlV x.1 x.2.2.2.2.2])),(42,dlX x.1 x.2.2.2.2.2),(12,(g12,.row (nI x.2.1.bags)))]) (D,{tb0 with tried:=tr },0,0,w1,gd) ⟨hmk,Nat.zero_le _,by dsimp only;omega,Int.le_refl _,by dsimp only;omega,by show (0:Int)≤cens;omega⟩ ⟨rfl,rfl,rfl,rfl,trivial⟩ ⟨rfl,rfl,rfl,rfl,trivial⟩ ?_
 clear hmk hDl
 rintro⟨D,T,had,turn,w,gd⟩ ⟨hmk,hturn,hDl,hh0,hhd,hcn⟩ e σ
 dsimp only at hmk hturn hDl hh0 hhd hcn ⊢
 have hok:=hmk.ok
 have hb4:=hok.b
 have hm:=hok.m
 have hcc:=hok.c
 by_cases hgo:turn<10∧D.length<22
 · cases D with
   | nil=>
     repeat' (first
      | with_reducible (first | refine Rd.p ?_ | refine w_alt ?_ ?_ | refine zE ?_ | refine zE0 ?_)
      | with_reducible (first | refine zI fun y hy=>?_ | refine zL ?_ | refine zS ?_ | refine zA fun _=>?_ | refine zV ?_ | refine zC ?_ | refine zG ?_ | refine zU ?_ | refine zG0 ?_ | refine zU0 ?_ | refine zF ?_)
      | ((with_reducible refine acall_id ?_);refine ACall.box (upp_c _ _ (1+bg) (by omega) (by omega)) rfl rfl rfl ?_;rintro _ _ ⟨bag,rfl,hbag1,hbag2⟩)
      | with_reducible (first | refine zX ?_ | refine zD fun _=>?_ | refine zD0 ?_ | refine zN ?_ | refine zF0 ?_ | refine zX0 ?_ | refine z1 ?_ | refine z2 ?_ | refine z3 ?_ | refine z4 ?_ | refine z5 ?_ | refine z6 ?_ | refine z7 ?_ | refine z8 ?_ | refine y1 ?_ | refine y2 ?_ | refine y3 ?_ | refine y4 ?_ | refine y5 ?_ | refine y6 ?_ | refine y7 ?_ | refine y8 ?_ | refine Rt.p (fun _=>?_) fun _=>?_)
      | ((with_reducible apply w_ixM);(focus exact rfl);(focus exact rfl);case' hk=>intro y hy) | ((with_reducible (first | apply w_val | apply q_ends));(focus exact rfl)))
     repeat' (first
      | with_reducible (first | refine Rd.p ?_ | refine w_alt ?_ ?_ | refine zE ?_ | refine zE0 ?_)
      | (first | (refine w_ldBag (p:=bag.toNat) hok rfl (by omega) rfl (by omega) ?_;intro hbdB) | (refine w_ldBag (p:=oth.toNat) hok rfl (by omega) rfl (by omega) ?_;intro hbdO) | refine w_stEl (p:=bag.toNat) rfl (by omega) rfl (by first | omega | (rw[List.length_set];omega)) rfl ?_ | refine w_stEl (p:=oth.toNat) rfl (by omega) rfl (by omega) rfl ?_)
      | with_reducible (first | refine zI fun y hy=>?_ | refine zL ?_ | refine zS ?_ | refine zA fun _=>?_ | refine zV ?_ | refine zC ?_ | refine zG ?_ | refine zU ?_ | refine zG0 ?_ | refine zU0 ?_ | refine zF ?_)
      | ((with_reducible refine acall_id ?_);refine ACall.box (upp_c _ _ 7 (by omega) (by omega)) rfl rfl rfl ?_;rintro _ _ ⟨kd,rfl,hkd1,hkd2⟩)
      | ((with_reducible refine acall_id ?_);refine ACall.box (upp_c _ _ (1+bg) (by omega) (by omega)) rfl rfl rfl ?_;rintro _ _ ⟨oth,rfl,ho1,ho2⟩)
      | ((with_reducible refine acall_id ?_);refine ACall.box (any_c _ _ _ _ (by omega) (by omega) (by omega) (by omega)) rfl rfl rfl ?_;rintro _ _ ⟨c,rfl,hc1,hc2⟩)
      | ((with_reducible refine acall_id ?_);refine ACall.box (upp_c _ _ _ (by omega) (by omega)) rfl rfl rfl ?_;rintro _ _ ⟨wd,rfl,hw1,hw2⟩)
      | ((with_reducible refine acall_id ?_);refine ACall.box (one_c _ _ _ (by omega)) rfl rfl rfl ?_;rintro _ _ ⟨b,rfl⟩)
      | with_reducible (first | refine zX ?_ | refine zD fun _=>?_ | refine zD0 ?_ | refine zN ?_ | refine zF0 ?_ | refine zX0 ?_ | refine z1 ?_ | refine z2 ?_ | refine z3 ?_ | refine z4 ?_ | refine z5 ?_ | refine z6 ?_ | refine z7 ?_ | refine z8 ?_ | refine y1 ?_ | refine y2 ?_ | refine y3 ?_ | refine y4 ?_ | refine y5 ?_ | refine y6 ?_ | refine y7 ?_ | refine y8 ?_ | refine Rt.p (fun _=>?_) fun _=>?_)
      | ((with_reducible apply w_ixM);(focus exact rfl);(focus exact rfl);case' hk=>intro y hy) | ((with_reducible (first | apply w_val | apply q_ends));(focus exact rfl)))
     all_goals first
      | (exfalso;omega)
      | (have hq:kd≤2∧T.mixed+c≤12:=by omega
         exact q_loop ([⟨2,bag,0,wd,c⟩],{T with mixed:=T.mixed+c,bags:=setI T.bags bag (atI T.bags bag+c) },had,turn+1,_,_) ⟨hmk.mix (by omega) (by omega) (by omega) (by omega),by show turn+1≤10;omega,by show (1:Nat)≤22;decide,by dsimp only;omega,by dsimp only;omega,by dsimp only;omega⟩ (by show 10-(turn+1)<10-turn;omega) ⟨rfl,rfl,rfl,int_eq (by simp),trivial⟩ ⟨rfl,rfl,rfl,rfl,trivial⟩ (by repeat' (first | exact kept_nil | apply kept_cons | rfl)) (by repeat' (first | exact kept_nil | apply kept_cons | rfl)))
      | (have hq:kd=3∧bag≠oth:=by omega
         exact q_loop ([⟨3,bag,oth,0,0⟩],{T with bags:=setI (setI T.bags oth (atI T.bags oth+atI T.bags bag)) bag 0 },had,turn+1,_,_) ⟨hmk.pour (by omega) (by omega) (by omega),by show turn+1≤10;omega,by show (1:Nat)≤22;decide,by dsimp only;omega,by dsimp only;omega,by dsimp only;omega⟩ (by show 10-(turn+1)<10-turn;omega) ⟨rfl,rfl,rfl,int_eq (by simp),trivial⟩ ⟨rfl,rfl,rfl,rfl,trivial⟩ (by repeat' (first | exact kept_nil | apply kept_cons | rfl)) (by repeat' (first | exact kept_nil | apply kept_cons | rfl)))
      | (have hq:kd=4∧c≤T.bags.getD bag.toNat 0∧had+c≤drawn:=by omega
         exact q_loop ([⟨4,bag,0,0,c⟩],{T with bags:=setI T.bags bag (atI T.bags bag-c) },had+c,turn+1,_,_) ⟨hmk.aside (by omega) (by unfold atI;omega),by show turn+1≤10;omega,by show (1:Nat)≤22;decide,by dsimp only;omega,by dsimp only;omega,by dsimp only;omega⟩ (by show 10-(turn+1)<10-turn;omega) ⟨rfl,rfl,rfl,int_eq (by simp),trivial⟩ ⟨rfl,rfl,rfl,rfl,trivial⟩ (by repeat' (first | exact kept_nil | apply kept_cons | rfl)) (by repeat' (first | exact kept_nil | apply kept_cons | rfl)))
      | (have hq:kd=5∧c≤T.bags.getD bag.toNat 0∧had+c≤drawn∧T.cens+c≤cens:=by omega
         exact q_loop ([⟨5,bag,0,0,c⟩],{T with bags:=setI T.bags bag (atI T.bags bag-c),cens:=T.cens+c },had+c,turn+1,_,_) ⟨hmk.pass (by omega) (by unfold atI;omega) (by omega),by show turn+1≤10;omega,by show (1:Nat)≤22;decide,by dsimp only;omega,by dsimp only;omega,by dsimp only;omega⟩ (by show 10-(turn+1)<10-turn;omega) ⟨rfl,rfl,rfl,int_eq (by simp),trivial⟩ ⟨rfl,rfl,rfl,rfl,trivial⟩ (by repeat' (first | exact kept_nil | apply kept_cons | rfl)) (by repeat' (first | exact kept_nil | apply kept_cons | rfl)))
      | (have hq:kd=6∧T.cens<cens:=by omega
         exact q_loop ([⟨6,0,0,wd,0⟩],{T with cens:=T.cens+1 },had,turn+1,_,_) ⟨hmk.place (by omega) (by omega),by show turn+1≤10;omega,by show (1:Nat)≤22;decide,by dsimp only;omega,by dsimp only;omega,by dsimp only;omega⟩ (by show 10-(turn+1)<10-turn;omega) ⟨rfl,rfl,rfl,int_eq (by simp),trivial⟩ ⟨rfl,rfl,rfl,rfl,trivial⟩ (by repeat' (first | exact kept_nil | apply kept_cons | rfl)) (by repeat' (first | exact kept_nil | apply kept_cons | rfl)))
      | exact q_loop ([],T,had,turn+1,_,gd) ⟨hmk,by show turn+1≤10;omega,by show (([]:List Dl)).length≤22;decide,by dsimp only;omega,by dsimp only;omega,by dsimp only;omega⟩ (by show 10-(turn+1)<10-turn;omega) ⟨rfl,rfl,rfl,int_eq (by simp),trivial⟩ (by repeat' (first | exact slots_nil | apply slots_cons | rfl | (rw[map_snoc];rfl) | (rw[len_snoc];rfl) | (rw[hS];rfl) | (rw[hS,map_snoc];rfl) | (refine int_eq ?_;(try dsimp only);omega) | (refine congrArg AV.bool ?_;simp_all;done))) (by repeat' (first | exact kept_nil | apply kept_cons | rfl)) (by repeat' (first | exact kept_nil | apply kept_cons | rfl))
   | cons x l=>
     have hxl:(dlR (x::l)).length=(x::l).length:=List.length_map _
     repeat' (first
      | with_reducible (first | refine Rd.p ?_ | refine w_alt ?_ ?_ | refine zE ?_ | refine zE0 ?_)
      | with_reducible (first | refine zI fun y hy=>?_ | refine zL ?_ | refine zS ?_ | refine zA fun _=>?_ | refine zV ?_ | refine zC ?_ | refine zG ?_ | refine zU ?_ | refine zG0 ?_ | refine zU0 ?_ | refine zF ?_)
      | ((with_reducible refine acall_id ?_);refine ACall.box (upp_c _ _ (1+bg) (by omega) (by omega)) rfl rfl rfl ?_;rintro _ _ ⟨bag,rfl,hbag1,hbag2⟩)
      | with_reducible (first | refine zX ?_ | refine zD fun _=>?_ | refine zD0 ?_ | refine zN ?_ | refine zF0 ?_ | refine zX0 ?_ | refine z1 ?_ | refine z2 ?_ | refine z3 ?_ | refine z4 ?_ | refine z5 ?_ | refine z6 ?_ | refine z7 ?_ | refine z8 ?_ | refine y1 ?_ | refine y2 ?_ | refine y3 ?_ | refine y4 ?_ | refine y5 ?_ | refine y6 ?_ | refine y7 ?_ | refine y8 ?_ | refine Rt.p (fun _=>?_) fun _=>?_)
      | ((with_reducible apply w_ixM);(focus exact rfl);(focus exact rfl);case' hk=>intro y hy) | ((with_reducible (first | apply w_val | apply q_ends));(focus exact rfl)))
     repeat' (first
      | with_reducible (first | refine Rd.p ?_ | refine w_alt ?_ ?_ | refine zE ?_ | refine zE0 ?_)
      | (first | (refine w_ldBag (p:=bag.toNat) hok rfl (by omega) rfl (by omega) ?_;intro hbdB) | (refine w_ldBag (p:=oth.toNat) hok rfl (by omega) rfl (by omega) ?_;intro hbdO) | refine w_stEl (p:=bag.toNat) rfl (by omega) rfl (by first | omega | (rw[List.length_set];omega)) rfl ?_ | refine w_stEl (p:=oth.toNat) rfl (by omega) rfl (by omega) rfl ?_)
      | with_reducible (first | refine zI fun y hy=>?_ | refine zL ?_ | refine zS ?_ | refine zA fun _=>?_ | refine zV ?_ | refine zC ?_ | refine zG ?_ | refine zU ?_ | refine zG0 ?_ | refine zU0 ?_ | refine zF ?_)
      | ((with_reducible refine acall_id ?_);refine ACall.box (upp_c _ _ 7 (by omega) (by omega)) rfl rfl rfl ?_;rintro _ _ ⟨kd,rfl,hkd1,hkd2⟩)
      | ((with_reducible refine acall_id ?_);refine ACall.box (upp_c _ _ (1+bg) (by omega) (by omega)) rfl rfl rfl ?_;rintro _ _ ⟨oth,rfl,ho1,ho2⟩)
      | ((with_reducible refine acall_id ?_);refine ACall.box (any_c _ _ _ _ (by omega) (by omega) (by omega) (by omega)) rfl rfl rfl ?_;rintro _ _ ⟨c,rfl,hc1,hc2⟩)
      | ((with_reducible refine acall_id ?_);refine ACall.box (upp_c _ _ _ (by omega) (by omega)) rfl rfl rfl ?_;rintro _ _ ⟨wd,rfl,hw1,hw2⟩)
      | ((with_reducible refine acall_id ?_);refine ACall.box (one_c _ _ _ (by omega)) rfl rfl rfl ?_;rintro _ _ ⟨b,rfl⟩)
      | with_reducible (first | refine zX ?_ | refine zD fun _=>?_ | refine zD0 ?_ | refine zN ?_ | refine zF0 ?_ | refine zX0 ?_ | refine z1 ?_ | refine z2 ?_ | refine z3 ?_ | refine z4 ?_ | refine z5 ?_ | refine z6 ?_ | refine z7 ?_ | refine z8 ?_ | refine y1 ?_ | refine y2 ?_ | refine y3 ?_ | refine y4 ?_ | refine y5 ?_ | refine y6 ?_ | refine y7 ?_ | refine y8 ?_ | refine Rt.p (fun _=>?_) fun _=>?_)
      | ((with_reducible apply w_ixM);(focus exact rfl);(focus exact rfl);case' hk=>intro y hy) | ((with_reducible (first | apply w_val | apply q_ends));(focus exact rfl)))
     all_goals first
      | (exfalso;omega)
      | (have hq:kd≤2∧T.mixed+c≤12:=by omega
         exact q_loop (x::l++[⟨2,bag,0,wd,c⟩],{T with mixed:=T.mixed+c,bags:=setI T.bags bag (atI T.bags bag+c) },had,turn+1,_,_) ⟨hmk.mix (by omega) (by omega) (by omega) (by omega),by show turn+1≤10;omega,by show (x::l++[_]).length≤22;rw[len_snoc];omega,by dsimp only;omega,by dsimp only;omega,by dsimp only;omega⟩ (by show 10-(turn+1)<10-turn;omega) ⟨rfl,rfl,rfl,int_eq (by simp),trivial⟩ ⟨rfl,sl9 ⟨2,bag,0,wd,c⟩ _,rfl,rfl,trivial⟩ (by repeat' (first | exact kept_nil | apply kept_cons | rfl)) (by repeat' (first | exact kept_nil | apply kept_cons | rfl)))
      | (have hq:kd=3∧bag≠oth:=by omega
         exact q_loop (x::l++[⟨3,bag,oth,0,0⟩],{T with bags:=setI (setI T.bags oth (atI T.bags oth+atI T.bags bag)) bag 0 },had,turn+1,_,_) ⟨hmk.pour (by omega) (by omega) (by omega),by show turn+1≤10;omega,by show (x::l++[_]).length≤22;rw[len_snoc];omega,by dsimp only;omega,by dsimp only;omega,by dsimp only;omega⟩ (by show 10-(turn+1)<10-turn;omega) ⟨rfl,rfl,rfl,int_eq (by simp),trivial⟩ ⟨rfl,sl9 ⟨3,bag,oth,0,0⟩ _,rfl,rfl,trivial⟩ (by repeat' (first | exact kept_nil | apply kept_cons | rfl)) (by repeat' (first | exact kept_nil | apply kept_cons | rfl)))
      | (have hq:kd=4∧c≤T.bags.getD bag.toNat 0∧had+c≤drawn:=by omega
         exact q_loop (x::l++[⟨4,bag,0,0,c⟩],{T with bags:=setI T.bags bag (atI T.bags bag-c) },had+c,turn+1,_,_) ⟨hmk.aside (by omega) (by unfold atI;omega),by show turn+1≤10;omega,by show (x::l++[_]).length≤22;rw[len_snoc];omega,by dsimp only;omega,by dsimp only;omega,by dsimp only;omega⟩ (by show 10-(turn+1)<10-turn;omega) ⟨rfl,rfl,rfl,int_eq (by simp),trivial⟩ ⟨rfl,sl9 ⟨4,bag,0,0,c⟩ _,rfl,rfl,trivial⟩ (by repeat' (first | exact kept_nil | apply kept_cons | rfl)) (by repeat' (first | exact kept_nil | apply kept_cons | rfl)))
      | (have hq:kd=5∧c≤T.bags.getD bag.toNat 0∧had+c≤drawn∧T.cens+c≤cens:=by omega
         exact q_loop (x::l++[⟨5,bag,0,0,c⟩],{T with bags:=setI T.bags bag (atI T.bags bag-c),cens:=T.cens+c },had+c,turn+1,_,_) ⟨hmk.pass (by omega) (by unfold atI;omega) (by omega),by show turn+1≤10;omega,by show (x::l++[_]).length≤22;rw[len_snoc];omega,by dsimp only;omega,by dsimp only;omega,by dsimp only;omega⟩ (by show 10-(turn+1)<10-turn;omega) ⟨rfl,rfl,rfl,int_eq (by simp),trivial⟩ ⟨rfl,sl9 ⟨5,bag,0,0,c⟩ _,rfl,rfl,trivial⟩ (by repeat' (first | exact kept_nil | apply kept_cons | rfl)) (by repeat' (first | exact kept_nil | apply kept_cons | rfl)))
      | (have hq:kd=6∧T.cens<cens:=by omega
         exact q_loop (x::l++[⟨6,0,0,wd,0⟩],{T with cens:=T.cens+1 },had,turn+1,_,_) ⟨hmk.place (by omega) (by omega),by show turn+1≤10;omega,by show (x::l++[_]).length≤22;rw[len_snoc];omega,by dsimp only;omega,by dsimp only;omega,by dsimp only;omega⟩ (by show 10-(turn+1)<10-turn;omega) ⟨rfl,rfl,rfl,int_eq (by simp),trivial⟩ ⟨rfl,sl9 ⟨6,0,0,wd,0⟩ _,rfl,rfl,trivial⟩ (by repeat' (first | exact kept_nil | apply kept_cons | rfl)) (by repeat' (first | exact kept_nil | apply kept_cons | rfl)))
      | exact q_loop (x::l,T,had,turn+1,_,gd) ⟨hmk,by show turn+1≤10;omega,by show (x::l).length≤22;omega,by dsimp only;omega,by dsimp only;omega,by dsimp only;omega⟩ (by show 10-(turn+1)<10-turn;omega) ⟨rfl,rfl,rfl,int_eq (by simp),trivial⟩ (by repeat' (first | exact slots_nil | apply slots_cons | rfl | (rw[map_snoc];rfl) | (rw[len_snoc];rfl) | (rw[hS];rfl) | (rw[hS,map_snoc];rfl) | (refine int_eq ?_;(try dsimp only);omega) | (refine congrArg AV.bool ?_;simp_all;done))) (by repeat' (first | exact kept_nil | apply kept_cons | rfl)) (by repeat' (first | exact kept_nil | apply kept_cons | rfl))
 · have hstop:¬(turn:Int)<10∨(turn:Int)<10∧ ¬(D.length:Int)<22:=by omega
   cases D with
   | nil=>
     have hT:tb0=T:=hmk.t
     subst hT
     have hz:([]:List Dl).length=0:=rfl
     have hb0:tb0.bags.getD 0 0=0:=rfl
     have hc0:tb0.cens=0:=rfl
     repeat' (first
      | with_reducible (first | refine Rd.p ?_ | refine w_alt ?_ ?_ | refine zE ?_ | refine zE0 ?_)
      | (first | refine w_ldEl (p:=0) rfl rfl rfl (by decide) ?_)
      | with_reducible (first | refine zI fun y hy=>?_ | refine zL ?_ | refine zS ?_ | refine zA fun _=>?_ | refine zV ?_ | refine zC ?_ | refine zG ?_ | refine zU ?_ | refine zG0 ?_ | refine zU0 ?_ | refine zF ?_)
      | ((with_reducible refine acall_id ?_);refine ACall.box (upp_c _ _ _ (by omega) (by omega)) rfl rfl rfl ?_;rintro _ _ ⟨wd,rfl,hwd1,hwd2⟩)
      | with_reducible (first | refine zX ?_ | refine zD fun _=>?_ | refine zD0 ?_ | refine zN ?_ | refine zF0 ?_ | refine zX0 ?_ | refine z1 ?_ | refine z2 ?_ | refine z3 ?_ | refine z4 ?_ | refine z5 ?_ | refine z6 ?_ | refine z7 ?_ | refine z8 ?_ | refine y1 ?_ | refine y2 ?_ | refine y3 ?_ | refine y4 ?_ | refine y5 ?_ | refine y6 ?_ | refine y7 ?_ | refine y8 ?_ | refine Rt.p (fun _=>?_) fun _=>?_)
      | ((with_reducible apply w_ixM);(focus exact rfl);(focus exact rfl);case' hk=>intro y hy) | ((with_reducible (first | apply w_val | apply q_ends));(focus exact rfl)))
     all_goals first
      | (exfalso;omega)
      | exact⟨_,⟨⟨ws,[⟨6,0,0,wd,0⟩]⟩,rfl,mkG.made (G:=⟨ws,[⟨6,0,0,wd,0⟩]⟩) (hmk.place (by omega) (by omega)) hmw hw1 hw2 h1.2 (by show (1:Nat)≤24;decide) hhd ⟨by show (1:Int)≤tb0.cens+1;omega,by show tb0.cens+1≤cens;omega⟩⟩,rfl⟩
   | cons x l=>
     have hxl:(dlR (x::l)).length=(x::l).length:=List.length_map _
     rcases hstop with hstop | ⟨hstop,hstop2⟩
     all_goals
      repeat' (first
       | with_reducible (first | refine Rd.p ?_ | refine w_alt ?_ ?_ | refine zE ?_ | refine zE0 ?_)
       | (first | (refine w_ldBag (p:=0) hok rfl rfl rfl (by decide) ?_;intro hbd0))
       | with_reducible (first | refine zI fun y hy=>?_ | refine zL ?_ | refine zS ?_ | refine zA fun _=>?_ | refine zV ?_ | refine zC ?_ | refine zG ?_ | refine zU ?_ | refine zG0 ?_ | refine zU0 ?_ | refine zF ?_)
       | ((with_reducible refine acall_id ?_);refine ACall.box (upp_c _ _ _ (by omega) (by omega)) rfl rfl rfl ?_;rintro _ _ ⟨wd,rfl,hwd1,hwd2⟩)
       | with_reducible (first | refine zX ?_ | refine zD fun _=>?_ | refine zD0 ?_ | refine zN ?_ | refine zF0 ?_ | refine zX0 ?_ | refine z1 ?_ | refine z2 ?_ | refine z3 ?_ | refine z4 ?_ | refine z5 ?_ | refine z6 ?_ | refine z7 ?_ | refine z8 ?_ | refine y1 ?_ | refine y2 ?_ | refine y3 ?_ | refine y4 ?_ | refine y5 ?_ | refine y6 ?_ | refine y7 ?_ | refine y8 ?_ | refine Rt.p (fun _=>?_) fun _=>?_)
       | ((with_reducible apply w_ixM);(focus exact rfl);(focus exact rfl);case' hk=>intro y hy) | ((with_reducible (first | apply w_val | apply q_ends));(focus exact rfl)))
      all_goals first
       | (exfalso;omega)
       | (have hq:0<min (min (T.bags.getD 0 0) (drawn-had)) (cens-T.cens):=by omega
          exact⟨_,⟨⟨ws,x::l++[⟨5,0,0,0,min (min (T.bags.getD 0 0) (drawn-had)) (cens-T.cens)⟩]⟩,by
           show AV.agg [AV.slc 2 (wR ws) .non,AV.slc 5 _ .non]=_
           exact gm_snoc (ws:=ws) (x:=x) (l:=l) ⟨5,0,0,0,min (min (T.bags.getD 0 0) (drawn-had)) (cens-T.cens)⟩,mkG.made (G:=⟨ws,x::l++[⟨5,0,0,0,min (min (T.bags.getD 0 0) (drawn-had)) (cens-T.cens)⟩]⟩) (hmk.pass (b:=0) (by omega) (by unfold atI;rw[show (0:Int).toNat=0 from rfl];omega) (by omega)) hmw hw1 hw2 h1.2 (by show (x::l++[_]).length≤24;rw[len_snoc];omega) (by omega) ⟨by dsimp only;omega,by dsimp only;omega⟩⟩,rfl⟩)
       | (have hq:T.cens=0:=by omega
          exact⟨_,⟨⟨ws,x::l++[⟨6,0,0,wd,0⟩]⟩,by
           show AV.agg [AV.slc 2 (wR ws) .non,AV.slc 5 _ .non]=_
           exact gm_snoc (ws:=ws) (x:=x) (l:=l) ⟨6,0,0,wd,0⟩,mkG.made (G:=⟨ws,x::l++[⟨6,0,0,wd,0⟩]⟩) (hmk.place (by omega) (by omega)) hmw hw1 hw2 h1.2 (by show (x::l++[_]).length≤24;rw[len_snoc];omega) hhd ⟨by dsimp only;omega,by dsimp only;omega⟩⟩,rfl⟩)
       | exact⟨_,⟨⟨ws,x::l⟩,rfl,mkG.made (G:=⟨ws,x::l⟩) hmk hmw hw1 hw2 h1.2 (by show (x::l).length≤24;omega) hhd ⟨by omega,hcn⟩⟩,rfl⟩
def ir59:IFn:=
 ⟨68,[],(.seq (.ops [oo 6 (.mov 0),
 oo 7 (.nck 6),
 oo 8 (.flA 2 7),
 oo 9 (.ld 1 false 8),
 oo 10 (.bld [(.int .i64 0),(.int .i64 0),(.int .i64 0),(.int .i64 0),(.int .i64 0),(.int .i64 0),(.int .i64 0),(.int .i64 0),(.int .i64 0),(.int .i64 0),(.int .i64 0),(.int .i64 0),(.int .i64 0),(.int .i64 0),(.int .i64 0),(.int .i64 0),(.int .i64 0),(.int .i64 0),(.int .i64 0),(.int .i64 0),(.int .i64 0),(.int .i64 0),(.int .i64 0),(.int .i64 0)] []),
 oo 11 (.mov 1),
 oo 12 (.callF 92 [9,10,11]),
 oo 4 (.mov 12)])
 (.seq (.seq (.ops [oo 13 (.mov 4),
 oo 14 (.bin .eql 13 (kI 0)),
 oo 15 (.mov 14),
 ⟨(some 16),(some (15,false)),(.mov 0)⟩,
 ⟨(some 17),(some (15,false)),(.nck 16)⟩,
 ⟨(some 18),(some (15,false)),(.flA 4 17)⟩,
 ⟨(some 19),(some (15,false)),(.ld 1 false 18)⟩,
 ⟨(some 20),(some (15,false)),(.len false 19)⟩,
 ⟨(some 21),(some (15,false)),(.bin .gtr 20 (kI 5000))⟩,
 oo 22 (.pick 15 (kB true) 21)])
 (.cnd 22
 .ret
 .skip))
 (.seq (.seq (.ops [oo 23 (.mov 1),
 oo 24 (.len false 23),
 oo 25 (.mov 0),
 oo 26 (.nck 25),
 oo 27 (.flA 3 26),
 oo 28 (.ld 1 false 27),
 oo 29 (.bin .eql 24 28)])
 (.cnd 29
 (.seq (.ops [oo 30 (.mov 0),
 oo 31 (.mov 0),
 oo 32 (.mov 0),
 oo 33 (.nck 32),
 oo 34 (.flA 4 33),
 oo 35 (.ld 1 false 34),
 oo 36 (.mov 1),
 oo 37 (.bsl 1 [[.nsl]] [(0,36)]),
 oo 39 (.mov 0),
 oo 40 (.nck 39),
 oo 41 (.flA 5 40),
 oo 42 (.ld 1 false 41),
 oo 43 (.mov 4),
 oo 44 (.bsl 1 [[(.int .i64 0)]] [(0,43)]),
 oo 38 (.app 1 24 35 37 1001),
 ⟨none,none,(.chk 1 false 41 42)⟩,
 oo 45 (.app 1 8 42 44 1002),
 oo 46 (.nck 30),
 oo 47 (.flA 4 46),
 ⟨none,none,(.st 1 47 38)⟩,
 oo 48 (.nck 31),
 oo 49 (.flA 5 48),
 ⟨none,none,(.st 1 49 45)⟩])
 .ret)
 .skip))
 (.seq (.ops [oo 5 (.mov (kI 0))])
 (.blk 0 (.loop (.seq (.seq (.ops [oo 50 (.mov 5),
 oo 51 (.mov 0),
 oo 52 (.nck 51),
 oo 53 (.flA 0 52),
 oo 54 (.flA 0 53),
 oo 55 (.ld 1 false 54),
 oo 56 (.len false 55),
 oo 57 (.bin .lss 50 56)])
 (.cnd 57
 .skip
 (.exit 0)))
 (.seq (.blk 1 (.ops [oo 60 (.mov 0),
 oo 61 (.bsl 1 [] []),
 oo 62 (.mov 1),
 oo 63 (.app 1 8 61 62 63),
 oo 64 (.mov 5),
 oo 65 (.bsl 1 [[(.int .i64 0)]] [(0,64)]),
 oo 66 (.app 1 8 63 65 66),
 oo 67 (.callF 59 [60,66])]))
 (.ops [oo 58 (.mov 5),
 oo 59 (.bin .add 58 (kI 1)),
 oo 5 (.mov 59)])))))))))⟩
def hint59 (P:Program):Hint:={site:=[(38,1001),(45,1002)],nils:=[],frz:=[],mve:=[],wr:=[] }
def goO (n:Nat) (A:List Dl) (k:Nat) (c:List Int) (l:List (List Int×Int)):List (List Int×Int):=l++(crsR n (A.map spOf) bg0 k c).take (5001-l.length)
theorem goO_over {n:Nat} {A:List Dl} {k:Nat} {c:List Int} {l:List (List Int×Int)} (h:5000<l.length):goO n A k c l=l:=by
 unfold goO
 rw[show 5001-l.length=0 by omega,List.take_zero,List.append_nil]
theorem goO_zero {n:Nat} {A:List Dl} {c:List Int} {l:List (List Int×Int)} (k:Nat) (h:cntP (A.map spOf) c bg0=0):goO n A k c l=l:=by
 unfold goO
 cases k<;>rw[crsR,if_pos h,List.take_nil,List.append_nil]
theorem goO_leaf {n:Nat} {A:List Dl} {c:List Int} {l:List (List Int×Int)} (h:¬cntP (A.map spOf) c bg0=0) (hl:¬5000<l.length):goO n A 0 c l=l++[(c,cntP (A.map spOf) c bg0)]:=by
 unfold goO
 rw[crsR,if_neg h,List.take_of_length_le (by show 1≤_;omega)]
def goF (n:Nat) (A:List Dl) (k:Nat) (c:List Int) (v:Nat) (l:List (List Int×Int)):List (List Int×Int):=l++((List.range v).flatMap fun (w:Nat)=>crsR n (A.map spOf) bg0 k (c++[(w:Int)])).take (5001-l.length)
theorem take_glue {α:Type} (X Y:List α) (m:Nat):X.take m++Y.take (m-(X.take m).length)=(X++Y).take m:=by
 rw[List.take_append,List.length_take]
 congr 2
 omega
theorem goF_step (n:Nat) (A:List Dl) (k:Nat) (c:List Int) (v:Nat) (l:List (List Int×Int)):goO n A k (c++[(v:Int)]) (goF n A k c v l)=goF n A k c (v+1) l:=by
 unfold goO goF
 rw[List.length_append,Nat.sub_add_eq,List.append_assoc,take_glue,List.range_succ,List.flatMap_append,List.flatMap_cons,List.flatMap_nil,List.append_nil]
theorem goF_all {n:Nat} {A:List Dl} {k:Nat} {c:List Int} {l:List (List Int×Int)} (h:¬cntP (A.map spOf) c bg0=0):goF n A k c n l=goO n A (k+1) c l:=by
 unfold goO goF
 rw[crsR,if_neg h]
theorem goOn0 (G:Gm) (A:List Dl) (b:List Int) (m:Int) (H:goH G A b m) (c:List Int) (hc:c.length<1000) (l:List (List Int×Int)) (hl:l.length<6000) (g h1 h2:Nat):
  RawC Try.prog 59 [.ref 1000 g 0,.slc 1 (iR c) .non] (sg (soS 1001 g G A (c.length:Int) l h1 h2)) (SR (fun (x:List (List Int×Int)×Nat×Nat) _=>x.1=goO G.ws.length A 0 c l) (fun x=>soS 1001 g G A (c.length:Int) x.1 x.2.1 x.2.2)):=by
 have hcn:=H.cnt (.inr rfl) hc
 have hcl:(iR c).length=c.length:=List.length_map _
 by_cases h0:cntP (A.map spOf) c bg0=0
 · rw[goO_zero 0 h0]
   rw[h0] at hcn
   refine RawC.walk (H:=hint59 Try.prog) ir59 Try.func59 rfl rfl rfl ?_
   unfold ir59
   repeat' (first
    | refine advE ?_ | with_reducible refine w_alt ?_ ?_
    | with_reducible refine zI fun y hy=>?_ | refine advL ?_
    | ((with_reducible refine acall_id ?_);refine ACall.cnt hcn rfl rfl ?_)
    | refine adv ?_ | with_reducible (first | intro _ | refine Rt.p (fun _=>?_) fun _=>?_)
    | ((with_reducible apply w_ixM);(focus exact rfl);(focus exact rfl);case' hk=>intro y hy) | ((with_reducible (first | apply w_val | apply q_ends));(focus exact rfl)))
   all_goals first
    | (exfalso;omega)
    | exact⟨(l,h1,h2),rfl,rfl,rfl,rfl,trivial⟩
 obtain⟨N,hN⟩:∃N,cntP (A.map spOf) c bg0=N:=⟨_,rfl⟩
 rw[hN] at hcn
 have h0':¬N=0:=by rw[←hN];exact h0
 cases l with
 | nil=>
   rw[goO_leaf h0 (by simp),hN]
   refine RawC.walk (H:=hint59 Try.prog) ir59 Try.func59 rfl rfl rfl ?_
   unfold ir59
   repeat' (first
    | refine advE ?_ | with_reducible refine w_alt ?_ ?_
    | with_reducible refine zI fun y hy=>?_ | refine advL ?_
    | ((with_reducible refine acall_id ?_);refine ACall.cnt hcn rfl rfl ?_)
    | refine adv ?_ | with_reducible (first | intro _ | refine Rt.p (fun _=>?_) fun _=>?_)
    | ((with_reducible apply w_ixM);(focus exact rfl);(focus exact rfl);case' hk=>intro y hy) | ((with_reducible (first | apply w_val | apply q_ends));(focus exact rfl)))
   all_goals try (exfalso;omega)
   rename_i k1 k2
   exact⟨([(c,N)],k1,k2),rfl,rfl,rfl,rfl,trivial⟩
 | cons x l=>
   have hl1:((x::l).map (·.1)).length=(x::l).length:=List.length_map _
   have hl2:((x::l).map (·.2)).length=(x::l).length:=List.length_map _
   by_cases h5:5000<(x::l).length
   · rw[goO_over h5]
     refine RawC.walk (H:=hint59 Try.prog) ir59 Try.func59 rfl rfl rfl ?_
     unfold ir59
     repeat' (first
      | refine advE ?_ | with_reducible refine w_alt ?_ ?_
      | with_reducible refine zI fun y hy=>?_ | refine advL ?_
      | ((with_reducible refine acall_id ?_);refine ACall.cnt hcn rfl rfl ?_)
      | refine adv ?_ | with_reducible (first | intro _ | refine Rt.p (fun _=>?_) fun _=>?_)
      | ((with_reducible apply w_ixM);(focus exact rfl);(focus exact rfl);case' hk=>intro y hy) | ((with_reducible (first | apply w_val | apply q_ends));(focus exact rfl)))
     all_goals first
      | (exfalso;omega)
      | exact⟨(x::l,h1,h2),rfl,rfl,rfl,rfl,trivial⟩
   · rw[goO_leaf h0 h5,hN]
     refine RawC.walk (H:=hint59 Try.prog) ir59 Try.func59 rfl rfl rfl ?_
     unfold ir59
     repeat' (first
      | refine advE ?_ | with_reducible refine w_alt ?_ ?_
      | with_reducible refine zI fun y hy=>?_ | refine advL ?_
      | ((with_reducible refine acall_id ?_);refine ACall.cnt hcn rfl rfl ?_)
      | refine adv ?_ | with_reducible (first | intro _ | refine Rt.p (fun _=>?_) fun _=>?_)
      | ((with_reducible apply w_ixM);(focus exact rfl);(focus exact rfl);case' hk=>intro y hy) | ((with_reducible (first | apply w_val | apply q_ends));(focus exact rfl)))
     all_goals try (exfalso;omega)
     rename_i k1 k2
     have e1:llR ((x::l).map (·.1)++[c])=llR ((x::l++[(c,N)]).map (·.1)):=by simp
     have e2:iR ((x::l).map (·.2)++[N])=iR ((x::l++[(c,N)]).map (·.2)):=by simp
     exact⟨(x::l++[(c,N)],k1,k2),rfl,by
      show (g,Res.row (soR G A (c.length:Int) (.slc 1 (llR ((x::l).map (·.1)++[c])) (.own 1001 k1)) (.slc 1 (iR ((x::l).map (·.2)++[N])) (.own 1002 k2))))=_
      rw[e1,e2];rfl,rfl,rfl,trivial⟩
theorem goOn1 (G:Gm) (A:List Dl) (b:List Int) (m:Int) (H:goH G A b m):∀(k:Nat) (c:List Int) (a:AV),CV a c→c.length+(k+1)<1000→ ∀(l:List (List Int×Int)),l.length<6000→ ∀(g h1 h2:Nat),
  RawC Try.prog 59 [.ref 1000 g 0,a] (sg (soS 2001 g G A ((c.length+(k+1):Nat):Int) l h1 h2)) (SR (fun (x:List (List Int×Int)×Nat×Nat) _=>x.1=goO G.ws.length A (k+1) c l) (fun x=>soS 2001 g G A ((c.length+(k+1):Nat):Int) x.1 x.2.1 x.2.2))
 | k,c,a,ha,hc,l,hl,g,h1,h2=>by
   have hcn:=H.cnt ha (by omega)
   have hcl:(iR c).length=c.length:=List.length_map _
   have hn6:=H.n6
   have hwl:(wR G.ws).length=G.ws.length:=List.length_map _
   obtain⟨M,hM⟩:∃M,c.length+(k+1)=M:=⟨_,rfl⟩
   rw[hM] at hc ⊢
   by_cases h0:cntP (A.map spOf) c bg0=0
   · rw[goO_zero (k+1) h0]
     rw[h0] at hcn
     rcases ha with⟨rfl,rfl⟩ | rfl
     all_goals
      refine RawC.walk (H:=hint59 Try.prog) ir59 Try.func59 rfl rfl rfl ?_
      unfold ir59
      repeat' (first
       | refine advE ?_ | with_reducible refine w_alt ?_ ?_
       | with_reducible refine zI fun y hy=>?_ | refine advL ?_
       | ((with_reducible refine acall_id ?_);refine ACall.cnt hcn rfl rfl ?_)
       | refine adv ?_ | with_reducible (first | intro _ | refine Rt.p (fun _=>?_) fun _=>?_)
       | ((with_reducible apply w_ixM);(focus exact rfl);(focus exact rfl);case' hk=>intro y hy) | ((with_reducible (first | apply w_val | apply q_ends));(focus exact rfl)))
      all_goals first
       | (exfalso;omega)
       | exact⟨(l,h1,h2),rfl,rfl,rfl,rfl,trivial⟩
   obtain⟨N,hN⟩:∃N,cntP (A.map spOf) c bg0=N:=⟨_,rfl⟩
   rw[hN] at hcn
   have h0':¬N=0:=by rw[←hN];exact h0
   by_cases h5:5000<l.length
   · rw[goO_over h5]
     cases l with
     | nil=>simp at h5
     | cons x l=>
       have hl1:((x::l).map (·.1)).length=(x::l).length:=List.length_map _
       rcases ha with⟨rfl,rfl⟩ | rfl
       all_goals
        refine RawC.walk (H:=hint59 Try.prog) ir59 Try.func59 rfl rfl rfl ?_
        unfold ir59
        repeat' (first
         | refine advE ?_ | with_reducible refine w_alt ?_ ?_
         | with_reducible refine zI fun y hy=>?_ | refine advL ?_
         | ((with_reducible refine acall_id ?_);refine ACall.cnt hcn rfl rfl ?_)
         | refine adv ?_ | with_reducible (first | intro _ | refine Rt.p (fun _=>?_) fun _=>?_)
         | ((with_reducible apply w_ixM);(focus exact rfl);(focus exact rfl);case' hk=>intro y hy) | ((with_reducible (first | apply w_val | apply q_ends));(focus exact rfl)))
        all_goals first
         | (exfalso;omega)
         | exact⟨(x::l,h1,h2),rfl,rfl,rfl,rfl,trivial⟩
   rw[←goF_all h0]
   have hF0:goF G.ws.length A k c 0 l=l:=by unfold goF;simp
   have hFl:∀v,(goF G.ws.length A k c v l).length<6000:=fun v=>by
    unfold goF
    rw[List.length_append,List.length_take];omega
   have hstep:=goF_step G.ws.length A k c
   have hlp:∀(v:Nat),v<G.ws.length→ ∀(k1 k2:Nat) (σ:Sig) (d:Nat) (t:Tag) (Q:AV→Sig→Prop),renT (flipL [(1000,1000),(2001,2001),(2002,2002)]) t= .non→renT (flipL [(1000,1000)]) t= .non→renT (flipL [(1000,1000),(1001,2001),(1002,2002)]) t= .non→σ 1000=(g,.row (soR G A (M:Int) (goV 2001 (goF G.ws.length A k c v l) k1) (goW 2002 (goF G.ws.length A k c v l) k2)))→σ 2001=goX (goF G.ws.length A k c v l) k1→σ 2002=goX (goF G.ws.length A k c v l) k2→
     (∀(k1 k2:Nat) av,Q av (upd (upd (upd σ 2002 (goX (goF G.ws.length A k c (v+1) l) k2)) 2001 (goX (goF G.ws.length A k c (v+1) l) k1)) 1000 (g,.row (soR G A (M:Int) (goV 2001 (goF G.ws.length A k c (v+1) l) k1) (goW 2002 (goF G.ws.length A k c (v+1) l) k2)))))→
     ACall Try.prog 59 [.ref 1000 g 0,.slc 1 (iR (c++[(v:Int)])) t] σ d Q:=fun v hv k1 k2 σ d t Q ht1 ht2 ht3 q1 q2 q3 hQ=>by
    have hlen:(c++[(v:Int)]).length=c.length+1:=by simp
    have ha1:[AV.ref 1000 g 0,.slc 1 (iR (c++[(v:Int)])) .non]=renL (flipL [(1000,1000)]) [.ref 1000 g 0,.slc 1 (iR (c++[(v:Int)])) t]:=by
     show _=[AV.ref 1000 g 0,.slc 1 (iR (c++[(v:Int)])) (renT (flipL [(1000,1000)]) t)]
     rw[ht2]
    have ha2:[AV.ref 1000 g 0,.slc 1 (iR (c++[(v:Int)])) .non]=renL (flipL [(1000,1000),(2001,2001),(2002,2002)]) [.ref 1000 g 0,.slc 1 (iR (c++[(v:Int)])) t]:=by
     show _=[AV.ref 1000 g 0,.slc 1 (iR (c++[(v:Int)])) (renT (flipL [(1000,1000),(2001,2001),(2002,2002)]) t)]
     rw[ht1]
    cases k with
    | zero=>
      have ih:=goOn0 G A b m H (c++[(v:Int)]) (by omega) (goF G.ws.length A 0 c v l) (hFl v) g k1 k2
      rw[goF_step,show (((c++[(v:Int)]).length:Nat):Int)=(M:Int) by omega] at ih
      refine ACall.so (C:=fun x=>x=goF G.ws.length A 0 c (v+1) l) (s0:=1001) ih (by decide) (by decide) rfl rfl rfl rfl rfl rfl rfl rfl rfl rfl rfl ha1 ?_ q1 q2 q3 ?_
      · show _=[AV.ref 1000 g 0,.slc 1 (iR (c++[(v:Int)])) (renT (flipL [(1000,1000),(1001,2001),(1002,2002)]) t)]
        rw[ht3]
      · rintro _ k1 k2 av rfl
        exact hQ k1 k2 av
    | succ k=>
      have ih:=goOn1 G A b m H k (c++[(v:Int)]) (.slc 1 (iR (c++[(v:Int)])) .non) (.inr rfl) (by omega) (goF G.ws.length A (k+1) c v l) (hFl v) g k1 k2
      rw[goF_step,show (((c++[(v:Int)]).length+(k+1):Nat):Int)=(M:Int) by omega] at ih
      refine ACall.so (C:=fun x=>x=goF G.ws.length A (k+1) c (v+1) l) (s0:=2001) ih (by decide) (by decide) rfl rfl rfl rfl rfl rfl rfl rfl rfl rfl rfl ha1 ha2 q1 q2 q3 ?_
      rintro _ k1 k2 av rfl
      exact hQ k1 k2 av
   obtain⟨F,hF⟩:∃F:Nat→List (List Int×Int),(fun v=>goF G.ws.length A k c v l)=F:=⟨_,rfl⟩
   have hFv:∀v,goF G.ws.length A k c v l=F v:=fun v=>by rw[←hF]
   simp only[hFv] at hlp hF0 ⊢
   clear hstep hFl hFv hF
   cases l with
   | nil=>
     rcases ha with⟨rfl,rfl⟩ | rfl
     all_goals
      refine RawC.walk (H:=hint59 Try.prog) ir59 Try.func59 rfl rfl rfl ?_
      unfold ir59
      repeat' (first
       | refine advE ?_ | with_reducible refine w_alt ?_ ?_
       | with_reducible refine zI fun y hy=>?_ | refine advL ?_
       | ((with_reducible refine acall_id ?_);refine ACall.cnt hcn rfl rfl ?_)
       | refine adv ?_ | with_reducible (first | intro _ | refine Rt.p (fun _=>?_) fun _=>?_)
       | ((with_reducible apply w_ixM);(focus exact rfl);(focus exact rfl);case' hk=>intro y hy) | ((with_reducible (first | apply w_val | apply q_ends));(focus exact rfl)))
      all_goals try (exfalso;omega)
      refine w_loopK [0,1] [] (fun x:Nat×Nat×Nat=>x.1≤G.ws.length) (fun x=>G.ws.length-x.1) (fun x=>[(5,.int .i64 (x.1:Int))]) (fun x=>[(1000,(g,.row (soR G A (M:Int) (goV 2001 (F x.1) x.2.1) (goW 2002 (F x.1) x.2.2)))),(2001,goX (F x.1) x.2.1),(2002,goX (F x.1) x.2.2)]) (0,h1,h2) (Nat.zero_le _) ⟨rfl,trivial⟩ ⟨by rw[hF0];rfl,by rw[hF0];rfl,by rw[hF0];rfl,trivial⟩ ?_
      rintro⟨v,k1,k2⟩ hv e σ
      dsimp only at hv ⊢
      by_cases hvn:v=G.ws.length
      · subst hvn
        repeat' (first
         | refine advE ?_ | with_reducible refine w_alt ?_ ?_
         | with_reducible refine zI fun y hy=>?_ | refine advL ?_
         | refine adv ?_ | with_reducible (first | intro _ | refine Rt.p (fun _=>?_) fun _=>?_)
         | ((with_reducible apply w_ixM);(focus exact rfl);(focus exact rfl);case' hk=>intro y hy) | ((with_reducible (first | apply w_val | apply q_ends));(focus exact rfl)))
        all_goals first
         | (exfalso;omega)
         | exact⟨(F G.ws.length,k1,k2),rfl,rfl,rfl,rfl,trivial⟩
      · repeat' (first
         | refine advE ?_ | with_reducible refine w_alt ?_ ?_
         | with_reducible refine zI fun y hy=>?_ | refine advL ?_
         | ((with_reducible refine acall_id ?_);(refine hlp v (by omega) _ _ _ _ _ _ rfl rfl rfl rfl rfl rfl ?_;intro k3 k4 av))
         | refine adv ?_ | with_reducible (first | intro _ | refine Rt.p (fun _=>?_) fun _=>?_)
         | ((with_reducible apply w_ixM);(focus exact rfl);(focus exact rfl);case' hk=>intro y hy) | ((with_reducible (first | apply w_val | apply q_ends));(focus exact rfl)))
        all_goals first
         | (exfalso;omega)
         | exact q_loop (v+1,k3,k4) (by show v+1≤_;omega) (by show _-(v+1)<_-v;omega) ⟨int_eq (by simp),trivial⟩ (by repeat' (first | exact slots_nil | apply slots_cons | rfl | (rw[map_snoc];rfl) | (rw[len_snoc];rfl) | (rw[hS];rfl) | (rw[hS,map_snoc];rfl) | (refine int_eq ?_;(try dsimp only);omega) | (refine congrArg AV.bool ?_;simp_all;done))) (by repeat' (first | exact kept_nil | apply kept_cons | rfl)) (by repeat' (first | exact kept_nil | apply kept_cons | rfl))
   | cons x l=>
     have hl1:((x::l).map (·.1)).length=(x::l).length:=List.length_map _
     rcases ha with⟨rfl,rfl⟩ | rfl
     all_goals
      refine RawC.walk (H:=hint59 Try.prog) ir59 Try.func59 rfl rfl rfl ?_
      unfold ir59
      repeat' (first
       | refine advE ?_ | with_reducible refine w_alt ?_ ?_
       | with_reducible refine zI fun y hy=>?_ | refine advL ?_
       | ((with_reducible refine acall_id ?_);refine ACall.cnt hcn rfl rfl ?_)
       | refine adv ?_ | with_reducible (first | intro _ | refine Rt.p (fun _=>?_) fun _=>?_)
       | ((with_reducible apply w_ixM);(focus exact rfl);(focus exact rfl);case' hk=>intro y hy) | ((with_reducible (first | apply w_val | apply q_ends));(focus exact rfl)))
      all_goals try (exfalso;omega)
      refine w_loopK [0,1] [] (fun x:Nat×Nat×Nat=>x.1≤G.ws.length) (fun x=>G.ws.length-x.1) (fun x=>[(5,.int .i64 (x.1:Int))]) (fun x=>[(1000,(g,.row (soR G A (M:Int) (goV 2001 (F x.1) x.2.1) (goW 2002 (F x.1) x.2.2)))),(2001,goX (F x.1) x.2.1),(2002,goX (F x.1) x.2.2)]) (0,h1,h2) (Nat.zero_le _) ⟨rfl,trivial⟩ ⟨by rw[hF0];rfl,by rw[hF0];rfl,by rw[hF0];rfl,trivial⟩ ?_
      rintro⟨v,k1,k2⟩ hv e σ
      dsimp only at hv ⊢
      by_cases hvn:v=G.ws.length
      · subst hvn
        repeat' (first
         | refine advE ?_ | with_reducible refine w_alt ?_ ?_
         | with_reducible refine zI fun y hy=>?_ | refine advL ?_
         | refine adv ?_ | with_reducible (first | intro _ | refine Rt.p (fun _=>?_) fun _=>?_)
         | ((with_reducible apply w_ixM);(focus exact rfl);(focus exact rfl);case' hk=>intro y hy) | ((with_reducible (first | apply w_val | apply q_ends));(focus exact rfl)))
        all_goals first
         | (exfalso;omega)
         | exact⟨(F G.ws.length,k1,k2),rfl,rfl,rfl,rfl,trivial⟩
      · repeat' (first
         | refine advE ?_ | with_reducible refine w_alt ?_ ?_
         | with_reducible refine zI fun y hy=>?_ | refine advL ?_
         | ((with_reducible refine acall_id ?_);(refine hlp v (by omega) _ _ _ _ _ _ rfl rfl rfl rfl rfl rfl ?_;intro k3 k4 av))
         | refine adv ?_ | with_reducible (first | intro _ | refine Rt.p (fun _=>?_) fun _=>?_)
         | ((with_reducible apply w_ixM);(focus exact rfl);(focus exact rfl);case' hk=>intro y hy) | ((with_reducible (first | apply w_val | apply q_ends));(focus exact rfl)))
        all_goals first
         | (exfalso;omega)
         | exact q_loop (v+1,k3,k4) (by show v+1≤_;omega) (by show _-(v+1)<_-v;omega) ⟨int_eq (by simp),trivial⟩ (by repeat' (first | exact slots_nil | apply slots_cons | rfl | (rw[map_snoc];rfl) | (rw[len_snoc];rfl) | (rw[hS];rfl) | (rw[hS,map_snoc];rfl) | (refine int_eq ?_;(try dsimp only);omega) | (refine congrArg AV.bool ?_;simp_all;done))) (by repeat' (first | exact kept_nil | apply kept_cons | rfl)) (by repeat' (first | exact kept_nil | apply kept_cons | rfl))
def ir22:IFn:=
 ⟨35,[(2,none),(3,none),(4,none)],(.seq (.ops [oo 1 (.box 2 0),
 oo 2 (.mov (.k .nsl)),
 oo 3 (.mov (.k .nsl)),
 oo 4 (.mov (kI 0))])
 (.seq (.seq (.ops [oo 7 (.ld 2 true 1),
 oo 8 (.callF 19 [7]),
 oo 5 (.mov 8)])
 (.seq (.ops [oo 9 (.mov 5),
 oo 10 (.bin .neq 9 (kI 0))])
 (.cnd 10
 (.seq (.ops [oo 11 (.mov 5),
 oo 2 (.mov (.k .nsl)),
 oo 3 (.mov (.k .nsl)),
 oo 4 (.mov 11)])
 .ret)
 .skip)))
 (.seq (.ops [oo 12 (.ld 2 true 1),
 oo 13 (.ld 2 true 1),
 oo 15 (.ld 2 true 1),
 oo 14 (.callF 58 [13]),
 ⟨none,none,(.chk 2 true 1 12)⟩,
 ⟨none,none,(.chk 2 true 1 15)⟩,
 oo 16 (.callF 41 [15]),
 ⟨none,none,(.chk 2 true 1 12)⟩,
 oo 17 (.bld [.nsl,.nsl,.nsl,(.int .i64 0),.nsl,.nsl] [(0,2,12),(2,1,14),(3,1,16)]),
 oo 18 (.box 6 17),
 oo 6 (.mov 18)])
 (.seq (.ops [oo 19 (.mov 6),
 oo 20 (.callF 59 [19,(.k .nsl)])])
 (.seq (.seq (.ops [oo 21 (.mov 6),
 oo 22 (.nck 21),
 oo 23 (.flA 4 22),
 oo 24 (.ld 1 false 23),
 oo 25 (.len false 24),
 oo 26 (.bin .gtr 25 (kI 5000))])
 (.cnd 26
 (.seq (.ops [oo 2 (.mov (.k .nsl)),
 oo 3 (.mov (.k .nsl)),
 oo 4 (.mov (kI 8))])
 .ret)
 .skip))
 (.seq (.ops [oo 27 (.mov 6),
 oo 28 (.nck 27),
 oo 29 (.flA 4 28),
 oo 30 (.ld 1 false 29),
 oo 31 (.mov 6),
 oo 32 (.nck 31),
 oo 33 (.flA 5 32),
 oo 34 (.ld 1 false 33),
 oo 2 (.mov 30),
 oo 3 (.mov 34),
 oo 4 (.mov (kI 0))])
 .ret))))))⟩
def hint22 (P:Program):Hint:={}
theorem crsR_crsG {G:Gm} (h:GOK G):crsR G.ws.length ((actsF G.ds).map spOf) bg0 (censG (stepsG G.ds)) []=crsG G:=by
 rw[acts_sp,crsR_eq h.n6 tb0_in (runOK_nrm h.ex) (wdOK_nrm h.wd) (bgT0 _) (censG (stepsG G.ds)) [] (by rw[censG_nrm];simp) (by simp),crsG_list h]
 simp only[List.nil_append,cntG_nrm]
 rfl
end Go.Abs
