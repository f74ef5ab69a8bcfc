/- A part of the proofs of the laws of this seat: contracts of the functions that they reach, each proved of the program's form in Lean. No condition beyond those that each contract names. -/
import Derived.Test.YtecogfpnfhkibaaProg
import Derived.Test.YtecogfpnfhkibaaSnd3
import Derived.Test.YtecogfpnfhkibaaA0
import Derived.Test.YtecogfpnfhkibaaN1a
import Derived.Test.YtecogfpnfhkibaaN1b
import Derived.Test.YtecogfpnfhkibaaN1c
import Derived.Test.YtecogfpnfhkibaaN1d
import Derived.Test.YtecogfpnfhkibaaN1e
import Derived.Test.YtecogfpnfhkibaaN1f
import Derived.Test.YtecogfpnfhkibaaN1g
import Derived.Test.YtecogfpnfhkibaaN1h
import Derived.Test.YtecogfpnfhkibaaN2a
import Derived.Test.YtecogfpnfhkibaaN2b
set_option linter.unusedVariables false
set_option linter.unusedSimpArgs false
set_option maxRecDepth 20000
set_option maxHeartbeats 4000000
namespace Go.Abs
open Go.Proofs
theorem ACall.so {P:Program} {f:Nat} {args0 args:List AV} {s0 p g h1 h2 d:Nat} {G:Gm} {A:List Dl} {m:Int} {l:List (List Int×Int)} {C:List (List Int×Int)→Prop} {σ:Sig} {Q:AV→Sig→Prop}
  (h:RawC P f args0 (sg (soS s0 g G A m l h1 h2)) (SR (fun (x:List (List Int×Int)×Nat×Nat) _=>C x.1) (fun x=>soS s0 g G A m x.1 x.2.1 x.2.2)))
  (hp1:p≠2001) (hp2:p≠2002) (hr1:renOK [(s0,2001),(s0+1,2002),(1000,p)]=true) (hr2:renOK [(1000,p),(s0,2001),(s0+1,2002)]=true)
  (l1:lk [(s0,2001),(s0+1,2002),(1000,p)] s0=some 2001) (l2:lk [(s0,2001),(s0+1,2002),(1000,p)] (s0+1)=some 2002) (l3:lk [(1000,p),(s0,2001),(s0+1,2002)] s0=some 2001) (l4:lk [(1000,p),(s0,2001),(s0+1,2002)] (s0+1)=some 2002)
  (l5:lk (flipL [(1000,p),(s0,2001),(s0+1,2002)]) 2001=some s0) (l6:lk (flipL [(1000,p),(s0,2001),(s0+1,2002)]) 2002=some (s0+1))
  (n1:Nat.beq 1000 s0=false) (n2:Nat.beq 1000 (s0+1)=false) (n3:Nat.beq s0 (s0+1)=false)
  (ha1:args0=renL (flipL [(1000,p)]) args) (ha2:args0=renL (flipL [(1000,p),(s0,2001),(s0+1,2002)]) args)
  (hp:σ p=(g,.row (soR G A m (goV 2001 l h1) (goW 2002 l h2)))) (hσ1:σ 2001=goX l h1) (hσ2:σ 2002=goX l h2)
  (hQ:∀(x:List (List Int×Int)) (k1 k2:Nat) av,C x→Q av (upd (upd (upd σ 2002 (goX x k2)) 2001 (goX x k1)) p (g,.row (soR G A m (goV 2001 x k1) (goW 2002 x k2))))):ACall P f args σ d Q:=by
 have y1:Nat.ble YS 2001=true:=rfl
 have y2:Nat.ble YS 2002=true:=rfl
 have hos:outsB d [(s0,2001),(s0+1,2002)]=true:=by simp[outsB,y1,y2]
 cases l with
 | nil=>
   have e0:sg (soS s0 g G A m [] h1 h2)=sg [(1000,(g,.row (soR G A m .nsl .nsl)))]:=by
    funext j
    show (match Nat.beq 1000 j with | true=>_ | false=>(match Nat.beq s0 j with | true=>((0,Res.dead):Nat×Res) | false=>(match Nat.beq (s0+1) j with | true=>(0,.dead) | false=>(0,.dead))))=(match Nat.beq 1000 j with | true=>_ | false=>_)
    split
    · rfl
    · split
      · rfl
      · split<;>rfl
   rw[e0] at h
   refine ACall.liftN h [(1000,p)] [(s0,2001),(s0+1,2002)] hos hr1 ha1 ?_ ⟨⟨_,by rw[hp]⟩,trivial⟩ fun av σ0' hR=>?_
   · show _=[(1000,((σ p).1,renR _ (σ p).2))]
     rw[hp]
     rfl
   · obtain⟨⟨x,a,b⟩,hv,hsl⟩:=hR
     obtain⟨k1,k2,k3,-⟩:=hsl
     show Q _ (upd (upd (upd σ p ((σ0' 1000).1,renR [(s0,2001),(s0+1,2002),(1000,p)] (σ0' 1000).2)) 2002 ((σ0' (s0+1)).1,renR [(s0,2001),(s0+1,2002),(1000,p)] (σ0' (s0+1)).2)) 2001 ((σ0' s0).1,renR [(s0,2001),(s0+1,2002),(1000,p)] (σ0' s0).2))
     rw[k1,k2,k3,goX_ren,goX_ren]
     have e1:renR [(s0,2001),(s0+1,2002),(1000,p)] (.row (soR G A m (goV s0 x a) (goW (s0+1) x b)))= .row (soR G A m (goV 2001 x a) (goW 2002 x b)):=by
      show Res.row [_,_,_,_,ren _ (goV s0 x a),ren _ (goW (s0+1) x b)]=_
      rw[ren_goV l1,ren_goW l2];rfl
     show Q _ (upd (upd (upd σ p (g,renR [(s0,2001),(s0+1,2002),(1000,p)] (.row (soR G A m (goV s0 x a) (goW (s0+1) x b))))) 2002 (goX x b)) 2001 (goX x a))
     rw[e1,upd_comm hp2,upd_comm hp1]
     exact hQ x a b _ hv
 | cons c cs=>
   refine ACall.liftN h [(1000,p),(s0,2001),(s0+1,2002)] [] rfl hr2 ha2 ?_ ⟨⟨_,by rw[hp]⟩,⟨[],by rw[hσ1];rfl⟩,⟨[],by rw[hσ2];rfl⟩,trivial⟩ fun av σ0' hR=>?_
   · show _=[(1000,((σ p).1,renR (flipL [(1000,p),(s0,2001),(s0+1,2002)]) (σ p).2)),(s0,((σ 2001).1,renR (flipL [(1000,p),(s0,2001),(s0+1,2002)]) (σ 2001).2)),(s0+1,((σ 2002).1,renR (flipL [(1000,p),(s0,2001),(s0+1,2002)]) (σ 2002).2))]
     rw[hp,hσ1,hσ2,goX_ren,goX_ren]
     have e1:renR (flipL [(1000,p),(s0,2001),(s0+1,2002)]) (.row (soR G A m (goV 2001 (c::cs) h1) (goW 2002 (c::cs) h2)))= .row (soR G A m (goV s0 (c::cs) h1) (goW (s0+1) (c::cs) h2)):=by
      show Res.row [_,_,_,_,ren _ (goV 2001 (c::cs) h1),ren _ (goW 2002 (c::cs) h2)]=_
      rw[ren_goV l5,ren_goW l6];rfl
     rw[e1]
   · obtain⟨⟨x,a,b⟩,hv,hsl⟩:=hR
     obtain⟨k1,k2,k3,-⟩:=hsl
     show Q _ (upd (upd (upd σ 2002 ((σ0' (s0+1)).1,renR [(1000,p),(s0,2001),(s0+1,2002)] (σ0' (s0+1)).2)) 2001 ((σ0' s0).1,renR [(1000,p),(s0,2001),(s0+1,2002)] (σ0' s0).2)) p ((σ0' 1000).1,renR [(1000,p),(s0,2001),(s0+1,2002)] (σ0' 1000).2))
     rw[k1,k2,k3,goX_ren,goX_ren]
     have e1:renR [(1000,p),(s0,2001),(s0+1,2002)] (.row (soR G A m (goV s0 x a) (goW (s0+1) x b)))= .row (soR G A m (goV 2001 x a) (goW 2002 x b)):=by
      show Res.row [_,_,_,_,ren _ (goV s0 x a),ren _ (goW (s0+1) x b)]=_
      rw[ren_goV l3,ren_goW l4];rfl
     show Q _ (upd (upd (upd σ 2002 (goX x b)) 2001 (goX x a)) p (g,renR [(1000,p),(s0,2001),(s0+1,2002)] (.row (soR G A m (goV s0 x a) (goW (s0+1) x b)))))
     rw[e1]
     exact hQ x a b _ hv
structure goH (G:Gm) (A:List Dl) (b:List Int) (m:Int):Prop where
 n6:G.ws.length≤6
 t:tbIn b m
 r:runOK G.ws.length (A.map spOf) b m
 B:bgT G.ws.length b bg0
 a:A.length<1000
theorem goH.cnt {G:Gm} {A:List Dl} {b:List Int} {m:Int} (h:goH G A b m) {a:AV} {c:List Int} (hc:CV a c) (hl:c.length<1000):Fn0 Try.prog 92 [.slc 5 (dlR A) .non,bgV bg0,a] (fun v=>v= .int .i64 (cntP (A.map spOf) c bg0)):=
 rcount_c _ h.n6 A b m bg0 c a hc h.t h.r h.B h.a hl
theorem szL_bd {n:Nat}:∀{l:List Sp} {b:List Int} {m:Int},tbIn b m→runOK n l b m→ ∀s∈szL l b,1≤s∧s≤12
 | [],_,_,_,_,s,hs=>by cases hs
 | x::r,b,m,ht,h,s,hs=>by
   obtain⟨ht2,_⟩:=ht.step h.1
   rw[szL] at hs
   by_cases hd:x.2.1=true
   · rw[if_pos hd] at hs
     obtain⟨hb,ha⟩:=h.1.d hd
     have hle:=ht.le hb
     have hsm:=ht.sm
     have hm:=ht.m
     rcases List.mem_cons.1 hs with rfl | hs
     · omega
     · exact szL_bd ht2 h.2 s hs
   · rw[if_neg hd] at hs
     exact szL_bd ht2 h.2 s hs
theorem allL_nodup (n:Nat):∀k:Nat,(allL n k).Nodup
 | 0=>by simp[allL]
 | k+1=>by
   rw[allL]
   unfold List.Nodup
   rw[List.pairwise_flatMap]
   constructor
   · intro w _
     rw[List.pairwise_map]
     exact (allL_nodup n k).imp fun h e=>h (List.cons.inj e).2
   · refine List.nodup_range.imp fun {a b} h x hx y hy e=>?_
     obtain⟨x',_,rfl⟩:=List.mem_map.1 hx
     obtain⟨y',_,rfl⟩:=List.mem_map.1 hy
     have:=(List.cons.inj e).1
     omega
theorem crsG_nodup {G:Gm} (h:GOK G):((crsG G).map (·.1)).Nodup:=by
 rw[crsG_list h,List.map_map]
 show (List.map (fun s=>s) _).Nodup
 rw[List.map_id']
 exact (List.filter_sublist).nodup (allL_nodup _ _)
def fndL (f:List Int→Option (List Int)) (C D:List (List Int)):List Int:=C.map fun c=>lsum D fun ps=>oneIf (f ps=some c)
theorem oneIf_nn (p:Prop) [Decidable p]:0≤oneIf p:=by unfold oneIf;split<;>decide
theorem fndL_step {f:List Int→Option (List Int)} {C D:List (List Int)} {p c:List Int} {k:Nat} (hn:C.Nodup) (hk:C[k]?=some c) (hf:f p=some c):(fndL f C D).set k ((fndL f C D).getD k 0+1)=fndL f C (D++[p]):=by
 have hkl:k<C.length:=(List.getElem?_eq_some_iff.1 hk).1
 apply List.ext_getElem?
 intro j
 have e:∀D,(fndL f C D)[j]?=(C[j]?).map fun c=>lsum D fun ps=>oneIf (f ps=some c):=fun D=>by unfold fndL;rw[List.getElem?_map]
 have ek:(fndL f C D).getD k 0=lsum D fun ps=>oneIf (f ps=some c):=by
  unfold fndL
  rw[List.getD_eq_getElem?_getD,List.getElem?_map,hk];rfl
 have e1:∀c',lsum (D++[p]) (fun ps=>oneIf (f ps=some c'))=lsum D (fun ps=>oneIf (f ps=some c'))+oneIf (f p=some c'):=fun c'=>by
  rw[lsum_app,lsum_cons];show _+(_+(0:Int))=_;omega
 rw[List.getElem?_set,e (D++[p])]
 by_cases hj:k=j
 · subst hj
   have hl:k<(fndL f C D).length:=by unfold fndL;rw[List.length_map];exact hkl
   rw[if_pos rfl,if_pos hl,hk,ek]
   dsimp only[Option.map_some]
   rw[e1,hf]
   unfold oneIf
   rw[if_pos rfl]
 · rw[if_neg hj,e D]
   cases hc:C[j]? with
   | none=>rfl
   | some c'=>
     dsimp only[Option.map_some]
     rw[e1,hf]
     have hne:¬some c=some c':=fun h=>by
      cases h
      obtain⟨h1,h2⟩:=List.getElem?_eq_some_iff.1 hk
      obtain⟨h3,h4⟩:=List.getElem?_eq_some_iff.1 hc
      have hp:=List.pairwise_iff_getElem.1 hn
      rcases Nat.lt_or_gt_of_ne hj with h5 | h5
      · exact hp k j h1 h3 h5 (h2.trans h4.symm)
      · exact hp j k h3 h1 h5 (h4.trans h2.symm)
     unfold oneIf
     rw[if_neg hne,Int.add_zero]
theorem fndL_nil (f:List Int→Option (List Int)) (C:List (List Int)):fndL f C []=List.replicate C.length 0:=by
 unfold fndL
 show List.map (fun _=>(0:Int)) C=_
 rw[List.map_const']
theorem play_crs {G:Gm} (h0:gmErr G=0) {ps:List Int} (h:ps∈allP (szL (stepsG G.ds) tb0.bags)):∃c,playO G ps=(c,0)∧playT (stepsG G.ds) bg0 ps=some c∧(c,cwG G c)∈crsG G:=by
 have hG:=gm_ok h0
 obtain⟨c,h1,h2,h3⟩:=play_in hG.n6 tb0_in hG.ex hG.wd (bgT0 _) h
 refine⟨c,?_,h1,?_⟩
 · unfold playO
   rw[if_pos h0,if_pos (by rw[(allP_mem.1 h).1,szL_len]),playS_T,h1];rfl
 · refine (crsG_mem hG).2 ⟨⟨h2,h3⟩,?_,rfl⟩
   have hc:=pick_cnt hG.n6 c tb0_in hG.ex (bgT0 _) h3 h2
   have:=lsum_mem (f:=fun ps=>oneIf (playT (stepsG G.ds) bg0 ps=some c)) (fun s _=>oneIf_nn _) ps h
   have e:oneIf (playT (stepsG G.ds) bg0 ps=some c)=1:=by unfold oneIf;rw[if_pos h1]
   rw[e,hc] at this
   show 0<cntG G.ws.length (stepsG G.ds) c bg0
   omega
theorem found_all {G:Gm} (h0:gmErr G=0):fndL (playT (stepsG G.ds) bg0) ((crsG G).map (·.1)) (allP (szL (stepsG G.ds) tb0.bags))=(crsG G).map (·.2):=by
 have hG:=gm_ok h0
 unfold fndL
 rw[List.map_map]
 refine List.map_congr_left fun x hx=>?_
 obtain⟨⟨h1,h2⟩,h3,h4⟩:=(crsG_mem hG).1 hx
 show lsum _ _=x.2
 rw[h4]
 exact pick_cnt hG.n6 x.1 tb0_in hG.ex (bgT0 _) h2 h1
theorem fnd_bd {G:Gm} (h0:gmErr G=0) {D post:List (List Int)} (hD:allP (szL (stepsG G.ds) tb0.bags)=D++post) (k:Nat):0≤(fndL (playT (stepsG G.ds) bg0) ((crsG G).map (·.1)) D).getD k 0∧(fndL (playT (stepsG G.ds) bg0) ((crsG G).map (·.1)) D).getD k 0≤479001600:=by
 have hG:=gm_ok h0
 have ha:=found_all h0
 rw[hD] at ha
 rw[List.getD_eq_getElem?_getD]
 unfold fndL at ha ⊢
 rw[List.getElem?_map]
 cases hc:((crsG G).map (·.1))[k]? with
 | none=>exact⟨Int.le_refl _,by show (0:Int)≤479001600;decide⟩
 | some c=>
   have e:=congrArg (fun l=>l[k]?) ha
   rw[List.getElem?_map,hc] at e
   rw[List.getElem?_map] at hc e
   obtain⟨x,hx,hxc⟩:=Option.map_eq_some_iff.1 hc
   rw[hx] at e
   have e2:lsum (D++post) (fun ps=>oneIf (playT (stepsG G.ds) bg0 ps=some c))=x.2:=by simpa using e
   rw[lsum_app] at e2
   have n1:=lsum_nn (L:=D) (f:=fun ps=>oneIf (playT (stepsG G.ds) bg0 ps=some c)) fun _ _=>oneIf_nn _
   have n2:=lsum_nn (L:=post) (f:=fun ps=>oneIf (playT (stepsG G.ds) bg0 ps=some c)) fun _ _=>oneIf_nn _
   have hm:=List.mem_of_getElem? hx
   obtain⟨_,_,h4⟩:=(crsG_mem hG).1 hm
   have hb:=allW_bd hG
   have hs:=crsG_sum hG
   have hx2:x.2≤allW G:=by
    rw[←cwG_tot hG,h4]
    exact lsum_mem (fun s _=>cwG_nn hG s) x.1 (allL_mem.2 ((crsG_mem hG).1 hm).1)
   show 0≤lsum D _∧lsum D _≤_
   omega
def ir5:IFn:=
 ⟨75,[(2,none)],(.seq (.ops [oo 2 (.mov (kB false))])
 (.seq (.ops [oo 14 (.mov 0),
 oo 15 (.callF 15 [14]),
 oo 16 (.callF 14 [15,(kI 3),(kI 5),(kI 6)]),
 oo 3 (.new [.nsl,.nsl]),
 ⟨none,none,(.st 2 3 16)⟩])
 (.seq (.ops [oo 17 (.ld 2 true 3),
 oo 18 (.callF 25 [17]),
 oo 4 (.mov 18)])
 (.seq (.seq (.ops [oo 19 (.mov 4),
 oo 20 (.callF 26 [19,(kI 1048576)]),
 oo 21 (.bin .gtr 20 (kI 3000))])
 (.cnd 21
 (.seq (.ops [oo 22 (.callF 13 []),
 oo 2 (.mov 22)])
 .ret)
 .skip))
 (.seq (.ops [oo 24 (.ld 2 true 3),
 oo 25 (.callF 21 [24]),
 oo 23 (.mov 25),
 oo 26 (.ext 0 23),
 oo 27 (.ext 1 23),
 oo 28 (.ext 2 23),
 oo 5 (.mov 26),
 oo 6 (.mov 27),
 oo 7 (.mov 28)])
 (.seq (.seq (.ops [oo 29 (.mov 7),
 oo 30 (.bin .neq 29 (kI 0)),
 oo 31 (.mov 30),
 ⟨(some 32),(some (31,false)),(.mov 6)⟩,
 ⟨(some 33),(some (31,false)),(.len false 32)⟩,
 ⟨(some 34),(some (31,false)),(.mov 5)⟩,
 ⟨(some 35),(some (31,false)),(.len false 34)⟩,
 ⟨(some 36),(some (31,false)),(.bin .neq 33 35)⟩,
 oo 37 (.pick 31 (kB true) 36)])
 (.cnd 37
 (.seq (.ops [oo 2 (.mov (kB false))])
 .ret)
 .skip))
 (.seq (.ops [oo 38 (.mov 5),
 oo 39 (.len false 38),
 oo 40 (.mks 1 8 [(.int .i64 0)] 39 39),
 oo 8 (.mov 40)])
 (.seq (.ops [oo 41 (.mov 4),
 oo 42 (.len false 41),
 oo 43 (.mks 1 8 [(.int .i64 0)] 42 42),
 oo 9 (.mov 43)])
 (.seq (.seq (.ops [oo 10 (.mov (kB true))])
 (.blk 0 (.loop (.seq (.seq (.ops [oo 44 (.mov 10)])
 (.cnd 44
 .skip
 (.exit 0)))
 (.seq (.blk 1 (.seq (.ops [oo 49 (.ld 2 true 3),
 oo 50 (.mov 9),
 oo 51 (.callF 28 [49,50]),
 oo 48 (.mov 51),
 oo 52 (.ext 0 48),
 oo 53 (.ext 1 48),
 oo 11 (.mov 52),
 oo 12 (.mov 53)])
 (.seq (.ops [oo 54 (.mov 5),
 oo 55 (.mov 11),
 oo 56 (.callF 29 [54,55]),
 oo 13 (.mov 56)])
 (.seq (.seq (.ops [oo 57 (.mov 12),
 oo 58 (.bin .neq 57 (kI 0)),
 oo 59 (.mov 58),
 ⟨(some 60),(some (59,false)),(.mov 13)⟩,
 ⟨(some 61),(some (59,false)),(.bin .lss 60 (kI 0))⟩,
 oo 62 (.pick 59 (kB true) 61)])
 (.cnd 62
 (.seq (.ops [oo 2 (.mov (kB false))])
 .ret)
 .skip))
 (.ops [oo 63 (.mov 8),
 oo 64 (.mov 13),
 oo 65 (.ixA 1 63 64),
 oo 66 (.ld 1 false 65),
 oo 67 (.bin .add 66 (kI 1)),
 oo 68 (.ixA 1 63 64),
 ⟨none,none,(.st 1 68 67)⟩])))))
 (.ops [oo 45 (.mov 9),
 oo 46 (.mov 4),
 oo 47 (.callF 27 [45,46]),
 oo 10 (.mov 47)]))))))
 (.seq (.seq (.frz 8)
 (.ops [oo 69 (.mov 8),
 oo 70 (.mov 6),
 oo 71 (.callF 24 [69,70]),
 oo 72 (.mov 71),
 ⟨(some 73),(some (72,true)),(.callF 13 [])⟩,
 oo 74 (.pick 72 73 (kB false)),
 oo 2 (.mov 74)]))
 .ret))))))))))⟩
def hint5 (P:Program):Hint:={site:=[],nils:=[],frz:=[(71,8)],mve:=[],wr:=[] }
theorem ACall.rowN {P:Program} {f:Nat} {args0 args:List AV} {α:Type} {V:α→AV→Prop} {ys:α→List Int} {σ:Sig} {d j g:Nat} {xs:List Int} {Q:AV→Sig→Prop} (h:RawC P f args0 (sg [(1000,(g,.row (nI xs)))]) (SR V fun x=>[(1000,(g,.row (nI (ys x))))])) (hr:renOK [(1000,j)]=true) (hσ:σ j=(g,.row (nI xs)))
  (ha:args0=renL [(j,1000)] args) (hQ:∀x av,V x av→Q (ren [(1000,j)] av) (upd σ j (g,.row (nI (ys x))))):ACall P f args σ d Q:=by
 refine ACall.lift (l0:=[(1000,(g,.row (nI xs)))]) h [(1000,j)] none hr ha ?_ ⟨⟨_,by rw[hσ]⟩,trivial⟩ ?_
 · simp only[pull,hσ,renR,renL_nI]
 · rintro av σ0' ⟨x,hV,hs,_⟩
   have:=hQ x av hV
   have e:=push_one (ρ:=outs d none++[(1000,j)]) (σ:=σ) (b:=j) (r:=[]) hs
   rw[show (outs d none++[(1000,j)])=[(1000,j)] from rfl] at e ⊢
   rw[e]
   simp only[renR,renL_nI]
   exact this
theorem made_crs {G:Gm} {woods drawn cens:Int} {a b:Nat} (hm:madeO G woods drawn cens) (ha:woods≤a) (hb:cens≤b) (h:a^b≤5000):crsO G=(crsG G,0):=by
 have hr:=(deals_run G.ds tb0 tb0_ok (gm_ok hm.e).ds).2.2
 have e:tb0.cens=0:=rfl
 have h1:=hm.c
 have h2:=hm.n2
 exact crsO_ok hm.e (a:=a) (b:=b) (by omega) (by omega) h
theorem gameCounted_c (nums:List Int) (hn:nums.length<2^62):Fn0 Try.prog 5 [.slc 1 (iR nums) .non] (fun v=>v= .bool true):=by
 refine RawC.walk (H:=hint5 Try.prog) ir5 Try.func5 rfl rfl rfl ?_
 unfold ir5
 repeat' (first
  | with_reducible (first | refine Rd.p ?_ | refine w_alt ?_ ?_ | refine zE ?_ | refine zE0 ?_)
  | with_reducible (first | refine zI fun y hy=>?_ | refine zL ?_ | refine zS ?_ | refine zA fun _=>?_ | refine zV ?_ | refine zC ?_ | refine zG ?_ | refine zU ?_ | refine zG0 ?_ | refine zU0 ?_ | refine zF ?_)
  | ((with_reducible refine acall_id ?_);refine ACall.liftS (boxOf_s nums hn) [] (some 6) rfl rfl rfl trivial (fun _=>rfl) ?_;rintro⟨gb,w⟩ _ rfl)
  | ((with_reducible refine acall_id ?_);refine ACall.box (gameOf_c _ _ 3 5 6 (by decide) (by decide) (by decide)) rfl rfl rfl ?_;rintro _ _ ⟨G,rfl,hm⟩)
  | with_reducible (first | refine zX ?_ | refine zD fun _=>?_ | refine zD0 ?_ | refine zN ?_ | refine zF0 ?_ | refine zX0 ?_ | refine z1 ?_ | refine z2 ?_ | refine z3 ?_ | refine z4 ?_ | refine z5 ?_ | refine z6 ?_ | refine z7 ?_ | refine z8 ?_ | refine y1 ?_ | refine y2 ?_ | refine y3 ?_ | refine y4 ?_ | refine y5 ?_ | refine y6 ?_ | refine y7 ?_ | refine y8 ?_ | refine Rt.p (fun _=>?_) fun _=>?_)
  | ((with_reducible apply w_ixM);(focus exact rfl);(focus exact rfl);case' hk=>intro y hy) | ((with_reducible (first | apply w_val | apply q_ends));(focus exact rfl)))
 rename_i w1 g3
 have h0:=hm.e
 have hG:=gm_ok h0
 have hn3:(G.ws.length:Int)≤3:=hm.n2
 have hd24:=hm.d
 have hws:∀w∈G.ws,w.name.size≤1000:=fun w hw=>by have:=(madeW_ok hm.w).2 w hw;omega
 have hcr:=made_crs (a:=3) (b:=6) hm (by decide) (by decide) (by decide)
 have hSz:=Sizes_c G hG
 have hsb:=szL_bd tb0_in hG.ex
 have hsl:=szL_288 hG
 have hpl:=fun ps=>play_crs (ps:=ps) h0
 have hfa:=found_all h0
 have hfb:=fun D post=>fnd_bd (D:=D) (post:=post) h0
 have hnd:=crsG_nodup hG
 have hC:=subV2 (courses_f G (invW G.ws.length) (by omega) (by omega) hws gmOK) (sub_crsA _ _)
 obtain⟨b1,b2⟩:=crsO_bd G
 rw[hcr] at hC b1 b2
 dsimp only at hC b1 b2
 obtain⟨S,hS⟩:∃S,szL (stepsG G.ds) tb0.bags=S:=⟨_,rfl⟩
 obtain⟨f,hf⟩:∃f,playT (stepsG G.ds) bg0=f:=⟨_,rfl⟩
 obtain⟨C,hCe⟩:∃C,(crsG G).map (·.1)=C:=⟨_,rfl⟩
 obtain⟨W,hWe⟩:∃W,(crsG G).map (·.2)=W:=⟨_,rfl⟩
 have hCW:W.length=C.length:=by rw[←hCe,←hWe,List.length_map,List.length_map]
 have hC5:C.length≤5000:=by rw[←hCe,List.length_map];exact b1
 have hC9:∀y∈C,y.length<1000000:=fun y hy=>by
  rw[←hCe] at hy
  obtain⟨x,hx,rfl⟩:=List.mem_map.1 hy
  have:=b2 x hx;omega
 have hmC:∀c,(c,cwG G c)∈crsG G→c∈C:=fun c hc=>by rw[←hCe];exact List.mem_map.2 ⟨_,hc,rfl⟩
 rw[hS] at hSz hsb hsl hfa
 simp only[hS,hf] at hpl hfb
 rw[hf,hCe,hWe] at hfa
 simp only[hCe] at hfb
 rw[hCe] at hnd
 rw[hCe,hWe] at hC
 have hT:=times_c S 1048576 (by omega) (by decide) fun s hs=>by have:=hsb s hs;omega
 have hTb:=timF_bd (most:=1048576) (by decide) S (n:=1) (by decide) fun s hs=>by have:=hsb s hs;omega
 have hl1:(llR C).length=C.length:=List.length_map _
 have hl2:(iR W).length=C.length:=by rw[←hCW];exact List.length_map _
 have hl3:(iR S).length=S.length:=List.length_map _
 obtain⟨t0,ht0⟩:=allP_cons_ne fun s hs=>(hsb s hs).1
 obtain⟨hfl,hla⟩:=allP_flw fun s hs=>(hsb s hs).1
 have hAm:∀ps∈allP S,ps.length=S.length∧ ∀p∈ps,0≤p∧p≤1000:=fun ps hps=>by
  obtain⟨q1,q2⟩:=allP_mem.1 hps
  refine⟨q1,fun p hp=>?_⟩
  obtain⟨i,hi,rfl⟩:=List.getElem_of_mem hp
  have h1:=q2 i (by omega)
  have h2:=hsb (S.getD i 0) (by rw[List.getD_eq_getElem?_getD,List.getElem?_eq_getElem (by omega)];exact List.getElem_mem _)
  rw[List.getD_eq_getElem?_getD,List.getElem?_eq_getElem hi] at h1
  exact⟨h1.1,by have:=h1.2;simp only[Option.getD_some] at this;omega⟩
 obtain⟨A,hA⟩:∃A,allP S=A:=⟨_,rfl⟩
 rw[hA] at hfa ht0 hfl hla hAm
 simp only[hA] at hpl hfb
 repeat' (first
  | with_reducible (first | refine Rd.p ?_ | refine w_alt ?_ ?_ | refine zE ?_ | refine zE0 ?_)
  | (first | (refine w_mksI rfl (by omega) ?_;intro gm))
  | with_reducible (first | refine zI fun y hy=>?_ | refine zL ?_ | refine zS ?_ | refine zA fun _=>?_ | refine zV ?_ | refine zC ?_ | refine zG ?_ | refine zU ?_ | refine zG0 ?_ | refine zU0 ?_ | refine zF ?_)
  | ((with_reducible refine acall_id ?_);refine ACall.val hSz rfl rfl ?_)
  | ((with_reducible refine acall_id ?_);refine ACall.val hT rfl rfl ?_)
  | ((with_reducible refine acall_id ?_);refine ACall.val awake_c rfl rfl ?_)
  | ((with_reducible refine acall_id ?_);refine ACall.val hC rfl rfl ?_)
  | with_reducible (first | refine zX ?_ | refine zD fun _=>?_ | refine zD0 ?_ | refine zN ?_ | refine zF0 ?_ | refine zX0 ?_ | refine z1 ?_ | refine z2 ?_ | refine z3 ?_ | refine z4 ?_ | refine z5 ?_ | refine z6 ?_ | refine z7 ?_ | refine z8 ?_ | refine y1 ?_ | refine y2 ?_ | refine y3 ?_ | refine y4 ?_ | refine y5 ?_ | refine y6 ?_ | refine y7 ?_ | refine y8 ?_ | refine Rt.p (fun _=>?_) fun _=>?_)
  | ((with_reducible apply w_ixM);(focus exact rfl);(focus exact rfl);case' hk=>intro y hy) | ((with_reducible (first | apply w_val | apply q_ends));(focus exact rfl)))
 all_goals try (exfalso;omega)
 · rfl
 rename_i hq3 g40
 obtain⟨g43,hg43⟩:∃g,g=gm:=⟨_,rfl⟩
 subst hg43
 have hl40:(List.replicate C.length (0:Int))=fndL f C []:=by rw[fndL_nil]
 refine w_loopK [3,4,5,6,8,9,73] [3] (fun x:List (List Int)×List (List Int)=>A=x.1++x.2) (fun x=>x.2.length) (fun x=>[(10,.bool (!x.2.isEmpty))]) (fun x=>[(40,(g40,.row (nI (fndL f C x.1)))),(43,(g43,.row (nI (x.2.headD (List.replicate S.length 0)))))]) ([],A) rfl ⟨by rw[ht0];rfl,trivial⟩ ⟨by rw[←hl40];rfl,by rw[ht0];rfl,trivial⟩ ?_
 rintro⟨D,post⟩ hD e σ
 dsimp only at hD ⊢
 cases post with
 | nil=>
   rw[List.append_nil] at hD
   rw[←hD,hfa]
   show awp _ _ _ (updL [(10,AV.bool false)] _) _
   have hE:=eq_c W W (by omega)
   rw[decide_eq_true rfl] at hE
   repeat' (first
    | with_reducible (first | refine Rd.p ?_ | refine w_alt ?_ ?_ | refine zE ?_ | refine zE0 ?_)
    | with_reducible (first | refine zI fun y hy=>?_ | refine zL ?_ | refine zS ?_ | refine zA fun _=>?_ | refine zV ?_ | refine zC ?_ | refine zG ?_ | refine zU ?_ | refine zG0 ?_ | refine zU0 ?_ | refine zF ?_)
    | with_reducible (first | refine zX ?_ | refine zD fun _=>?_ | refine zD0 ?_ | refine zN ?_ | refine zF0 ?_ | refine zX0 ?_ | refine z1 ?_ | refine z2 ?_ | refine z3 ?_ | refine z4 ?_ | refine z5 ?_ | refine z6 ?_ | refine z7 ?_ | refine z8 ?_ | refine y1 ?_ | refine y2 ?_ | refine y3 ?_ | refine y4 ?_ | refine y5 ?_ | refine y6 ?_ | refine y7 ?_ | refine y8 ?_ | refine Rt.p (fun _=>?_) fun _=>?_)
    | ((with_reducible apply w_ixM);(focus exact rfl);(focus exact rfl);case' hk=>intro y hy) | ((with_reducible (first | apply w_val | apply q_ends));(focus exact rfl)))
   all_goals try (exfalso;omega)
   have hfz:frzA 40 g40 (W.map (AV.int .i64)) (.msl 40 g40 C.length 1)= .slc 1 (iR W) .non:=by rw[←hCW];simp[frzA,chunk1]
   refine w_frzIG (t:=8) (i:=40) (g:=g40) (n:=C.length) (xs:=W) [(6,.slc 1 (iR W) .non),(8,.slc 1 (iR W) .non)] [] rfl rfl (by omega) ⟨rfl,hfz,trivial⟩ trivial ?_
   intro e2 σ2
   repeat' (first
    | with_reducible (first | refine Rd.p ?_ | refine w_alt ?_ ?_ | refine zE ?_ | refine zE0 ?_)
    | with_reducible (first | refine zI fun y hy=>?_ | refine zL ?_ | refine zS ?_ | refine zA fun _=>?_ | refine zV ?_ | refine zC ?_ | refine zG ?_ | refine zU ?_ | refine zG0 ?_ | refine zU0 ?_ | refine zF ?_)
    | ((with_reducible refine acall_id ?_);refine ACall.val hE rfl rfl ?_)
    | ((with_reducible refine acall_id ?_);refine ACall.val awake_c rfl rfl ?_)
    | with_reducible (first | refine zX ?_ | refine zD fun _=>?_ | refine zD0 ?_ | refine zN ?_ | refine zF0 ?_ | refine zX0 ?_ | refine z1 ?_ | refine z2 ?_ | refine z3 ?_ | refine z4 ?_ | refine z5 ?_ | refine z6 ?_ | refine z7 ?_ | refine z8 ?_ | refine y1 ?_ | refine y2 ?_ | refine y3 ?_ | refine y4 ?_ | refine y5 ?_ | refine y6 ?_ | refine y7 ?_ | refine y8 ?_ | refine Rt.p (fun _=>?_) fun _=>?_)
    | ((with_reducible apply w_ixM);(focus exact rfl);(focus exact rfl);case' hk=>intro y hy) | ((with_reducible (first | apply w_val | apply q_ends));(focus exact rfl)))
   all_goals first
    | (exfalso;omega)
    | rfl
 | cons p post=>
   have hpA:p∈A:=by rw[hD];simp
   obtain⟨hpl1,hpl2⟩:=hAm p hpA
   obtain⟨c,hc1,hc2,hc3⟩:=hpl p hpA
   obtain⟨k,hk1,hk2⟩:=plcI_mem (k:=0) (hmC c hc3)
   have hkl:=(List.getElem?_eq_some_iff.1 hk1).1
   have hPl:=place_c C c (by omega) hC9
   rw[hk2] at hPl
   have hPM:=PlayM_c g43 G p (by omega) (by omega) hws (by omega)
   rw[hc1,show plA (c,0)=AV.tup [.slc 1 (iR c) .non,.int .i64 0] from rfl,show p.length=S.length by omega] at hPM
   have hNP:=nextPicks_c g43 S p hpl1 (by omega) hpl2
   have hnp:npO S p=(post.headD (List.replicate S.length 0),!post.isEmpty):=by
    unfold npO
    cases post with
    | nil=>
      rw[hla p (by rw[hD];simp)];rfl
    | cons q post=>
      rw[hD] at hfl
      rw[flw_mid hfl];rfl
   rw[hnp,show p.length=S.length by omega] at hNP
   dsimp only at hNP
   have hvb:=hfb D (p::post) hD k
   have hst:=fndL_step (D:=D) hnd hk1 hc2
   have hfl2:(fndL f C D).length=C.length:=List.length_map _
   obtain⟨v,hv⟩:∃v,(fndL f C D).getD k 0=v:=⟨_,rfl⟩
   rw[hv] at hvb hst
   have ho:((0:Int)+(k:Nat)).toNat*1=k:=by omega
   have hkf:k<(fndL f C D).length:=by omega
   show awp _ _ _ (updL [(10,AV.bool true)] _) (updL [(40,(g40,.row (nI (fndL f C D)))),(43,(g43,.row (nI p)))] _)
   repeat' (first
    | with_reducible (first | refine Rd.p ?_ | refine w_alt ?_ ?_ | refine zE ?_ | refine zE0 ?_)
    | (first | refine w_ldGet rfl ho rfl hkf hv ?_ | refine w_stElC rfl ho rfl hkf rfl hst ?_)
    | with_reducible (first | refine zI fun y hy=>?_ | refine zL ?_ | refine zS ?_ | refine zA fun _=>?_ | refine zV ?_ | refine zC ?_ | refine zG ?_ | refine zU ?_ | refine zG0 ?_ | refine zU0 ?_ | refine zF ?_)
    | ((with_reducible refine acall_id ?_);(refine ACall.rowN (j:=43) (ys:=fun _=>p) hPM rfl rfl rfl ?_;rintro⟨⟩ _ rfl))
    | ((with_reducible refine acall_id ?_);(refine ACall.rowN (j:=43) (ys:=fun _=>post.headD (List.replicate S.length 0)) hNP rfl rfl rfl ?_;rintro⟨⟩ _ rfl))
    | ((with_reducible refine acall_id ?_);refine ACall.val hPl rfl rfl ?_)
    | with_reducible (first | refine zX ?_ | refine zD fun _=>?_ | refine zD0 ?_ | refine zN ?_ | refine zF0 ?_ | refine zX0 ?_ | refine z1 ?_ | refine z2 ?_ | refine z3 ?_ | refine z4 ?_ | refine z5 ?_ | refine z6 ?_ | refine z7 ?_ | refine z8 ?_ | refine y1 ?_ | refine y2 ?_ | refine y3 ?_ | refine y4 ?_ | refine y5 ?_ | refine y6 ?_ | refine y7 ?_ | refine y8 ?_ | refine Rt.p (fun _=>?_) fun _=>?_)
    | ((with_reducible apply w_ixM);(focus exact rfl);(focus exact rfl);case' hk=>intro y hy) | ((with_reducible (first | apply w_val | apply q_ends));(focus exact rfl)))
   all_goals first
    | (exfalso;omega)
    | exact q_loop (D++[p],post) (by show A=(D++[p])++post;rw[hD];simp) (Nat.lt_succ_self _) ⟨rfl,trivial⟩ ⟨rfl,rfl,trivial⟩ (by repeat' (first | exact kept_nil | apply kept_cons | rfl)) (by repeat' (first | exact kept_nil | apply kept_cons | rfl))
end Go.Abs
