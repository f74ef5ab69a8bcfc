/- A part of the proofs of the laws of this seat: contracts of the functions that they reach, each proved of the program's form in Lean. No condition beyond those that each contract names. -/
import Derived.Test.YtegfkfgkplnjgaaGreatProg
import Derived.Test.YtegfkfgkplnjgaaGreatSnd3
import Derived.Test.YtegfkfgkplnjgaaGreatA0
import Derived.Test.YtegfkfgkplnjgaaGreatQ1a
set_option linter.unusedVariables false
set_option linter.unusedSimpArgs false
set_option maxRecDepth 20000
set_option maxHeartbeats 4000000
namespace Go.Abs
open Go.Proofs
theorem ck_setB {n:Nat} {t:Tb} {w:Nat} {v:Int} (h:t.tried.length=6):(ckRow n t).set (9+w) (.int .i64 v)=ckRow n {t with bags:=t.bags.set w v }:=by
 unfold ckRow
 rw[show 9+w=(6+w)+1+1+1 by omega,List.set_cons_succ,List.set_cons_succ,List.set_cons_succ,List.set_append_right _ _ (by simp;omega),List.length_map,h,Nat.add_sub_cancel_left,←List.map_set]
theorem ck_len {n:Nat} {t:Tb} (h:t.tried.length=6) (hb:t.bags.length=4):(ckRow n t).length=13:=by
 unfold ckRow
 simp[h,hb]
section
variable {P:Program} {K:(Nat→AV)→Sig→Prop} {e:Nat→AV} {σ:Sig} {x v:IOpd} {r:List IStep}
theorem w_stAt {i g off:Nat} {c:List AV} {a:AV} (hx:x.ev e= .ref i g off) (hσ:σ i=(g,.row c)) (hv:cellsO 1 (v.ev e)=some (1=1,[a])) (ho:off<c.length)
  (hk:stepsW P r K e (upd σ i (g,.row (c.set off a)))):stepsW P (⟨none,none,.st 1 x v⟩::r) K e σ:=by
 refine w_det0 (p:=g=g∧1=1∧off+1≤c.length) (v:= .junk) (σ':=upd σ i (g,.row (setL c off [a]))) (fun _=>?_) ⟨rfl,rfl,by omega⟩ ?_
 · show stO 1 σ (v.ev e) (x.ev e)=_
   rw[hx]
   simp only[stO,hv,hσ]
 · rw[setL_one];exact hk
variable {n:Nat} {t:Tb} {g i:Nat}
theorem w_ckLT {d w off:Nat} (hx:x.ev e= .ref i g off) (ho:off=3+w) (hσ:σ i=(g,.row (ckRow n t))) (h:t.tried.length=6) (hw:w<6)
 (hk:stepsW P r K (upd e d (.bool (t.tried.getD w false))) σ):stepsW P (⟨some d,none,.ld 1 false x⟩::r) K e σ:=w_ldAt hx hσ (by rw[ho];exact ck_tried h hw) rfl hk
theorem w_ckLB {d w off:Nat} {b:Int} (hx:x.ev e= .ref i g off) (ho:off=9+w) (hσ:σ i=(g,.row (ckRow n t))) (h:t.tried.length=6) (hb:t.bags.length=4) (hw:w<4) (hbv:t.bags.getD w 0=b)
 (hk:stepsW P r K (upd e d (.int .i64 b)) σ):stepsW P (⟨some d,none,.ld 1 false x⟩::r) K e σ:=w_ldAt hx hσ (by rw[ho,←hbv];exact ck_bags h hb hw) rfl hk
theorem w_ckST {w off:Nat} {b:Bool} (hx:x.ev e= .ref i g off) (ho:off=3+w) (hv:v.ev e= .bool b) (hσ:σ i=(g,.row (ckRow n t))) (h:t.tried.length=6) (hb:t.bags.length=4) (hw:w<6)
  (hk:stepsW P r K e (upd σ i (g,.row (ckRow n {t with tried:=t.tried.set w b })))):stepsW P (⟨none,none,.st 1 x v⟩::r) K e σ:=by
 refine w_stAt (a:= .bool b) hx hσ (by rw[hv];rfl) (by rw[ck_len h hb];omega) ?_
 rw[ho,ck_setT h hw];exact hk
theorem w_ckSB {w off:Nat} {b:Int} (hx:x.ev e= .ref i g off) (ho:off=9+w) (hv:v.ev e= .int .i64 b) (hσ:σ i=(g,.row (ckRow n t))) (h:t.tried.length=6) (hb:t.bags.length=4) (hw:w<4)
  (hk:stepsW P r K e (upd σ i (g,.row (ckRow n {t with bags:=t.bags.set w b })))):stepsW P (⟨none,none,.st 1 x v⟩::r) K e σ:=by
 refine w_stAt (a:= .int .i64 b) hx hσ (by rw[hv];rfl) (by rw[ck_len h hb];omega) ?_
 rw[ho,ck_setB h];exact hk
theorem w_ckSN {off:Nat} {b:Int} (hx:x.ev e= .ref i g off) (ho:off=1) (hv:v.ev e= .int .i64 b) (hσ:σ i=(g,.row (ckRow n t)))
  (hk:stepsW P r K e (upd σ i (g,.row (ckRow n {t with mixed:=b })))):stepsW P (⟨none,none,.st 1 x v⟩::r) K e σ:=by
 subst ho
 exact w_stAt (a:= .int .i64 b) hx hσ (by rw[hv];rfl) (by unfold ckRow;simp) hk
theorem w_ckSC {off:Nat} {b:Int} (hx:x.ev e= .ref i g off) (ho:off=2) (hv:v.ev e= .int .i64 b) (hσ:σ i=(g,.row (ckRow n t)))
  (hk:stepsW P r K e (upd σ i (g,.row (ckRow n {t with cens:=b })))):stepsW P (⟨none,none,.st 1 x v⟩::r) K e σ:=by
 subst ho
 exact w_stAt (a:= .int .i64 b) hx hσ (by rw[hv];rfl) (by unfold ckRow;simp) hk
end
abbrev ckS (g n:Nat) (t:Tb):List (Nat×(Nat×Res)):=[(1000,(g,.row (ckRow n t)))]
abbrev dlA (d:Dl):AV:= .agg (Dl.row d)
theorem renL_app2 (ρ:List (Nat×Nat)):∀l m:List AV,renL ρ (l++m)=renL ρ l++renL ρ m
 | [],m=>rfl
 | a::l,m=>by rw[List.cons_append,renL,renL,renL_app2 ρ l m];rfl
theorem renL_ck (ρ:List (Nat×Nat)) (n:Nat) (t:Tb):renL ρ (ckRow n t)=ckRow n t:=by
 unfold ckRow
 have h1:∀l:List Bool,renL ρ (l.map AV.bool)=l.map AV.bool:=by
  intro l
  induction l with
  | nil=>rfl
  | cons a r ih=>rw[List.map_cons,renL,ih];rfl
 have h2:∀l:List Int,renL ρ (l.map (AV.int .i64))=l.map (AV.int .i64):=by
  intro l
  induction l with
  | nil=>rfl
  | cons a r ih=>rw[List.map_cons,renL,ih];rfl
 rw[renL,renL,renL,renL_app2,h1,h2];rfl
theorem ACall.ck {P:Program} {f:Nat} {args0 args:List AV} {V:Tb→AV→Prop} {σ:Sig} {d j g n:Nat} {t:Tb} {Q:AV→Sig→Prop} (h:RawC P f (.ref 1000 g 0::args0) (sg (ckS g n t)) (SR V (ckS g n))) (hr:renOK [(1000,j)]=true) (hσ:σ j=(g,.row (ckRow n t)))
  (ha:args0=renL [(j,1000)] args) (hQ:∀av t',V t' av→Q (ren [(1000,j)] av) (upd σ j (g,.row (ckRow n t')))):ACall P f (.ref j g 0::args) σ d Q:=by
 subst ha
 refine ACall.lift (l0:=ckS g n t) h [(1000,j)] none hr ?_ ?_ ⟨⟨_,by rw[hσ]⟩,trivial⟩ ?_
 · show _=ren _ _::_
   have:lk (flipL [(1000,j)]) j=some 1000:=by simp[flipL,lk]
   simp only[ren,this];rfl
 · simp only[pull,hσ,renR,renL_ck]
 · rintro av σ0' ⟨t',hV,hs,_⟩
   have:=hQ av t' hV
   have e:=push_one (ρ:=outs d none++[(1000,j)]) (σ:=σ) (b:=j) (r:=[]) hs
   rw[show (outs d none++[(1000,j)])=[(1000,j)] from rfl] at e ⊢
   rw[e]
   simp only[renR,renL_ck]
   exact this
theorem ckwood_c (g n:Nat) (d:Dl) (t:Tb) (hn:n<1000):RawC Tryz.prog 114 [.ref 1000 g 0,dlA d] (sg (ckS g n t)) (SR (fun t' v=>v= .int .i64 (if inB d.wood 0 (n-1)=true then 0 else 7)∧t=t') (ckS g n)):=by
 have h:=gin_c d.wood 0 (n-1)
 cases hb:inB d.wood 0 (n-1) with
 | true=>
   rw[hb] at h
   refine RawC.walk (H:=hint114 Tryz.prog) ir114 Tryz.func114 rfl rfl rfl ?_
   unfold ir114
   repeat' (first
    | with_reducible refine Rd.p ?_
    | with_reducible (first|refine zL ?_|refine zS ?_|refine zV ?_|refine zC ?_)
    | ((with_reducible refine aC ?_);first|(refine ACall.val h rfl rfl ?_))
    | refine aX ?_|with_reducible intro _
    | refine aP ?_ ?_)
   exact⟨t,⟨rfl,rfl⟩,rfl,trivial⟩
 | false=>
   rw[hb] at h
   refine RawC.walk (H:=hint114 Tryz.prog) ir114 Tryz.func114 rfl rfl rfl ?_
   unfold ir114
   repeat' (first
    | with_reducible refine Rd.p ?_
    | with_reducible (first|refine zL ?_|refine zS ?_|refine zV ?_|refine zC ?_)
    | ((with_reducible refine aC ?_);first|(refine ACall.val h rfl rfl ?_))
    | refine aX ?_|with_reducible intro _
    | refine aP ?_ ?_)
   exact⟨t,⟨rfl,rfl⟩,rfl,trivial⟩
theorem ckmore_c (g n:Nat) (m:Int) (t:Tb) (hn:n<1000) (h:tbOK t) (hm:0≤m∧m≤1000):RawC Tryz.prog 115 [.ref 1000 g 0,.int .i64 m] (sg (ckS g n t)) (SR (fun t' v=>v= .int .i64 (if 9<t.cens+m then 8 else 0)∧{t with cens:=t.cens+m }=t') (ckS g n)):=by
 have hc:=h.c
 by_cases h9:9<t.cens+m
 · rw[if_pos h9]
   refine RawC.walk (H:=hint115 Tryz.prog) ir115 Tryz.func115 rfl rfl rfl ?_
   unfold ir115
   repeat' (first
    | with_reducible refine Rd.p ?_
    | (refine w_ckSC rfl rfl rfl rfl ?_)
    | with_reducible (first|refine zL ?_|refine zS ?_|refine zV ?_|refine zC ?_)
    | refine aX ?_|with_reducible intro _
    | refine aP ?_ ?_)
   all_goals first
    | (exfalso;omega)
    | exact⟨_,⟨rfl,rfl⟩,rfl,trivial⟩
 · rw[if_neg h9]
   refine RawC.walk (H:=hint115 Tryz.prog) ir115 Tryz.func115 rfl rfl rfl ?_
   unfold ir115
   repeat' (first
    | with_reducible refine Rd.p ?_
    | (refine w_ckSC rfl rfl rfl rfl ?_)
    | with_reducible (first|refine zL ?_|refine zS ?_|refine zV ?_|refine zC ?_)
    | refine aX ?_|with_reducible intro _
    | refine aP ?_ ?_)
   all_goals first
    | (exfalso;omega)
    | exact⟨_,⟨rfl,rfl⟩,rfl,trivial⟩
theorem inB_ex {n a b:Int} (h:inB n a b=true):a≤n∧n≤b:=inB_t.1 h
theorem cktrial_c (g n:Nat) (d:Dl) (t:Tb) (hn:n≤6) (h:tbOK t):RawC Tryz.prog 99 [.ref 1000 g 0,dlA d] (sg (ckS g n t)) (SR (fun t' v=>v= .int .i64 (trialE n d t)∧(trialE n d t=0→{t with tried:=t.tried.set d.wood.toNat true }=t')) (ckS g n)):=by
 have hw:=ckwood_c g n d t (by omega)
 have hr:=h.r
 have hb4:=h.b
 unfold trialE
 cases hb:inB d.wood 0 (n-1) with
 | false=>
   rw[hb] at hw
   simp only[Bool.false_eq_true,if_false] at hw ⊢
   refine RawC.walk (H:=hint99 Tryz.prog) ir99 Tryz.func99 rfl rfl rfl ?_
   unfold ir99
   repeat' (first
    | with_reducible refine Rd.p ?_
    | with_reducible (first|refine zL ?_|refine zS ?_|refine zV ?_|refine zC ?_)
    | ((with_reducible refine aC ?_);first|(refine ACall.ck hw rfl rfl rfl ?_;rintro _ _ ⟨rfl,rfl⟩))
    | refine aX ?_|with_reducible intro _
    | refine aP ?_ ?_)
   exact⟨t,⟨rfl,fun h=>by cases h⟩,rfl,trivial⟩
 | true=>
   rw[hb] at hw
   obtain⟨w1,w2⟩:=inB_ex hb
   have hlt:d.wood.toNat<6:=by omega
   have e2:3+d.wood.toNat*1=3+d.wood.toNat:=by omega
   simp only[if_true] at hw ⊢
   cases ht:t.tried.getD d.wood.toNat false with
   | true=>
     simp only[if_true]
     refine RawC.walk (H:=hint99 Tryz.prog) ir99 Tryz.func99 rfl rfl rfl ?_
     unfold ir99
     repeat' (first
      | with_reducible refine Rd.p ?_
      | (refine w_ckLT rfl e2 rfl hr hlt ?_;rw[ht])
      | with_reducible (first|refine zL ?_|refine zS ?_|refine zV ?_|refine zC ?_)
      | ((with_reducible refine aC ?_);first|(refine ACall.ck hw rfl rfl rfl ?_;rintro _ _ ⟨rfl,rfl⟩))
      | refine aX ?_|with_reducible intro _
      | refine aP ?_ ?_)
     all_goals first
      | (exfalso;omega)
      | exact⟨t,⟨rfl,fun h=>by cases h⟩,rfl,trivial⟩
   | false=>
     simp only[Bool.false_eq_true,if_false]
     refine RawC.walk (H:=hint99 Tryz.prog) ir99 Tryz.func99 rfl rfl rfl ?_
     unfold ir99
     repeat' (first
      | with_reducible refine Rd.p ?_
      | (first|(refine w_ckLT rfl e2 rfl hr hlt ?_;rw[ht])|refine w_ckST rfl e2 rfl rfl hr hb4 hlt ?_)
      | with_reducible (first|refine zL ?_|refine zS ?_|refine zV ?_|refine zC ?_)
      | ((with_reducible refine aC ?_);first|(refine ACall.ck hw rfl rfl rfl ?_;rintro _ _ ⟨rfl,rfl⟩))
      | refine aX ?_|with_reducible intro _
      | refine aP ?_ ?_)
     all_goals first
      | (exfalso;omega)
      | exact⟨_,⟨rfl,fun _=>rfl⟩,rfl,trivial⟩
theorem bag_bd {t:Tb} (h:tbOK t) {b:Nat} (hb:b<4):0≤t.bags.getD b 0∧t.bags.getD b 0≤12:=h.at (b:=(b:Int)) hb
theorem ckmix_c (g n:Nat) (d:Dl) (t:Tb) (hn:n≤6) (h:tbOK t):RawC Tryz.prog 100 [.ref 1000 g 0,dlA d] (sg (ckS g n t)) (SR (fun t' v=>v= .int .i64 (mixE n d t)∧(mixE n d t=0→{t with mixed:=t.mixed+d.count,bags:=setI t.bags d.bag (atI t.bags d.bag+d.count) }=t')) (ckS g n)):=by
 have hw:=ckwood_c g n d t (by omega)
 have hr:=h.r
 have hb4:=h.b
 have hm:=h.m
 have hi1:=gin_c d.bag 0 3
 have hi2:=gin_c d.count 1 12
 unfold mixE
 cases hb:inB d.bag 0 3 with
 | false=>
   rw[hb] at hi1
   simp only[Bool.false_eq_true,if_false]
   refine RawC.walk (H:=hint100 Tryz.prog) ir100 Tryz.func100 rfl rfl rfl ?_
   unfold ir100
   repeat' (first
    | with_reducible refine Rd.p ?_
    | with_reducible (first|refine zL ?_|refine zS ?_|refine zV ?_|refine zC ?_)
    | ((with_reducible refine aC ?_);first|(refine ACall.val hi1 rfl rfl ?_))
    | refine aX ?_|with_reducible intro _
    | refine aP ?_ ?_)
   exact⟨t,⟨rfl,fun h=>by cases h⟩,rfl,trivial⟩
 | true=>
 rw[hb] at hi1
 obtain⟨b1,b2⟩:=inB_ex hb
 simp only[if_true]
 cases hwd:inB d.wood 0 (n-1) with
 | false=>
   rw[hwd] at hw
   simp only[Bool.false_eq_true,if_false] at hw ⊢
   refine RawC.walk (H:=hint100 Tryz.prog) ir100 Tryz.func100 rfl rfl rfl ?_
   unfold ir100
   repeat' (first
    | with_reducible refine Rd.p ?_
    | with_reducible (first|refine zL ?_|refine zS ?_|refine zV ?_|refine zC ?_)
    | ((with_reducible refine aC ?_);first|(refine ACall.val hi1 rfl rfl ?_)|(refine ACall.ck hw rfl rfl rfl ?_;rintro _ _ ⟨rfl,rfl⟩))
    | refine aX ?_|with_reducible intro _
    | refine aP ?_ ?_)
   exact⟨t,⟨rfl,fun h=>by cases h⟩,rfl,trivial⟩
 | true=>
 rw[hwd] at hw
 simp only[if_true] at hw ⊢
 cases hct:inB d.count 1 12 with
 | false=>
   rw[hct] at hi2
   simp only[Bool.false_eq_true,if_false]
   refine RawC.walk (H:=hint100 Tryz.prog) ir100 Tryz.func100 rfl rfl rfl ?_
   unfold ir100
   repeat' (first
    | with_reducible refine Rd.p ?_
    | with_reducible (first|refine zL ?_|refine zS ?_|refine zV ?_|refine zC ?_)
    | ((with_reducible refine aC ?_);first|(refine ACall.val hi1 rfl rfl ?_)|(refine ACall.val hi2 rfl rfl ?_)|(refine ACall.ck hw rfl rfl rfl ?_;rintro _ _ ⟨rfl,rfl⟩))
    | refine aX ?_|with_reducible intro _
    | refine aP ?_ ?_)
   all_goals first
    | (exfalso;omega)
    | exact⟨t,⟨rfl,fun h=>by cases h⟩,rfl,trivial⟩
 | true=>
 rw[hct] at hi2
 simp only[if_true]
 obtain⟨c1,c2⟩:=inB_ex hct
 have hbd:=bag_bd h (b:=d.bag.toNat) (by omega)
 have e9:9+d.bag.toNat*1=9+d.bag.toNat:=by omega
 by_cases h12:12<t.mixed+d.count
 · rw[if_pos h12]
   refine RawC.walk (H:=hint100 Tryz.prog) ir100 Tryz.func100 rfl rfl rfl ?_
   unfold ir100
   repeat' (first
    | with_reducible refine Rd.p ?_
    | (first|refine w_ckSN rfl rfl rfl rfl ?_)
    | with_reducible (first|refine zL ?_|refine zS ?_|refine zV ?_|refine zC ?_)
    | ((with_reducible refine aC ?_);first|(refine ACall.val hi1 rfl rfl ?_)|(refine ACall.val hi2 rfl rfl ?_)|(refine ACall.ck hw rfl rfl rfl ?_;rintro _ _ ⟨rfl,rfl⟩))
    | refine aX ?_|with_reducible intro _
    | refine aP ?_ ?_)
   all_goals first
    | (exfalso;omega)
    | exact⟨_,⟨rfl,fun h=>by cases h⟩,rfl,trivial⟩
 · rw[if_neg h12]
   refine RawC.walk (H:=hint100 Tryz.prog) ir100 Tryz.func100 rfl rfl rfl ?_
   unfold ir100
   repeat' (first
    | with_reducible refine Rd.p ?_
    | (first|refine w_ckSN rfl rfl rfl rfl ?_|refine w_ckLB (b:=t.bags.getD d.bag.toNat 0) rfl e9 rfl hr hb4 (by omega) rfl ?_|refine w_ckSB rfl e9 rfl rfl hr hb4 (by omega) ?_)
    | with_reducible (first|refine zL ?_|refine zS ?_|refine zV ?_|refine zC ?_)
    | ((with_reducible refine aC ?_);first|(refine ACall.val hi1 rfl rfl ?_)|(refine ACall.val hi2 rfl rfl ?_)|(refine ACall.ck hw rfl rfl rfl ?_;rintro _ _ ⟨rfl,rfl⟩))
    | refine aX ?_|with_reducible intro _
    | refine aP ?_ ?_)
   all_goals first
    | (exfalso;omega)
    | exact⟨_,⟨rfl,fun _=>rfl⟩,rfl,trivial⟩
theorem ckaside_c (g n:Nat) (d:Dl) (t:Tb) (hn:n≤6) (h:tbOK t):RawC Tryz.prog 102 [.ref 1000 g 0,dlA d] (sg (ckS g n t)) (SR (fun t' v=>v= .int .i64 (asideE d t)∧(asideE d t=0→{t with bags:=setI t.bags d.bag (atI t.bags d.bag-d.count) }=t')) (ckS g n)):=by
 have hr:=h.r
 have hb4:=h.b
 have hi1:=gin_c d.bag 0 3
 have hi2:=gin_c d.count 1 12
 unfold asideE
 cases hb:inB d.bag 0 3 with
 | false=>
   rw[hb] at hi1
   simp only[Bool.false_eq_true,false_and,if_false]
   refine RawC.walk (H:=hint102 Tryz.prog) ir102 Tryz.func102 rfl rfl rfl ?_
   unfold ir102
   repeat' (first
    | with_reducible refine Rd.p ?_
    | with_reducible (first|refine zL ?_|refine zS ?_|refine zV ?_|refine zC ?_)
    | ((with_reducible refine aC ?_);first|(refine ACall.val hi1 rfl rfl ?_))
    | refine aX ?_|with_reducible intro _
    | refine aP ?_ ?_)
   exact⟨t,⟨rfl,fun h=>by cases h⟩,rfl,trivial⟩
 | true=>
 rw[hb] at hi1
 obtain⟨b1,b2⟩:=inB_ex hb
 cases hct:inB d.count 1 12 with
 | false=>
   rw[hct] at hi2
   simp only[Bool.false_eq_true,and_false,if_false]
   refine RawC.walk (H:=hint102 Tryz.prog) ir102 Tryz.func102 rfl rfl rfl ?_
   unfold ir102
   repeat' (first
    | with_reducible refine Rd.p ?_
    | with_reducible (first|refine zL ?_|refine zS ?_|refine zV ?_|refine zC ?_)
    | ((with_reducible refine aC ?_);first|(refine ACall.val hi1 rfl rfl ?_)|(refine ACall.val hi2 rfl rfl ?_))
    | refine aX ?_|with_reducible intro _
    | refine aP ?_ ?_)
   all_goals first
    | (exfalso;omega)
    | exact⟨t,⟨rfl,fun h=>by cases h⟩,rfl,trivial⟩
 | true=>
 rw[hct] at hi2
 simp only[and_self,if_true]
 obtain⟨c1,c2⟩:=inB_ex hct
 have hbd:=bag_bd h (b:=d.bag.toNat) (by omega)
 have e9:9+d.bag.toNat*1=9+d.bag.toNat:=by omega
 have hat:atI t.bags d.bag=t.bags.getD d.bag.toNat 0:=rfl
 by_cases h12:atI t.bags d.bag<d.count
 · rw[if_pos h12]
   refine RawC.walk (H:=hint102 Tryz.prog) ir102 Tryz.func102 rfl rfl rfl ?_
   unfold ir102
   repeat' (first
    | with_reducible refine Rd.p ?_
    | (first|refine w_ckLB (b:=t.bags.getD d.bag.toNat 0) rfl e9 rfl hr hb4 (by omega) rfl ?_)
    | with_reducible (first|refine zL ?_|refine zS ?_|refine zV ?_|refine zC ?_)
    | ((with_reducible refine aC ?_);first|(refine ACall.val hi1 rfl rfl ?_)|(refine ACall.val hi2 rfl rfl ?_))
    | refine aX ?_|with_reducible intro _
    | refine aP ?_ ?_)
   all_goals first
    | (exfalso;omega)
    | exact⟨_,⟨rfl,fun h=>by cases h⟩,rfl,trivial⟩
 · rw[if_neg h12]
   refine RawC.walk (H:=hint102 Tryz.prog) ir102 Tryz.func102 rfl rfl rfl ?_
   unfold ir102
   repeat' (first
    | with_reducible refine Rd.p ?_
    | (first|refine w_ckLB (b:=t.bags.getD d.bag.toNat 0) rfl e9 rfl hr hb4 (by omega) rfl ?_|refine w_ckSB rfl e9 rfl rfl hr hb4 (by omega) ?_)
    | with_reducible (first|refine zL ?_|refine zS ?_|refine zV ?_|refine zC ?_)
    | ((with_reducible refine aC ?_);first|(refine ACall.val hi1 rfl rfl ?_)|(refine ACall.val hi2 rfl rfl ?_))
    | refine aX ?_|with_reducible intro _
    | refine aP ?_ ?_)
   all_goals first
    | (exfalso;omega)
    | exact⟨_,⟨rfl,fun _=>rfl⟩,rfl,trivial⟩
theorem ckpass_c (g n:Nat) (d:Dl) (t:Tb) (hn:n≤6) (h:tbOK t):RawC Tryz.prog 103 [.ref 1000 g 0,dlA d] (sg (ckS g n t)) (SR (fun t' v=>v= .int .i64 (passE d t)∧(passE d t=0→{t with bags:=setI t.bags d.bag (atI t.bags d.bag-d.count),cens:=t.cens+d.count }=t')) (ckS g n)):=by
 have ha:=ckaside_c g n d t hn h
 unfold passE
 by_cases h0:asideE d t=0
 case neg=>
  rw[if_neg h0]
  generalize asideE d t=A at*
  refine RawC.walk (H:=hint103 Tryz.prog) ir103 Tryz.func103 rfl rfl rfl ?_
  unfold ir103
  repeat' (first
   | with_reducible refine Rd.p ?_
   | with_reducible (first|refine zI fun y hy=>?_|refine zL ?_|refine zS ?_|refine zV ?_|refine zC ?_)
   | ((with_reducible refine aC ?_);first|(refine ACall.ck ha rfl rfl rfl ?_;rintro _ t1 ⟨rfl,_⟩))
   | refine aX ?_|with_reducible intro _
   | with_reducible refine zJ ?_ fun y hy=>?_|refine aP ?_ ?_)
  all_goals first
   | (exfalso;omega)
   | exact⟨t1,⟨rfl,fun h=>absurd h h0⟩,rfl,trivial⟩
 have hct:inB d.count 1 12=true∧inB d.bag 0 3=true∧ ¬atI t.bags d.bag<d.count:=by
  unfold asideE at h0
  split at h0
  · rename_i h1
    split at h0
    · cases h0
    · rename_i h2;exact⟨h1.2,h1.1,h2⟩
  · cases h0
 obtain⟨c1,c2⟩:=inB_ex hct.1
 obtain⟨b1,b2⟩:=inB_ex hct.2.1
 have hbd:=bag_bd h (b:=d.bag.toNat) (by omega)
 have hat:atI t.bags d.bag=t.bags.getD d.bag.toNat 0:=rfl
 rw[if_pos h0]
 rw[h0] at ha
 have ht1:tbOK {t with bags:=setI t.bags d.bag (atI t.bags d.bag-d.count) }:=h.set (by omega) (by have:=hct.2.2;omega) h.m h.c (by have:=h.s;omega)
 have hm:=ckmore_c g n d.count _ (by omega) ht1 (by omega)
 refine RawC.walk (H:=hint103 Tryz.prog) ir103 Tryz.func103 rfl rfl rfl ?_
 unfold ir103
 repeat' (first
  | with_reducible refine Rd.p ?_
  | with_reducible (first|refine zI fun y hy=>?_|refine zL ?_|refine zS ?_|refine zV ?_|refine zC ?_)
  | ((with_reducible refine aC ?_);first|(refine ACall.ck ha rfl rfl rfl ?_;rintro _ t1 ⟨rfl,ht⟩;obtain rfl:=ht rfl)|(refine ACall.ck hm rfl rfl rfl ?_;rintro _ t2 ⟨rfl,rfl⟩))
  | refine aX ?_|with_reducible intro _
  | with_reducible refine zJ ?_ fun y hy=>?_|refine aP ?_ ?_)
 all_goals first
  | (exfalso;omega)
  | exact⟨_,⟨rfl,fun _=>rfl⟩,rfl,trivial⟩
theorem ckplace_c (g n:Nat) (d:Dl) (t:Tb) (hn:n≤6) (h:tbOK t):RawC Tryz.prog 104 [.ref 1000 g 0,dlA d] (sg (ckS g n t)) (SR (fun t' v=>v= .int .i64 (placeE n d t)∧(placeE n d t=0→{t with cens:=t.cens+1 }=t')) (ckS g n)):=by
 have hw:=ckwood_c g n d t (by omega)
 unfold placeE
 cases hb:inB d.wood 0 (n-1) with
 | false=>
   rw[hb] at hw
   simp only[Bool.false_eq_true,if_false] at hw ⊢
   refine RawC.walk (H:=hint104 Tryz.prog) ir104 Tryz.func104 rfl rfl rfl ?_
   unfold ir104
   repeat' (first
    | with_reducible refine Rd.p ?_
    | with_reducible (first|refine zL ?_|refine zS ?_|refine zV ?_|refine zC ?_)
    | ((with_reducible refine aC ?_);first|(refine ACall.ck hw rfl rfl rfl ?_;rintro _ _ ⟨rfl,rfl⟩))
    | refine aX ?_|with_reducible intro _
    | refine aP ?_ ?_)
   exact⟨t,⟨rfl,fun h=>by cases h⟩,rfl,trivial⟩
 | true=>
   rw[hb] at hw
   simp only[if_true] at hw ⊢
   have hm:=ckmore_c g n 1 t (by omega) h (by omega)
   refine RawC.walk (H:=hint104 Tryz.prog) ir104 Tryz.func104 rfl rfl rfl ?_
   unfold ir104
   repeat' (first
    | with_reducible refine Rd.p ?_
    | with_reducible (first|refine zL ?_|refine zS ?_|refine zV ?_|refine zC ?_)
    | ((with_reducible refine aC ?_);first|(refine ACall.ck hw rfl rfl rfl ?_;rintro _ _ ⟨rfl,rfl⟩)|(refine ACall.ck hm rfl rfl rfl ?_;rintro _ t2 ⟨rfl,rfl⟩))
    | refine aX ?_|with_reducible intro _
    | refine aP ?_ ?_)
   all_goals first
    | (exfalso;omega)
    | exact⟨_,⟨rfl,fun _=>rfl⟩,rfl,trivial⟩
theorem ckpour_c (g n:Nat) (d:Dl) (t:Tb) (hn:n≤6) (h:tbOK t):RawC Tryz.prog 101 [.ref 1000 g 0,dlA d] (sg (ckS g n t)) (SR (fun t' v=>v= .int .i64 (pourE d)∧(pourE d=0→{t with bags:=setI (setI t.bags d.other (atI t.bags d.other+atI t.bags d.bag)) d.bag 0 }=t')) (ckS g n)):=by
 have hr:=h.r
 have hb4:=h.b
 have hi1:=gin_c d.bag 0 3
 have hi2:=gin_c d.other 0 3
 unfold pourE
 cases hb:inB d.bag 0 3 with
 | false=>
   rw[hb] at hi1
   simp only[Bool.false_eq_true,false_and,if_false]
   refine RawC.walk (H:=hint101 Tryz.prog) ir101 Tryz.func101 rfl rfl rfl ?_
   unfold ir101
   repeat' (first
    | with_reducible refine Rd.p ?_
    | with_reducible (first|refine zL ?_|refine zS ?_|refine zV ?_|refine zC ?_)
    | ((with_reducible refine aC ?_);first|(refine ACall.val hi1 rfl rfl ?_))
    | refine aX ?_|with_reducible intro _
    | refine aP ?_ ?_)
   exact⟨t,⟨rfl,fun h=>by cases h⟩,rfl,trivial⟩
 | true=>
 rw[hb] at hi1
 obtain⟨b1,b2⟩:=inB_ex hb
 cases hct:inB d.other 0 3 with
 | false=>
   rw[hct] at hi2
   simp only[Bool.false_eq_true,and_false,if_false]
   refine RawC.walk (H:=hint101 Tryz.prog) ir101 Tryz.func101 rfl rfl rfl ?_
   unfold ir101
   repeat' (first
    | with_reducible refine Rd.p ?_
    | with_reducible (first|refine zL ?_|refine zS ?_|refine zV ?_|refine zC ?_)
    | ((with_reducible refine aC ?_);first|(refine ACall.val hi1 rfl rfl ?_)|(refine ACall.val hi2 rfl rfl ?_))
    | refine aX ?_|with_reducible intro _
    | refine aP ?_ ?_)
   all_goals first
    | (exfalso;omega)
    | exact⟨t,⟨rfl,fun h=>by cases h⟩,rfl,trivial⟩
 | true=>
 rw[hct] at hi2
 simp only[and_self,if_true]
 obtain⟨c1,c2⟩:=inB_ex hct
 have hbd:=bag_bd h (b:=d.bag.toNat) (by omega)
 have hod:=bag_bd h (b:=d.other.toNat) (by omega)
 have e9:9+d.bag.toNat*1=9+d.bag.toNat:=by omega
 have e8:9+d.other.toNat*1=9+d.other.toNat:=by omega
 by_cases h12:d.bag=d.other
 · rw[if_pos h12]
   refine RawC.walk (H:=hint101 Tryz.prog) ir101 Tryz.func101 rfl rfl rfl ?_
   unfold ir101
   repeat' (first
    | with_reducible refine Rd.p ?_
    | with_reducible (first|refine zL ?_|refine zS ?_|refine zV ?_|refine zC ?_)
    | ((with_reducible refine aC ?_);first|(refine ACall.val hi1 rfl rfl ?_)|(refine ACall.val hi2 rfl rfl ?_))
    | refine aX ?_|with_reducible intro _
    | refine aP ?_ ?_)
   all_goals first
    | (exfalso;omega)
    | exact⟨_,⟨rfl,fun h=>by cases h⟩,rfl,trivial⟩
 · rw[if_neg h12]
   refine RawC.walk (H:=hint101 Tryz.prog) ir101 Tryz.func101 rfl rfl rfl ?_
   unfold ir101
   repeat' (first
    | with_reducible refine Rd.p ?_
    | (first|refine w_ckLB (b:=t.bags.getD d.bag.toNat 0) rfl e9 rfl hr hb4 (by omega) rfl ?_|refine w_ckLB (b:=t.bags.getD d.other.toNat 0) rfl e8 rfl hr hb4 (by omega) rfl ?_|refine w_ckSB rfl e8 rfl rfl hr hb4 (by omega) ?_|refine w_ckSB rfl e9 rfl rfl hr (by show (List.set _ _ _).length=4;rw[List.length_set];exact hb4) (by omega) ?_)
    | with_reducible (first|refine zL ?_|refine zS ?_|refine zV ?_|refine zC ?_)
    | ((with_reducible refine aC ?_);first|(refine ACall.val hi1 rfl rfl ?_)|(refine ACall.val hi2 rfl rfl ?_))
    | refine aX ?_|with_reducible intro _
    | refine aP ?_ ?_)
   all_goals first
    | (exfalso;omega)
    | exact⟨_,⟨rfl,fun _=>rfl⟩,rfl,trivial⟩
theorem tb0_ok:tbOK tb0:=⟨rfl,rfl,by decide,by decide,(by decide),by decide⟩
theorem aside_0 {d:Dl} {t:Tb} (h0:asideE d t=0):inB d.count 1 12=true∧inB d.bag 0 3=true∧ ¬atI t.bags d.bag<d.count:=by
 unfold asideE at h0
 split at h0
 · rename_i h1
   split at h0
   · cases h0
   · rename_i h2;exact⟨h1.2,h1.1,h2⟩
 · cases h0
theorem dealT_ok {n:Nat} {d:Dl} {t:Tb} (hk:inB d.kind 1 6=true) (h:tbOK t) (h0:dealE n d t=0):tbOK (dealT d t):=by
 obtain⟨k1,k2⟩:=inB_ex hk
 have hm:=h.m
 have hs:=h.s
 have hc:=h.c
 unfold dealE at h0
 unfold dealT
 by_cases e1:d.kind=1
 · rw[if_pos e1]
   exact⟨h.b,by show (List.set _ _ _).length=6;rw[List.length_set];exact h.r,h.m,h.c,h.nn,h.s⟩
 rw[if_neg e1] at h0 ⊢
 by_cases e2:d.kind=2
 · rw[if_pos e2] at h0 ⊢
   unfold mixE at h0
   split at h0
   · rename_i h1
     split at h0
     · split at h0
       · rename_i h3
         split at h0
         · cases h0
         · obtain⟨b1,b2⟩:=inB_ex h1
           obtain⟨c1,c2⟩:=inB_ex h3
           have:=h.at (b:=d.bag) (by omega)
           exact h.set (by omega) (by omega) (by omega) h.c (by omega)
       · cases h0
     · cases h0
   · cases h0
 rw[if_neg e2] at h0 ⊢
 by_cases e3:d.kind=3
 · rw[if_pos e3] at h0 ⊢
   unfold pourE at h0
   split at h0
   · rename_i h1
     split at h0
     · cases h0
     · rename_i h2
       obtain⟨b1,b2⟩:=inB_ex h1.1
       obtain⟨c1,c2⟩:=inB_ex h1.2
       have p1:=h.at (b:=d.bag) (by omega)
       have p2:=h.at (b:=d.other) (by omega)
       have hl:=h.b
       have q1:=sum_setI t.bags d.other.toNat (atI t.bags d.other+atI t.bags d.bag) (by omega)
       have q2:=sum_setI (t.bags.set d.other.toNat (atI t.bags d.other+atI t.bags d.bag)) d.bag.toNat 0 (by rw[List.length_set];omega)
       have q3:(t.bags.set d.other.toNat (atI t.bags d.other+atI t.bags d.bag)).getD d.bag.toNat 0=t.bags.getD d.bag.toNat 0:=by
        rw[List.getD_eq_getElem?_getD,List.getElem?_set_ne (by omega),←List.getD_eq_getElem?_getD]
       refine⟨by show (List.set (List.set _ _ _) _ _).length=4;rw[List.length_set,List.length_set];exact h.b,h.r,h.m,h.c,fun x hx=>?_,?_⟩
       · rcases mem_setI hx with hx|rfl
         · rcases mem_setI hx with hx|rfl
           · exact h.nn x hx
           · omega
         · omega
       · show ((t.bags.set d.other.toNat (atI t.bags d.other+atI t.bags d.bag)).set d.bag.toNat 0).sum≤t.mixed
         rw[q2,q3,q1]
         have r1:atI t.bags d.other=t.bags.getD d.other.toNat 0:=rfl
         have r2:atI t.bags d.bag=t.bags.getD d.bag.toNat 0:=rfl
         omega
   · cases h0
 rw[if_neg e3] at h0 ⊢
 by_cases e4:d.kind=4
 · rw[if_pos e4] at h0 ⊢
   obtain⟨a1,a2,a3⟩:=aside_0 h0
   obtain⟨b1,b2⟩:=inB_ex a1
   obtain⟨c1,c2⟩:=inB_ex a2
   have:=h.at (b:=d.bag) (by omega)
   exact h.set (by omega) (by omega) h.m h.c (by omega)
 rw[if_neg e4] at h0 ⊢
 by_cases e5:d.kind=5
 · rw[if_pos e5] at h0 ⊢
   unfold passE at h0
   split at h0
   · rename_i h1
     split at h0
     · cases h0
     · obtain⟨a1,a2,a3⟩:=aside_0 h1
       obtain⟨b1,b2⟩:=inB_ex a1
       obtain⟨c1,c2⟩:=inB_ex a2
       have:=h.at (b:=d.bag) (by omega)
       exact h.set (by omega) (by omega) h.m (by omega) (by omega)
   · contradiction
 rw[if_neg e5] at h0 ⊢
 unfold placeE at h0
 split at h0
 · split at h0
   · cases h0
   · exact⟨h.b,h.r,h.m,by show 0≤t.cens+1∧t.cens+1≤9;omega,h.nn,h.s⟩
 · cases h0
abbrev Wt:=List (List Int×Int)
def sumW:Wt→(List Int→Int)→Int
 | [],_=>0
 | x::r,V=>x.2*V x.1+sumW r V
def addW:Wt→List Int→Int→Wt
 | [],B,n=>[(B,n)]
 | (C,m)::r,B,n=>if B=C then (C,m+n)::r else (C,m)::addW r B n
theorem sumW_add (V:List Int→Int) (B:List Int) (n:Int):∀W:Wt,sumW (addW W B n) V=sumW W V+n*V B
 | []=>by simp[addW,sumW]
 | (C,m)::r=>by
   rw[addW]
   by_cases h:B=C
   · subst h
     rw[if_pos rfl]
     simp only[sumW]
     rw[Int.add_mul];omega
   · rw[if_neg h]
     simp only[sumW]
     rw[sumW_add V B n r];omega
theorem sumW_app (V:List Int→Int):∀W U:Wt,sumW (W++U) V=sumW W V+sumW U V
 | [],U=>by simp[sumW]
 | x::r,U=>by rw[List.cons_append,sumW,sumW,sumW_app V r U];omega
theorem sumW_erase (V:List Int→Int):∀{W:Wt} {j:Nat} {a:List Int×Int},W[j]?=some a→sumW W V=a.2*V a.1+sumW (W.eraseIdx j) V
 | [],j,a,h=>by simp at h
 | x::r,0,a,h=>by
   obtain rfl:x=a:=by simpa using h
   rfl
 | x::r,j+1,a,h=>by
   have ih:=sumW_erase V (W:=r) (j:=j) (a:=a) (by simpa using h)
   rw[List.eraseIdx_cons_succ,sumW,sumW,ih];omega
def bgOK (B:List Int):Prop:=B.length=24∧ ∀v∈B,0≤v
structure WtOK (W:Wt):Prop where
 nd:(W.map (·.1)).Nodup
 pos:∀x∈W,0<x.2
 ok:∀x∈W,bgOK x.1
theorem addW_keys (B:List Int) (n:Int):∀(W:Wt) (C:List Int),C∈(addW W B n).map (·.1)↔C∈W.map (·.1)∨C=B
 | [],C=>by simp[addW]
 | (D,m)::r,C=>by
   rw[addW]
   by_cases h:B=D
   · subst h
     rw[if_pos rfl]
     simp only[List.map_cons,List.mem_cons]
     constructor
     · exact .inl
     · rintro (h|rfl)
       · exact h
       · exact .inl rfl
   · rw[if_neg h]
     simp only[List.map_cons,List.mem_cons,addW_keys B n r C]
     constructor
     · rintro (h | h | h)
       · exact .inl (.inl h)
       · exact .inl (.inr h)
       · exact .inr h
     · rintro ((h | h) | h)
       · exact .inl h
       · exact .inr (.inl h)
       · exact .inr (.inr h)
theorem addW_nd (B:List Int) (n:Int):∀W:Wt,(W.map (·.1)).Nodup→((addW W B n).map (·.1)).Nodup
 | [],_=>by simp[addW]
 | (D,m)::r,h=>by
   rw[addW]
   by_cases e:B=D
   · subst e
     rw[if_pos rfl]
     exact h
   · rw[if_neg e]
     obtain⟨h1,h2⟩:=List.nodup_cons.1 h
     refine List.nodup_cons.2 ⟨fun hm=>?_,addW_nd B n r h2⟩
     rcases (addW_keys B n r D).1 hm with hm | hm
     · exact h1 hm
     · exact e hm.symm
theorem addW_mem {B:List Int} {n:Int}:∀{W:Wt} {x:List Int×Int},x∈addW W B n→x∈W∨(x.1=B∧(x.2=n∨ ∃m,(B,m)∈W∧x.2=m+n))
 | [],x,h=>by
   obtain rfl:x=(B,n):=by simpa[addW] using h
   exact .inr ⟨rfl,.inl rfl⟩
 | (D,m)::r,x,h=>by
   rw[addW] at h
   by_cases e:B=D
   · subst e
     rw[if_pos rfl] at h
     rcases List.mem_cons.1 h with rfl | h
     · exact .inr ⟨rfl,.inr ⟨m,by simp,rfl⟩⟩
     · exact .inl (by simp[h])
   · rw[if_neg e] at h
     rcases List.mem_cons.1 h with rfl | h
     · exact .inl (by simp)
     · rcases addW_mem h with h | ⟨h1,h2 | ⟨k,h3,h4⟩⟩
       · exact .inl (by simp[h])
       · exact .inr ⟨h1,.inl h2⟩
       · exact .inr ⟨h1,.inr ⟨k,by simp[h3],h4⟩⟩
theorem WtOK.nil:WtOK []:=⟨List.nodup_nil,(fun x h=>by cases h),fun x h=>by cases h⟩
theorem WtOK.add {W:Wt} (h:WtOK W) {B:List Int} {n:Int} (hn:0<n) (hB:bgOK B):WtOK (addW W B n):=by
 refine⟨addW_nd B n W h.nd,fun x hx=>?_,fun x hx=>?_⟩
 · rcases addW_mem hx with hx | ⟨_,h2 | ⟨m,h3,h4⟩⟩
   · exact h.pos x hx
   · omega
   · have:=h.pos _ h3
     dsimp only at this
     omega
 · rcases addW_mem hx with hx | ⟨h1,_⟩
   · exact h.ok x hx
   · rw[h1];exact hB
theorem sumW_nn {V:List Int→Int}:∀{W:Wt},(∀x∈W,0<x.2)→(∀x∈W,0≤V x.1)→0≤sumW W V
 | [],_,_=>Int.le_refl _
 | x::r,h1,h2=>by
   have a:=sumW_nn (W:=r) (V:=V) (fun y hy=>h1 y (by simp[hy])) (fun y hy=>h2 y (by simp[hy]))
   have b:=Int.mul_nonneg (Int.le_of_lt (h1 x (by simp))) (h2 x (by simp))
   rw[sumW];omega
theorem sumW_le {V U:List Int→Int}:∀{W:Wt},(∀x∈W,0<x.2)→(∀x∈W,V x.1≤U x.1)→sumW W V≤sumW W U
 | [],_,_=>Int.le_refl _
 | x::r,h1,h2=>by
   have a:=sumW_le (W:=r) (V:=V) (U:=U) (fun y hy=>h1 y (by simp[hy])) (fun y hy=>h2 y (by simp[hy]))
   have b:=Int.mul_le_mul_of_nonneg_left (h2 x (by simp)) (Int.le_of_lt (h1 x (by simp)))
   rw[sumW,sumW];omega
theorem sumW_congr {V U:List Int→Int}:∀{W:Wt},(∀x∈W,V x.1=U x.1)→sumW W V=sumW W U
 | [],_=>rfl
 | x::r,h=>by rw[sumW,sumW,h x (by simp),sumW_congr fun y hy=>h y (by simp[hy])]
theorem sumW_mem {V:List Int→Int}:∀{W:Wt},(∀x∈W,0<x.2)→(∀x∈W,0≤V x.1)→ ∀x∈W,x.2*V x.1≤sumW W V
 | y::r,h1,h2,x,hx=>by
   have a:=sumW_nn (W:=r) (V:=V) (fun z hz=>h1 z (by simp[hz])) (fun z hz=>h2 z (by simp[hz]))
   have b:=Int.mul_nonneg (Int.le_of_lt (h1 y (by simp))) (h2 y (by simp))
   rw[sumW]
   rcases List.mem_cons.1 hx with rfl | hx
   · omega
   · have:=sumW_mem (W:=r) (V:=V) (fun z hz=>h1 z (by simp[hz])) (fun z hz=>h2 z (by simp[hz])) x hx
     omega
theorem sumW_nil {W:Wt} (h:∀x∈W,0<x.2):W=[]↔sumW W (fun _=>1)=0:=by
 constructor
 · rintro rfl;rfl
 · intro h0
   cases W with
   | nil=>rfl
   | cons x r=>
     have:=sumW_mem (V:=fun _=>1) h (fun _ _=>by decide) x (by simp)
     have:=h x (by simp)
     try dsimp only at*
     omega
abbrev bgV (B:List Int):AV:= .agg (B.map (AV.int .i64))
abbrev bgK:KK:= .flat (List.replicate 24 .i)
theorem eqAg_ints:∀(xs ys:List Int),xs.length=ys.length→eqAg (List.replicate xs.length .i) (xs.map (AV.int .i64)) (ys.map (AV.int .i64))=some (decide (xs=ys))
 | [],[],_=>rfl
 | x::xs,y::ys,h=>by
   have ih:=eqAg_ints xs ys (by simpa using h)
   show (match eqAg (List.replicate xs.length .i) (xs.map (AV.int .i64)) (ys.map (AV.int .i64)) with
    | some r=>some (decide (x=y) && r)
    | none=>none)=_
   rw[ih]
   by_cases e:x=y<;>by_cases e2:xs=ys<;>simp[e,e2]
 | [],_::_,h=>by simp at h
 | _::_,[],h=>by simp at h
def ir53:IFn:=
 ⟨49,[(4,some (24,true))],(.seq (.ops [oo 2 (.box 24 0),oo 3 (.box 5 1),oo 4 (.new [z0,z0,z0,z0,z0,z0,z0,z0,z0,z0,z0,z0,z0,z0,z0,z0,z0,z0,z0,z0,z0,z0,z0,z0])])
 (.seq (.seq (.ops [oo 7 (.flA 0 3),oo 8 (.ld 1 false 7)])
 (.blk 0 (.seq (.ops [oo 10 (.bin .eql 8 (kI 2)),oo 9 (.mov 10)])
 (.cnd 9
 (.ops [oo 11 (.flA 1 3),oo 12 (.ld 1 false 11),oo 13 (.flA 3 3),oo 14 (.ld 1 false 13),oo 15 (.ixAr 4 6 2 12),oo 16 (.ixAr 6 1 15 14),oo 17 (.ld 1 false 16),oo 18 (.flA 4 3),oo 19 (.ld 1 false 18),oo 20 (.bin .add 17 19),oo 21 (.ixAr 4 6 2 12),oo 22 (.ixAr 6 1 21 14),
 ⟨none,none,(.st 1 22 20)⟩])
 (.seq (.ops [oo 24 (.bin .eql 8 (kI 3)),oo 23 (.mov 24)])
 (.cnd 23
 (.seq (.seq (.ops [oo 25 (.flA 1 3),oo 26 (.ld 1 false 25),oo 27 (.ixAr 4 6 2 26),oo 28 (.ld 6 true 27),oo 29 (.mov (kI 0))])
 (.blk 1 (.loop (.seq (.ops [oo 30 (.bin .lss 29 (kI 6))])
 (.seq (.cnd 30
 .skip
 (.exit 1))
 (.seq (.blk 2 (.seq (.ops [oo 31 (.mov 29),oo 32 (.ixV 6 1 false 28 29),oo 5 (.mov 31),oo 6 (.mov 32)])
 (.ops [oo 33 (.flA 2 3),oo 34 (.ld 1 false 33),oo 35 (.mov 5),oo 36 (.ixAr 4 6 2 34),oo 37 (.ixAr 6 1 36 35),oo 38 (.ld 1 false 37),oo 39 (.mov 6),oo 40 (.bin .add 38 39),oo 41 (.ixAr 4 6 2 34),oo 42 (.ixAr 6 1 41 35),
 ⟨none,none,(.st 1 42 40)⟩])))
 (.ops [oo 43 (.bin .add 29 (kI 1)),oo 29 (.mov 43)])))))))
 (.ops [oo 44 (.flA 1 3),oo 45 (.ld 1 false 44),oo 46 (.bld [(.int .i64 0),(.int .i64 0),(.int .i64 0),(.int .i64 0),(.int .i64 0),(.int .i64 0)] []),oo 47 (.ixAr 4 6 2 45),
 ⟨none,none,(.st 6 47 46)⟩]))
 .skip))))))
 (.seq (.ops [oo 48 (.ld 24 true 2),
 ⟨none,none,(.st 24 4 48)⟩])
 .ret)))⟩
def hint53 (P:Program):Hint:={}
def ir55:IFn:=
 ⟨19,[(4,none)],(.seq (.ops [oo 2 (.box 24 0),oo 4 (.mov (kI 0))])
 (.seq (.ops [oo 5 (.mov (kI 0))])
 (.seq (.seq (.ops [oo 8 (.mov 1),oo 9 (.ixAr 4 6 2 8),oo 10 (.ld 6 true 9),oo 11 (.mov (kI 0))])
 (.blk 0 (.loop (.seq (.ops [oo 12 (.bin .lss 11 (kI 6))])
 (.seq (.cnd 12
 .skip
 (.exit 0))
 (.seq (.blk 1 (.seq (.ops [oo 13 (.ixV 6 1 false 10 11),oo 7 (.mov 13)])
 (.ops [oo 14 (.mov 5),oo 15 (.mov 7),oo 16 (.bin .add 14 15),oo 5 (.mov 16)])))
 (.ops [oo 17 (.bin .add 11 (kI 1)),oo 11 (.mov 17)])))))))
 (.seq (.ops [oo 18 (.mov 5),oo 4 (.mov 18)])
 .ret))))⟩
def hint55 (P:Program):Hint:={}
def ir52:IFn:=
 ⟨14,[(2,none),(3,none)],(.seq (.ops [oo 1 (.box 5 0),oo 2 (.mov (kI 0)),oo 3 (.mov (kB false))])
 (.seq (.seq (.ops [oo 4 (.flA 0 1),oo 5 (.ld 1 false 4)])
 (.blk 0 (.seq (.seq (.ops [oo 7 (.bin .eql 5 (kI 4)),oo 6 (.mov 7)])
 (.cnd 6
 .skip
 (.ops [oo 8 (.bin .eql 5 (kI 5)),oo 6 (.mov 8)])))
 (.cnd 6
 (.seq (.ops [oo 9 (.flA 4 1),oo 10 (.ld 1 false 9),oo 11 (.flA 0 1),oo 12 (.ld 1 false 11),oo 13 (.bin .eql 12 (kI 5)),oo 2 (.mov 10),oo 3 (.mov 13)])
 .ret)
 .skip))))
 (.seq (.ops [oo 2 (.mov (kI 0)),oo 3 (.mov (kB false))])
 .ret)))⟩
def hint52 (P:Program):Hint:={}
abbrev nI (l:List Int):List AV:=l.map (AV.int .i64)
theorem nI_scal (l:List Int):(nI l).all AV.scal=true:=by
 rw[List.all_eq_true]
 intro x hx
 obtain⟨y,_,rfl⟩:=List.mem_map.1 hx
 rfl
theorem nI_get {l:List Int} {p:Nat} (h:p<l.length):(nI l)[p]?=some (.int .i64 (l.getD p 0)):=by
 rw[List.getElem?_map,List.getElem?_eq_getElem h,List.getD_eq_getElem?_getD,List.getElem?_eq_getElem h];rfl
section
variable {P:Program} {K:(Nat→AV)→Sig→Prop} {e:Nat→AV} {σ:Sig} {x v:IOpd} {r:List IStep} {i g d n:Nat} {B:List Int}
theorem w_boxN (hv:v.ev e= .agg (nI B)) (hn:B.length=n) (hk:∀g,stepsW P r K (upd e d (.ref d g 0)) (newS σ d g (nI B))):stepsW P (⟨some d,none,.box n v⟩::r) K e σ:=by
 refine w_det (p:=(nI B).length=n∧(nI B).all AV.scal=true) (v:=fun g=> .ref d g 0) (σ':=fun g=>newS σ d g (nI B)) (fun g=>?_) ⟨by rw[List.length_map,hn],nI_scal B⟩ hk
 show (match cellsO n (v.ev e) with
  | some (p,c)=>some (p,AV.ref d g 0,newS σ d g c)
  | none=>none)=_
 rw[hv];rfl
theorem w_ldN (hx:x.ev e= .ref i g 0) (hσ:σ i=(g,.row (nI B))) (hn:B.length=n) (hk:stepsW P r K (upd e d (.agg (nI B))) σ):stepsW P (⟨some d,none,.ld n true x⟩::r) K e σ:=by
 refine w_val (p:=g=g∧0+n≤(nI B).length) (v:= .agg (((nI B).drop 0).take n)) ?_ ⟨rfl,by rw[List.length_map];omega⟩ ?_
 · show ldO n true σ (x.ev e)=_
   rw[hx]
   simp only[ldO,hσ,partO]
 · rw[List.drop_zero,List.take_of_length_le (by rw[List.length_map];omega)];exact hk
theorem w_ldSub {off:Nat} (hx:x.ev e= .ref i g off) (hσ:σ i=(g,.row (nI B))) (hn:off+n≤B.length) (hk:stepsW P r K (upd e d (.agg (nI ((B.drop off).take n)))) σ):stepsW P (⟨some d,none,.ld n true x⟩::r) K e σ:=by
 refine w_val (p:=g=g∧off+n≤(nI B).length) (v:= .agg (((nI B).drop off).take n)) ?_ ⟨rfl,by rw[List.length_map];omega⟩ ?_
 · show ldO n true σ (x.ev e)=_
   rw[hx]
   simp only[ldO,hσ,partO]
 · rw[←List.map_drop,←List.map_take];exact hk
theorem w_stN {c:List AV} (hx:x.ev e= .ref i g 0) (hσ:σ i=(g,.row c)) (hc:c.length=n) (hv:v.ev e= .agg (nI B)) (hn:B.length=n) (hk:stepsW P r K e (upd σ i (g,.row (nI B)))):stepsW P (⟨none,none,.st n x v⟩::r) K e σ:=by
 refine w_det0 (p:=g=g∧((nI B).length=n∧(nI B).all AV.scal=true)∧0+n≤c.length) (v:= .junk) (σ':=upd σ i (g,.row (setL c 0 (nI B)))) (fun _=>?_) ⟨rfl,⟨by rw[List.length_map,hn],nI_scal B⟩,by omega⟩ ?_
 · show stO n σ (v.ev e) (x.ev e)=_
   rw[hx,hv]
   simp only[stO,cellsO,hσ]
 · have e1:setL c 0 (nI B)=nI B:=by
    apply List.ext_getElem?
    intro j
    rw[setL_get _ _ _ _ (by rw[List.length_map];omega)]
    split
    · rw[Nat.sub_zero]
    · rename_i h
      rw[List.length_map] at h
      rw[List.getElem?_eq_none (by omega),List.getElem?_eq_none (by rw[List.length_map];omega)]
   rw[e1];exact hk
theorem w_ldEl {off p:Nat} (hx:x.ev e= .ref i g off) (ho:off=p) (hσ:σ i=(g,.row (nI B))) (hp:p<B.length) (hk:stepsW P r K (upd e d (.int .i64 (B.getD p 0))) σ):stepsW P (⟨some d,none,.ld 1 false x⟩::r) K e σ:=
 w_ldAt hx hσ (by rw[ho];exact nI_get hp) rfl hk
theorem w_stEl {off p:Nat} {a:Int} (hx:x.ev e= .ref i g off) (ho:off=p) (hσ:σ i=(g,.row (nI B))) (hp:p<B.length) (hv:v.ev e= .int .i64 a) (hk:stepsW P r K e (upd σ i (g,.row (nI (B.set p a))))):stepsW P (⟨none,none,.st 1 x v⟩::r) K e σ:=by
 refine w_stAt (a:= .int .i64 a) hx hσ (by rw[hv];rfl) (by rw[List.length_map,ho];exact hp) ?_
 rw[ho,←List.map_set];exact hk
theorem w_ixEl {m:Nat} {k:Nat} {y:IOpd} (hx:x.ev e= .agg (nI B)) (hy:y.ev e= .int .i64 (k:Int)) (hk0:k<B.length) (hm:B.length=m) (hk:stepsW P r K (upd e d (.int .i64 (B.getD k 0))) σ):stepsW P (⟨some d,none,.ixV m 1 false x y⟩::r) K e σ:=by
 refine w_val (p:=(0≤(k:Int)∧(k:Int)<m)∧True) (v:= .int .i64 (B.getD k 0)) ?_ ⟨⟨by omega,by omega⟩,trivial⟩ hk
 show (match ixVO m 1 false (x.ev e) (y.ev e) with
  | some (p,q,v)=>some (p∧q,v)
  | none=>none)=_
 rw[hx,hy]
 have h1:(nI B)[(k:Int).toNat*1]?=some (.int .i64 (B.getD k 0)):=by rw[Int.toNat_natCast,Nat.mul_one];exact nI_get hk0
 simp only[ixVO,partO,h1,forceA,liftV,okV]
end
end Go.Abs
namespace Go.Abs
open Go.Proofs
theorem draws_c (d:Dl):Fn0 Tryz.prog 52 [dlA d] (fun v=>v= .tup [.int .i64 (if drawsB d=true then d.count else 0),.bool (drawsB d && decide (d.kind=5))]):=by
 by_cases h4:d.kind=4
 · have e1:drawsB d=true:=by simp[drawsB,h4]
   rw[e1]
   refine RawC.walk (H:=hint52 Tryz.prog) ir52 Tryz.func52 rfl rfl rfl ?_
   unfold ir52
   repeat' (first
    | with_reducible refine Rd.p ?_
    | with_reducible (first|refine zL ?_|refine zS ?_|refine zV ?_|refine zC ?_)
    | refine aX ?_|with_reducible intro _
    | refine aP ?_ ?_)
   all_goals first
    | (exfalso;omega)
    | (have h5:decide (d.kind=5)=false:=decide_eq_false (by omega);simp only[if_true,Bool.true_and];rfl)
 · by_cases h5:d.kind=5
   · have e1:drawsB d=true:=by simp[drawsB,h5]
     rw[e1]
     refine RawC.walk (H:=hint52 Tryz.prog) ir52 Tryz.func52 rfl rfl rfl ?_
     unfold ir52
     repeat' (first
      | with_reducible refine Rd.p ?_
      | with_reducible (first|refine zL ?_|refine zS ?_|refine zV ?_|refine zC ?_)
      | refine aX ?_|with_reducible intro _
      | refine aP ?_ ?_)
     all_goals first
      | (exfalso;omega)
      | (simp only[if_true,Bool.true_and];rfl)
   · have e1:drawsB d=false:=by simp[drawsB,h4,h5]
     rw[e1]
     refine RawC.walk (H:=hint52 Tryz.prog) ir52 Tryz.func52 rfl rfl rfl ?_
     unfold ir52
     repeat' (first
      | with_reducible refine Rd.p ?_
      | with_reducible (first|refine zL ?_|refine zS ?_|refine zV ?_|refine zC ?_)
      | refine aX ?_|with_reducible intro _
      | refine aP ?_ ?_)
     all_goals first
      | (exfalso;omega)
      | rfl
structure bgIn (B:List Int):Prop where
 l:B.length=24
 b:∀v∈B,0≤v∧v≤1000000
theorem bgIn.at {B:List Int} (h:bgIn B) (p:Nat):0≤B.getD p 0∧B.getD p 0≤1000000:=by
 rw[List.getD_eq_getElem?_getD]
 cases hp:B[p]? with
 | none=>exact⟨Int.le_refl _,by decide⟩
 | some v=>exact h.b v (List.mem_of_getElem? hp)
theorem row6 {B:List Int} (hl:B.length=24) {i:Int} (hi:0≤i∧i≤3):(B.drop (0+i.toNat*6)).take 6=(List.range 6).map fun (w:Nat)=>bgAt B i w:=by
 apply List.ext_getElem?
 intro j
 by_cases hj:j<6
 · rw[List.getElem?_take_of_lt hj,List.getElem?_drop,List.getElem?_map,List.getElem?_range hj,Option.map_some]
   unfold bgAt
   rw[Int.toNat_natCast,List.getD_eq_getElem?_getD,Nat.zero_add,List.getElem?_eq_getElem (show i.toNat*6+j<B.length by omega)];rfl
 · rw[List.getElem?_eq_none (by rw[List.length_take,List.length_drop];omega),List.getElem?_eq_none (by simp;omega)]
theorem row6_sum (B:List Int) (i:Int):((List.range 6).map fun (w:Nat)=>bgAt B i w).sum=bgSize B i:=rfl
theorem take_sum {R:List Int} {k:Nat} (hk:k<R.length):(R.take (k+1)).sum=(R.take k).sum+R.getD k 0:=by
 rw[List.take_add_one,List.sum_append,List.getD_eq_getElem?_getD,List.getElem?_eq_getElem hk]
 simp
theorem sum_bd {M:Int}:∀{l:List Int},(∀x∈l,0≤x∧x≤M)→0≤l.sum∧l.sum≤l.length*M
 | [],_=>by simp
 | a::r,h=>by
   have ih:=sum_bd (l:=r) (M:=M) fun x hx=>h x (by simp[hx])
   have ha:=h a (by simp)
   rw[List.sum_cons,List.length_cons,Int.natCast_succ,Int.add_mul]
   omega
theorem bgsize_c (B:List Int) (h:bgIn B) (i:Int) (hi:0≤i∧i≤3):Fn0 Tryz.prog 55 [bgV B,.int .i64 i] (fun v=>v= .int .i64 (bgSize B i)):=by
 have hl:=h.l
 have hsub:((B.drop (0+i.toNat*6)).take 6).length=6:=by rw[List.length_take,List.length_drop];omega
 refine RawC.walk (H:=hint55 Tryz.prog) ir55 Tryz.func55 rfl rfl rfl ?_
 unfold ir55
 repeat' (first
  | with_reducible refine Rd.p ?_
  | (first|(refine w_boxN rfl hl ?_;intro g2)|refine w_ldSub rfl rfl (by omega) ?_)
  | with_reducible (first|refine zL ?_|refine zS ?_|refine zV ?_|refine zC ?_)
  | refine aX ?_|with_reducible intro _
  | refine aP ?_ ?_)
 have hR:=row6 hl hi
 have hRb:∀v∈(B.drop (0+i.toNat*6)).take 6,0≤v∧v≤1000000:=fun v hv=>h.b v (List.mem_of_mem_drop (List.mem_of_mem_take hv))
 have hRs:((B.drop (0+i.toNat*6)).take 6).sum=bgSize B i:=by rw[hR];exact row6_sum B i
 generalize (B.drop (0+i.toNat*6)).take 6=R at*
 refine w_loopK [10] [] (fun k:Nat=>k≤6) (fun k=>6-k) (fun k=>[(11,.int .i64 k),(5,.int .i64 ((R.take k).sum))]) (fun _=>[]) 0 (Nat.zero_le _) ⟨rfl,rfl,trivial⟩ trivial ?_
 rintro k hk e σ
 try dsimp only at hk ⊢
 have hb:=sum_bd (M:=1000000) (l:=R.take k) fun x hx=>hRb x (List.mem_of_mem_take hx)
 have hlk:(R.take k).length=k:=by rw[List.length_take];omega
 by_cases hk6:k=6
 · subst hk6
   have e1:R.take 6=R:=List.take_of_length_le (by omega)
   rw[e1,hRs]
   repeat' (first
    | with_reducible refine Rd.p ?_
    | with_reducible (first|refine zL ?_|refine zS ?_|refine zV ?_|refine zC ?_)
    | refine aX ?_|with_reducible intro _
    | refine aP ?_ ?_)
   rfl
 have hts:=take_sum (R:=R) (k:=k) (by omega)
 have hRk:0≤R.getD k 0∧R.getD k 0≤1000000:=by
  rw[List.getD_eq_getElem?_getD,List.getElem?_eq_getElem (by omega)]
  exact hRb _ (List.getElem_mem _)
 rw[hlk] at hb
 repeat' (first
  | with_reducible refine Rd.p ?_
  | (first|refine w_ixEl rfl rfl (by omega) hsub ?_)
  | with_reducible (first|refine zL ?_|refine zS ?_|refine zV ?_|refine zC ?_)
  | refine aX ?_|with_reducible intro _
  | refine aP ?_ ?_)
 exact q_loop (k+1) (by show k+1≤6;omega) (by show 6-(k+1)<6-k;omega) (slots_cons (by show AV.int .i64 _=AV.int .i64 _;refine int_eq ?_;simp) (slots_cons (by show AV.int .i64 _=AV.int .i64 _;rw[hts]) slots_nil)) trivial aK aK
def pourK (B:List Int) (i k w:Nat):List Int:=(List.range 24).map fun y=>if y/6=k∧y%6<w then B.getD y 0+B.getD (i*6+y%6) 0 else B.getD y 0
theorem pourK_len (B:List Int) (i k w:Nat):(pourK B i k w).length=24:=by simp[pourK]
theorem map24_get {f:Nat→Int} {y:Nat} (h:y<24):((List.range 24).map f).getD y 0=f y:=by
 rw[List.getD_eq_getElem?_getD,List.getElem?_map,List.getElem?_range h];rfl
theorem ext24 {A B:List Int} (hA:A.length=24) (hB:B.length=24) (h:∀y,y<24→A.getD y 0=B.getD y 0):A=B:=by
 apply List.ext_getElem (by omega)
 intro y h1 h2
 have:=h y (by omega)
 rwa [List.getD_eq_getElem?_getD,List.getD_eq_getElem?_getD,List.getElem?_eq_getElem h1,List.getElem?_eq_getElem h2] at this
theorem pourK_zero {B:List Int} (h:B.length=24) (i k:Nat):pourK B i k 0=B:=ext24 (pourK_len ..) h fun y hy=>by
 unfold pourK
 rw[map24_get hy,if_neg (by omega)]
theorem set_getD {l:List Int} {p y:Nat} {v:Int} (hp:p<l.length):(l.set p v).getD y 0=if y=p then v else l.getD y 0:=by
 rw[List.getD_eq_getElem?_getD,List.getElem?_set,List.getD_eq_getElem?_getD]
 by_cases e:p=y
 · subst e;rw[if_pos rfl,if_pos hp,if_pos rfl];rfl
 · rw[if_neg e,if_neg (fun h=>e h.symm)]
theorem pourK_succ {B:List Int} {i k w:Nat} (hk:k<4) (hw:w<6):(pourK B i k w).set (k*6+w) ((pourK B i k w).getD (k*6+w) 0+B.getD (i*6+w) 0)=pourK B i k (w+1):=ext24 (by rw[List.length_set,pourK_len]) (pourK_len ..) fun y hy=>by
 rw[set_getD (by rw[pourK_len];omega)]
 unfold pourK
 rw[map24_get hy,map24_get hy,map24_get (show k*6+w<24 by omega)]
 by_cases e:y=k*6+w
 · subst e
   have h1:(k*6+w)/6=k:=by omega
   have h2:(k*6+w)%6=w:=by omega
   rw[if_pos rfl,h1,h2,if_neg (by omega),if_pos ⟨rfl,by omega⟩]
 · rw[if_neg e]
   by_cases h:y/6=k∧y%6<w
   · rw[if_pos h,if_pos ⟨h.1,by omega⟩]
   · rw[if_neg h,if_neg (by omega)]
theorem setL_getD {B Z:List Int} {off y:Nat} (h:off+Z.length≤B.length):(setL B off Z).getD y 0=if off≤y∧y<off+Z.length then Z.getD (y-off) 0 else B.getD y 0:=by
 rw[List.getD_eq_getElem?_getD,setL_get _ _ _ _ h]
 split<;>rw[List.getD_eq_getElem?_getD]
theorem setL_len (B Z:List Int) (off:Nat):(setL B off Z).length=B.length:=length_setL _ _ _
theorem setL_nI (B Z:List Int) (off:Nat) (h:off+Z.length≤B.length):setL (nI B) off (nI Z)=nI (setL B off Z):=by
 apply List.ext_getElem?
 intro j
 have e1:(nI (setL B off Z))[j]?=((setL B off Z)[j]?).map (AV.int .i64):=List.getElem?_map
 rw[setL_get _ _ _ _ (by simpa using h),e1,setL_get _ _ _ _ h,List.length_map]
 split<;>rw[List.getElem?_map]
theorem w_stSub {P:Program} {K:(Nat→AV)→Sig→Prop} {e:Nat→AV} {σ:Sig} {x v:IOpd} {r:List IStep} {i g off n:Nat} {B:List Int} (Z:List Int) (hx:x.ev e= .ref i g off) (hσ:σ i=(g,.row (nI B))) (hv:v.ev e= .agg (nI Z)) (hn:Z.length=n) (ho:off+n≤B.length) (hk:stepsW P r K e (upd σ i (g,.row (nI (setL B off Z))))):stepsW P (⟨none,none,.st n x v⟩::r) K e σ:=by
 refine w_det0 (p:=g=g∧((nI Z).length=n∧(nI Z).all AV.scal=true)∧off+n≤(nI B).length) (v:= .junk) (σ':=upd σ i (g,.row (setL (nI B) off (nI Z)))) (fun _=>?_) ⟨rfl,⟨by rw[List.length_map,hn],nI_scal Z⟩,by rw[List.length_map];omega⟩ ?_
 · show stO n σ (v.ev e) (x.ev e)=_
   rw[hx,hv]
   simp only[stO,cellsO,hσ]
 · rw[setL_nI _ _ _ (by omega)];exact hk
theorem pour_end {B:List Int} {i k:Int} (hi:0≤i∧i≤3) (hk:0≤k∧k≤3) (hne:i≠k):setL (pourK B i.toNat k.toNat 6) (0+i.toNat*6) [0,0,0,0,0,0]=bgPour B i k:=ext24 (by rw[setL_len,pourK_len]) (by simp[bgPour]) fun y hy=>by
 rw[setL_getD (by rw[pourK_len];show 0+i.toNat*6+6≤24;omega)]
 unfold pourK bgPour
 rw[map24_get hy,map24_get hy]
 show (if 0+i.toNat*6≤y∧y<0+i.toNat*6+6 then _ else _)=_
 by_cases e:y/6=i.toNat
 · rw[if_pos (by omega),if_neg (by omega),if_pos e]
   obtain⟨j,hj⟩:∃j,y-(0+i.toNat*6)=j:=⟨_,rfl⟩
   rw[hj]
   have:j=0∨j=1∨j=2∨j=3∨j=4∨j=5:=by omega
   rcases this with rfl|rfl|rfl|rfl|rfl|rfl<;>rfl
 · rw[if_neg (by omega)]
   by_cases h:y/6=k.toNat
   · rw[if_pos ⟨h,by omega⟩,if_pos h]
   · rw[if_neg (by omega),if_neg h,if_neg e]
theorem untagL_nI:∀l:List Int,untagL (nI l)=nI l
 | []=>rfl
 | a::l=>by
   show untag (AV.int .i64 a)::untagL (nI l)=_
   rw[untagL_nI l];rfl
theorem end_bg {X:List Int} {n:Nat} (h:X.length=n):untag (tupV [.agg (List.take n (List.drop 0 (nI X)))])=bgV X:=by
 rw[List.drop_zero,List.take_of_length_le (by rw[List.length_map];omega)]
 show AV.agg (untagL (nI X))=_
 rw[untagL_nI]
theorem mixed_c (d:Dl) (B:List Int) (h:bgIn B) (h2:d.kind=2→(0≤d.bag∧d.bag≤3)∧(0≤d.wood∧d.wood≤5)∧0≤d.count∧d.count≤1000000) (h3:d.kind=3→(0≤d.bag∧d.bag≤3)∧(0≤d.other∧d.other≤3)∧d.bag≠d.other):
  Fn0 Tryz.prog 53 [bgV B,dlA d] (fun v=>v=bgV (mixedB d B)):=by
 have hl:=h.l
 unfold mixedB
 by_cases e2:d.kind=2
 · obtain⟨b1,b2,b3⟩:=h2 e2
   rw[if_pos e2]
   have hp:=h.at (d.bag.toNat*6+d.wood.toNat)
   have ho:0+d.bag.toNat*6+d.wood.toNat*1=d.bag.toNat*6+d.wood.toNat:=by omega
   refine RawC.walk (H:=hint53 Tryz.prog) ir53 Tryz.func53 rfl rfl rfl ?_
   unfold ir53
   repeat' (first
    | with_reducible refine Rd.p ?_
    | (first|(refine w_boxN rfl hl ?_;intro g2)|refine w_ldEl rfl ho rfl (by omega) ?_|refine w_stEl rfl ho rfl (by omega) rfl ?_|refine w_ldN rfl rfl (by rw[List.length_set];exact hl) ?_|refine w_stN rfl rfl rfl rfl (by rw[List.length_set];exact hl) ?_)
    | with_reducible (first|refine zI fun y hy=>?_|refine zL ?_|refine zS ?_|refine zV ?_|refine zC ?_)
    | refine aX ?_|with_reducible intro _
    | with_reducible refine zJ ?_ fun y hy=>?_|refine aP ?_ ?_)
   all_goals first
    | (exfalso;omega)
    | skip
   exact end_bg (by rw[List.length_set];exact hl)
 rw[if_neg e2]
 by_cases e3:d.kind=3
 case neg=>
  rw[if_neg e3]
  refine RawC.walk (H:=hint53 Tryz.prog) ir53 Tryz.func53 rfl rfl rfl ?_
  unfold ir53
  repeat' (first
   | with_reducible refine Rd.p ?_
   | (first|(refine w_boxN rfl hl ?_;intro g2)|refine w_ldN rfl rfl hl ?_|refine w_stN rfl rfl rfl rfl hl ?_)
   | with_reducible (first|refine zI fun y hy=>?_|refine zL ?_|refine zS ?_|refine zV ?_|refine zC ?_)
   | refine aX ?_|with_reducible intro _
   | with_reducible refine zJ ?_ fun y hy=>?_|refine aP ?_ ?_)
  all_goals first
   | (exfalso;omega)
   | exact end_bg hl
 obtain⟨b1,b2,b3⟩:=h3 e3
 rw[if_pos e3]
 have hsub:((B.drop (0+d.bag.toNat*6)).take 6).length=6:=by rw[List.length_take,List.length_drop];omega
 have hRg:∀w,w<6→((B.drop (0+d.bag.toNat*6)).take 6).getD w 0=B.getD (d.bag.toNat*6+w) 0:=fun w hw=>by
  rw[List.getD_eq_getElem?_getD,List.getElem?_take_of_lt hw,List.getElem?_drop,List.getD_eq_getElem?_getD,Nat.zero_add]
 refine RawC.walk (H:=hint53 Tryz.prog) ir53 Tryz.func53 rfl rfl rfl ?_
 unfold ir53
 repeat' (first
  | with_reducible refine Rd.p ?_
  | (first|(refine w_boxN rfl hl ?_;intro g2)|refine w_ldSub rfl rfl (by omega) ?_)
  | with_reducible (first|refine zI fun y hy=>?_|refine zL ?_|refine zS ?_|refine zV ?_|refine zC ?_)
  | refine aX ?_|with_reducible intro _
  | with_reducible refine zJ ?_ fun y hy=>?_|refine aP ?_ ?_)
 all_goals try (exfalso;omega)
 rename_i g3 g4
 generalize (B.drop (0+d.bag.toNat*6)).take 6=R at*
 refine w_loopK [2,3,4,28] [3,4] (fun w:Nat=>w≤6) (fun w=>6-w) (fun w=>[(29,.int .i64 w)]) (fun w=>[(2,(g2,.row (nI (pourK B d.bag.toNat d.other.toNat w))))]) 0 (Nat.zero_le _) ⟨rfl,trivial⟩ ⟨by rw[pourK_zero hl];rfl,trivial⟩ ?_
 rintro w hw e σ
 try dsimp only at hw ⊢
 have hpl:=pourK_len B d.bag.toNat d.other.toNat w
 by_cases hw6:w=6
 · subst hw6
   repeat' (first
    | with_reducible refine Rd.p ?_
    | (first|refine w_stSub [0,0,0,0,0,0] rfl rfl rfl rfl (by omega) ?_|refine w_ldN rfl rfl (by rw[setL_len];exact hpl) ?_|refine w_stN rfl rfl rfl rfl (by rw[setL_len];exact hpl) ?_)
    | with_reducible (first|refine zI fun y hy=>?_|refine zL ?_|refine zS ?_|refine zV ?_|refine zC ?_)
    | refine aX ?_|with_reducible intro _
    | with_reducible refine zJ ?_ fun y hy=>?_|refine aP ?_ ?_)
   all_goals first
    | (exfalso;omega)
    | exact⟨⟨rfl,by rw[List.length_map,setL_len];omega⟩,trivial⟩
    | (rw[←pour_end b1 b2 b3];exact end_bg (by rw[setL_len];exact hpl))
 have ho:0+d.other.toNat*6+w*1=d.other.toNat*6+w:=by omega
 have hRw:=hRg w (by omega)
 have hbw:=h.at (d.bag.toNat*6+w)
 have hpw:0≤(pourK B d.bag.toNat d.other.toNat w).getD (d.other.toNat*6+w) 0∧(pourK B d.bag.toNat d.other.toNat w).getD (d.other.toNat*6+w) 0≤2000000:=by
  unfold pourK
  rw[map24_get (by omega)]
  have q1:=h.at (d.other.toNat*6+w)
  have q2:=h.at (d.bag.toNat*6+(d.other.toNat*6+w)%6)
  split<;>omega
 have hps:=pourK_succ (B:=B) (i:=d.bag.toNat) (k:=d.other.toNat) (w:=w) (by omega) (by omega)
 generalize pourK B d.bag.toNat d.other.toNat w=PK at*
 rw[←hRw] at hps hbw
 repeat' (first
  | with_reducible refine Rd.p ?_
  | (first|refine w_ixEl rfl rfl (by omega) hsub ?_|refine w_ldEl rfl ho rfl (by omega) ?_|refine w_stEl rfl ho rfl (by omega) rfl ?_)
  | with_reducible (first|refine zI fun y hy=>?_|refine zL ?_|refine zS ?_|refine zV ?_|refine zC ?_)
  | refine aX ?_|with_reducible intro _
  | with_reducible refine zJ ?_ fun y hy=>?_|refine aP ?_ ?_)
 exact q_loop (w+1) (by show w+1≤6;omega) (by show 6-(w+1)<6-w;omega) (slots_cons (by show AV.int .i64 _=AV.int .i64 _;refine int_eq ?_;simp) slots_nil) ⟨by rw[←hps];rfl,trivial⟩ aK aK
end Go.Abs
namespace Go.Abs
variable {P:Program}
theorem findI (a:Int):∀(l:List Int) (n:Nat),findA .i (.int .i64 a) (l.map (AV.int .i64)) n=some (if a∈l then some (n+l.idxOf a) else none)
 | [],n=>rfl
 | x::l,n=>by
   have hk:keyEq .i (.int .i64 a) (.int .i64 x)=some (decide (a=x)):=rfl
   rw[List.map_cons,findA,hk]
   by_cases h:a=x
   · subst h;simp
   · rw[decide_eq_false h]
     simp only
     rw[findI a l (n+1)]
     have hx:¬x=a:=fun e=>h e.symm
     by_cases hm:a∈l
     · rw[if_pos hm,if_pos (by simp[hm]),List.idxOf_cons,show (x == a)=false by simp[hx]]
       simp only[cond_false];congr 2;omega
     · rw[if_neg hm,if_neg (by simp[h,hm])]
theorem w_nxtE {K:(Nat→AV)→Sig→Prop} {e:Nat→AV} {σ:Sig} {x:IOpd} {d:Nat} {r:List IStep} {i h:Nat} {cur vs:List AV} (hx:x.ev e= .itr i h) (hσ:σ i=(h,.row [.itv cur [] vs])) (hk:stepsW P r K (upd e d (.tup [.bool false])) σ):stepsW P (⟨some d,none,.nxt x⟩::r) K e σ:=by
 refine w_det (p:=h=h) (v:=fun _=> .tup [.bool false]) (σ':=fun _=>σ) (fun g=>?_) rfl fun _=>hk
 show nxtO σ g (x.ev e)=_
 rw[hx];simp only[nxtO,hσ]
theorem w_nxtC {K:(Nat→AV)→Sig→Prop} {e:Nat→AV} {σ:Sig} {x:IOpd} {d:Nat} {r:List IStep} {α:Type} (f v:α→AV) {l:List α} {i h:Nat} {cur:List AV} (hx:x.ev e= .itr i h) (hσ:σ i=(h,.row [.itv cur (l.map f) (l.map v)])) (hl:l≠[])
  (hk:∀j a,l[j]?=some a→stepsW P r K (upd e d (.tup [.bool true,f a,v a])) (upd σ i (h,.row [.itv [f a,v a] ((l.eraseIdx j).map f) ((l.eraseIdx j).map v)]))):stepsW P (⟨some d,none,.nxt x⟩::r) K e σ:=by
 have hpos:0<l.length:=by cases l<;>simp at hl ⊢
 have hj:∀g,g%l.length<l.length:=fun g=>Nat.mod_lt _ hpos
 refine w_det (p:=h=h) (v:=fun g=> .tup [.bool true,f (l[g%l.length]'(hj g)),v (l[g%l.length]'(hj g))]) (σ':=fun g=>upd σ i (h,.row [.itv [f (l[g%l.length]'(hj g)),v (l[g%l.length]'(hj g))] ((l.eraseIdx (g%l.length)).map f) ((l.eraseIdx (g%l.length)).map v)])) (fun g=>?_) rfl fun g=>hk _ _ (List.getElem?_eq_getElem (hj g))
 show nxtO σ g (x.ev e)=_
 rw[hx]
 have hg:∀u:α→AV,(l.map u).getD (g%l.length) .junk=u (l[g%l.length]'(hj g)):=fun u=>by simp[List.getD_eq_getElem?_getD,hj g]
 cases hl':l.map f with
 | nil=>cases l<;>simp at hl hl'
 | cons a0 ar=>
   simp only[nxtO,hσ,hl']
   rw[←hl',List.length_map,hg,hg,eraseIdx_map,eraseIdx_map]
end Go.Abs
namespace Go.Abs
open Go.Proofs
abbrev wK (W:Wt):List AV:=W.map fun x=>bgV x.1
abbrev wV (W:Wt):List AV:=W.map fun x=>AV.int .i64 x.2
def wget:Wt→List Int→Int
 | [],_=>0
 | (C,m)::r,B=>if B=C then m else wget r B
def whas:Wt→List Int→Bool
 | [],_=>false
 | (C,_)::r,B=>if B=C then true else whas r B
def widx:Wt→List Int→Nat
 | [],_=>0
 | (C,_)::r,B=>if B=C then 0 else widx r B+1
def wins:Wt→List Int→Wt
 | [],B=>[(B,0)]
 | (C,m)::r,B=>if B=C then (C,m)::r else (C,m)::wins r B
theorem find_w (B:List Int) (hB:B.length=24):∀(W:Wt) (n:Nat),(∀x∈W,x.1.length=24)→findA bgK (bgV B) (wK W) n=some (if whas W B=true then some (n+widx W B) else none)
 | [],n,_=>by
   have h:keyEq bgK (bgV B) (bgV B)=some (decide (B=B)):=by
    show eqAg (List.replicate 24 .i) _ _=_
    rw[←hB];exact eqAg_ints B B rfl
   show (match keyEq bgK (bgV B) (bgV B) with
    | some _=>some none
    | none=>none)=_
   rw[h];rfl
 | (C,m)::W,n,hl=>by
   have h:keyEq bgK (bgV B) (bgV C)=some (decide (B=C)):=by
    show eqAg (List.replicate 24 .i) _ _=_
    rw[←hB];exact eqAg_ints B C (by rw[hB,hl (C,m) (by simp)])
   show findA bgK (bgV B) (bgV C::wK W) n=_
   rw[findA,h]
   by_cases e:B=C
   · simp[e,whas,widx]
   · rw[decide_eq_false e]
     simp only
     rw[find_w B hB W (n+1) fun y hy=>hl y (by simp[hy]),whas,widx,if_neg e,if_neg e]
     cases whas W B with
     | true=>simp only[if_true];congr 2;omega
     | false=>rfl
theorem wget_idx (B:List Int):∀W:Wt,whas W B=true→(wV W).getD (widx W B) .junk= .int .i64 (wget W B)
 | [],h=>by cases h
 | (C,m)::r,h=>by
   rw[widx,wget]
   by_cases e:B=C
   · rw[if_pos e,if_pos e];rfl
   · rw[whas,if_neg e] at h
     rw[if_neg e,if_neg e]
     exact wget_idx B r h
theorem wget_not (B:List Int):∀W:Wt,whas W B=false→wget W B=0∧widx W B=W.length∧wins W B=W++[(B,0)]
 | [],_=>⟨rfl,rfl,rfl⟩
 | (C,m)::r,h=>by
   by_cases e:B=C
   · rw[whas,if_pos e] at h;cases h
   · rw[whas,if_neg e] at h
     obtain⟨h1,h2,h3⟩:=wget_not B r h
     rw[wget,widx,wins,if_neg e,if_neg e,if_neg e,h1,h2,h3]
     exact⟨rfl,rfl,rfl⟩
theorem wins_has (B:List Int):∀W:Wt,whas W B=true→wins W B=W
 | [],h=>by cases h
 | (C,m)::r,h=>by
   rw[wins]
   by_cases e:B=C
   · rw[if_pos e]
   · rw[whas,if_neg e] at h
     rw[if_neg e,wins_has B r h]
theorem wget_wins (B:List Int):∀W:Wt,wget (wins W B) B=wget W B
 | []=>by simp[wins,wget]
 | (C,m)::r=>by
   rw[wins]
   by_cases e:B=C
   · rw[if_pos e]
   · rw[if_neg e,wget,if_neg e,wget_wins B r,wget,if_neg e]
theorem wins_len {B:List Int} (hB:B.length=24):∀{W:Wt},(∀x∈W,x.1.length=24)→ ∀x∈wins W B,x.1.length=24
 | [],_,x,hx=>by obtain rfl:x=(B,0):=by simpa[wins] using hx
                 exact hB
 | (C,m)::r,h,x,hx=>by
   rw[wins] at hx
   split at hx
   · exact h x hx
   · rcases List.mem_cons.1 hx with rfl | hx
     · exact h _ (by simp)
     · exact wins_len hB (fun y hy=>h y (by simp[hy])) x hx
theorem wput_add (B:List Int) (n:Int):∀W:Wt,widx W B<(wins W B).length∧(wK (wins W B))=wK (addW W B n)∧(wV (wins W B)).set (widx W B) (.int .i64 (wget W B+n))=wV (addW W B n)
 | []=>by simp[wins,widx,addW,wget]
 | (C,m)::r=>by
   by_cases e:B=C
   · rw[wins,widx,addW,wget,if_pos e,if_pos e,if_pos e,if_pos e]
     exact⟨by simp,rfl,rfl⟩
   · obtain⟨h1,h2,h3⟩:=wput_add B n r
     rw[wins,widx,addW,wget,if_neg e,if_neg e,if_neg e,if_neg e]
     refine⟨by simp;exact h1,?_,?_⟩
     · show bgV C::wK (wins r B)=bgV C::wK (addW r B n)
       rw[h2]
     · show AV.int .i64 m::(wV (wins r B)).set (widx r B) _=AV.int .i64 m::wV (addW r B n)
       rw[h3]
section
variable {P:Program} {K:(Nat→AV)→Sig→Prop} {e:Nat→AV} {σ:Sig} {m k:IOpd} {d:Nat} {r:List IStep} {i h:Nat} {W:Wt} {B:List Int}
theorem w_mlkW (hm:m.ev e= .map i h) (hσ:σ i=(h,.row [.mpv (wK W) (wV W)])) (hk:k.ev e=bgV B) (hB:B.length=24) (hW:∀x∈W,x.1.length=24)
  (hK:stepsW P r K (upd e d (.int .i64 (wget W B))) σ):stepsW P (⟨some d,none,.mlk (.flat [.i,.i,.i,.i,.i,.i,.i,.i,.i,.i,.i,.i,.i,.i,.i,.i,.i,.i,.i,.i,.i,.i,.i,.i]) (.int .i64 0) false m k⟩::r) K e σ:=by
 refine w_det (p:=h=h) (v:=fun _=> .int .i64 (wget W B)) (σ':=fun _=>σ) (fun _=>?_) rfl fun _=>hK
 show mlkO bgK (.int .i64 0) false σ (k.ev e) (m.ev e)=_
 rw[hm,hk]
 simp only[mlkO,mapR,hσ]
 rw[find_w B hB W 0 hW]
 simp only
 cases hh:whas W B with
 | true=>simp only[if_true,Nat.zero_add,lkV];rw[wget_idx _ _ hh]
 | false=>simp only[Bool.false_eq_true,if_false,lkV];rw[(wget_not _ _ hh).1]
theorem w_menW (hm:m.ev e= .map i h) (hσ:σ i=(h,.row [.mpv (wK W) (wV W)])) (hk:k.ev e=bgV B) (hB:B.length=24) (hW:∀x∈W,x.1.length=24)
  (hK:stepsW P r K (upd e d (.tup [.int .i64 (wget W B),.int .i64 (widx W B)])) (upd σ i (h,.row [.mpv (wK (wins W B)) (wV (wins W B))]))):stepsW P (⟨some d,none,.men (.flat [.i,.i,.i,.i,.i,.i,.i,.i,.i,.i,.i,.i,.i,.i,.i,.i,.i,.i,.i,.i,.i,.i,.i,.i]) (.int .i64 0) m k⟩::r) K e σ:=by
 refine w_det (p:=h=h) (v:=fun _=> .tup [.int .i64 (wget W B),.int .i64 (widx W B)]) (σ':=fun _=>upd σ i (h,.row [.mpv (wK (wins W B)) (wV (wins W B))])) (fun _=>?_) rfl fun _=>hK
 show menO bgK (.int .i64 0) σ (k.ev e) (m.ev e)=_
 rw[hm,hk]
 simp only[menO,mapW,hσ]
 rw[find_w B hB W 0 hW]
 cases hh:whas W B with
 | true=>
   simp only[if_true,Nat.zero_add]
   rw[wget_idx _ _ hh,wins_has _ _ hh]
   have:upd σ i (h,.row [.mpv (wK W) (wV W)])=σ:=by
    funext j;rw[upd_eq];split
    · rename_i hj;subst hj;rw[hσ]
    · rfl
   rw[this]
 | false=>
   obtain⟨h1,h2,h3⟩:=wget_not _ _ hh
   simp only[Bool.false_eq_true,if_false]
   rw[h1,h2,h3]
   have hst:stripL (nI B)=nI B:=by
    have:∀l:List Int,stripL (nI l)=nI l:=by
     intro l
     induction l with
     | nil=>rfl
     | cons a r ih=>show AV.int .i64 a::stripL (nI r)=_;rw[ih];rfl
    exact this B
   simp[AV.norm,AV.strip,hst]
theorem w_mstW {s v:IOpd} {n:Int} (hm:m.ev e= .map i h) (hσ:σ i=(h,.row [.mpv (wK (wins W B)) (wV (wins W B))])) (hs:s.ev e= .int .i64 (widx W B)) (hv:v.ev e= .int .i64 (wget W B+n))
  (hK:stepsW P r K e (upd σ i (h,.row [.mpv (wK (addW W B n)) (wV (addW W B n))]))):stepsW P (⟨none,none,.mst m s v⟩::r) K e σ:=by
 obtain⟨h1,h2,h3⟩:=wput_add B n W
 refine w_det0 (p:=h=h∧0≤(widx W B:Int)∧(widx W B:Int)<(wK (wins W B)).length) (v:= .junk) (σ':=upd σ i (h,.row [.mpv (wK (wins W B)) ((wV (wins W B)).set (widx W B:Int).toNat (AV.int .i64 (wget W B+n)))])) (fun _=>?_) ⟨rfl,by omega,by simp;omega⟩ ?_
 · show mstO σ (s.ev e) (v.ev e) (m.ev e)=_
   rw[hm,hs,hv]
   simp only[mstO,mapW,hσ,forceA];rfl
 · rw[Int.toNat_natCast,h2,h3];exact hK
end
def ir95:IFn:=
 ⟨26,[(4,none)],(.seq (.ops [oo 3 (.box 5 1),oo 4 (.mov (.k .nmp))])
 (.seq (.ops [⟨(some 8),none,.mkm⟩,oo 5 (.mov 8)])
 (.seq (.seq (.ops [oo 9 (.mov 0),oo 10 (.rng 9)])
 (.blk 0 (.loop (.seq (.ops [oo 11 (.nxt 10),oo 12 (.ext 0 11)])
 (.seq (.cnd 12
 .skip
 (.exit 0))
 (.blk 1 (.seq (.ops [oo 13 (.ent 10),oo 14 (.ext 0 13),oo 15 (.ext 1 13),oo 6 (.new [z0,z0,z0,z0,z0,z0,z0,z0,z0,z0,z0,z0,z0,z0,z0,z0,z0,z0,z0,z0,z0,z0,z0,z0]),
 ⟨none,none,(.st 24 6 14)⟩,oo 7 (.mov 15)])
 (.seq (.ops [])
 (.seq (.ops [oo 16 (.mov 5),oo 17 (.ld 24 true 6),oo 18 (.ld 5 true 3),oo 21 (.mov 7),oo 19 (.callF 53 [17,18])])
 (.alt (.ops [oo 20 (.mlk (.flat [.i,.i,.i,.i,.i,.i,.i,.i,.i,.i,.i,.i,.i,.i,.i,.i,.i,.i,.i,.i,.i,.i,.i,.i]) (.int .i64 0) false 16 19),oo 22 (.bin .add 20 21),oo 23 (.men (.flat [.i,.i,.i,.i,.i,.i,.i,.i,.i,.i,.i,.i,.i,.i,.i,.i,.i,.i,.i,.i,.i,.i,.i,.i]) (.int .i64 0) 16 19),oo 24 (.ext 1 23),
 ⟨none,none,(.mst 16 24 22)⟩])
 (.ops [oo 23 (.men (.flat [.i,.i,.i,.i,.i,.i,.i,.i,.i,.i,.i,.i,.i,.i,.i,.i,.i,.i,.i,.i,.i,.i,.i,.i]) (.int .i64 0) 16 19),oo 24 (.ext 1 23),oo 20 (.mlk (.flat [.i,.i,.i,.i,.i,.i,.i,.i,.i,.i,.i,.i,.i,.i,.i,.i,.i,.i,.i,.i,.i,.i,.i,.i]) (.int .i64 0) false 16 19),oo 22 (.bin .add 20 21),
 ⟨none,none,(.mst 16 24 22)⟩])))))))))))
 (.seq (.seq (.frz 5)
 (.ops [oo 25 (.mov 5),oo 4 (.mov 25)]))
 .ret))))⟩
def hint95 (P:Program):Hint:={site:=[],nils:=[],frz:=[(25,5)],mve:=[],wr:=[] }
def ir94:IFn:=
 ⟨44,[(6,none)],(.seq (.ops [oo 6 (.mov (.k .nmp))])
 (.seq (.ops [⟨(some 11),none,.mkm⟩,oo 7 (.mov 11)])
 (.seq (.seq (.ops [oo 12 (.mov 0),oo 13 (.rng 12)])
 (.blk 0 (.loop (.seq (.ops [oo 14 (.nxt 13),oo 15 (.ext 0 14)])
 (.seq (.cnd 15
 .skip
 (.exit 0))
 (.blk 1 (.seq (.ops [oo 16 (.ent 13),oo 17 (.ext 0 16),oo 18 (.ext 1 16),oo 8 (.new [z0,z0,z0,z0,z0,z0,z0,z0,z0,z0,z0,z0,z0,z0,z0,z0,z0,z0,z0,z0,z0,z0,z0,z0]),
 ⟨none,none,(.st 24 8 17)⟩,oo 9 (.mov 18)])
 (.seq (.ops [oo 19 (.mov 1),oo 20 (.mov 2),oo 21 (.ixAr 4 6 8 19),oo 22 (.ixAr 6 1 21 20),oo 23 (.ld 1 false 22),oo 10 (.mov 23)])
 (.seq (.ops [oo 24 (.mov 10),oo 25 (.bin .gtr 24 (kI 0))])
 (.cnd 25
 (.seq (.ops [oo 26 (.mov 1),oo 27 (.mov 2),oo 28 (.ixAr 4 6 8 26),oo 29 (.ixAr 6 1 28 27),oo 30 (.ld 1 false 29),oo 31 (.bin .sub 30 (kI 1)),oo 32 (.ixAr 4 6 8 26),oo 33 (.ixAr 6 1 32 27),
 ⟨none,none,(.st 1 33 31)⟩])
 (.seq (.ops [])
 (.seq (.ops [oo 34 (.mov 7),oo 35 (.ld 24 true 8),oo 37 (.mov 9),oo 38 (.mov 10),oo 39 (.bin .mul 37 38)])
 (.alt (.ops [oo 36 (.mlk (.flat [.i,.i,.i,.i,.i,.i,.i,.i,.i,.i,.i,.i,.i,.i,.i,.i,.i,.i,.i,.i,.i,.i,.i,.i]) (.int .i64 0) false 34 35),oo 40 (.bin .add 36 39),oo 41 (.men (.flat [.i,.i,.i,.i,.i,.i,.i,.i,.i,.i,.i,.i,.i,.i,.i,.i,.i,.i,.i,.i,.i,.i,.i,.i]) (.int .i64 0) 34 35),oo 42 (.ext 1 41),
 ⟨none,none,(.mst 34 42 40)⟩])
 (.ops [oo 41 (.men (.flat [.i,.i,.i,.i,.i,.i,.i,.i,.i,.i,.i,.i,.i,.i,.i,.i,.i,.i,.i,.i,.i,.i,.i,.i]) (.int .i64 0) 34 35),oo 42 (.ext 1 41),oo 36 (.mlk (.flat [.i,.i,.i,.i,.i,.i,.i,.i,.i,.i,.i,.i,.i,.i,.i,.i,.i,.i,.i,.i,.i,.i,.i,.i]) (.int .i64 0) false 34 35),oo 40 (.bin .add 36 39),
 ⟨none,none,(.mst 34 42 40)⟩])))))
 .skip))))))))))
 (.seq (.seq (.frz 7)
 (.ops [oo 43 (.mov 7),oo 6 (.mov 43)]))
 .ret))))⟩
def hint94 (P:Program):Hint:={site:=[],nils:=[],frz:=[(43,7)],mve:=[],wr:=[] }
def ir58:IFn:=
 ⟨35,[(6,none)],(.seq (.ops [oo 6 (.mov (.k .nmp))])
 (.seq (.ops [⟨(some 11),none,.mkm⟩,oo 7 (.mov 11)])
 (.seq (.seq (.ops [oo 12 (.mov 2),oo 13 (.mov (kI 0))])
 (.blk 0 (.loop (.seq (.ops [oo 14 (.bin .lss 13 12)])
 (.seq (.cnd 14
 .skip
 (.exit 0))
 (.seq (.blk 1 (.seq (.ops [oo 15 (.mov 13),oo 8 (.mov 15)])
 (.seq (.ops [oo 16 (.mov 0),oo 17 (.mov 1),oo 18 (.mov 8),oo 19 (.callF 94 [16,17,18]),oo 20 (.rng 19)])
 (.blk 2 (.loop (.seq (.ops [oo 21 (.nxt 20),oo 22 (.ext 0 21)])
 (.seq (.cnd 22
 .skip
 (.exit 2))
 (.blk 3 (.seq (.ops [oo 23 (.ent 20),oo 24 (.ext 0 23),oo 25 (.ext 1 23),oo 9 (.new [z0,z0,z0,z0,z0,z0,z0,z0,z0,z0,z0,z0,z0,z0,z0,z0,z0,z0,z0,z0,z0,z0,z0,z0]),
 ⟨none,none,(.st 24 9 24)⟩,oo 10 (.mov 25)])
 (.seq (.ops [])
 (.seq (.ops [oo 26 (.mov 7),oo 27 (.ld 24 true 9),oo 29 (.mov 10)])
 (.alt (.ops [oo 28 (.mlk (.flat [.i,.i,.i,.i,.i,.i,.i,.i,.i,.i,.i,.i,.i,.i,.i,.i,.i,.i,.i,.i,.i,.i,.i,.i]) (.int .i64 0) false 26 27),oo 30 (.bin .add 28 29),oo 31 (.men (.flat [.i,.i,.i,.i,.i,.i,.i,.i,.i,.i,.i,.i,.i,.i,.i,.i,.i,.i,.i,.i,.i,.i,.i,.i]) (.int .i64 0) 26 27),oo 32 (.ext 1 31),
 ⟨none,none,(.mst 26 32 30)⟩])
 (.ops [oo 31 (.men (.flat [.i,.i,.i,.i,.i,.i,.i,.i,.i,.i,.i,.i,.i,.i,.i,.i,.i,.i,.i,.i,.i,.i,.i,.i]) (.int .i64 0) 26 27),oo 32 (.ext 1 31),oo 28 (.mlk (.flat [.i,.i,.i,.i,.i,.i,.i,.i,.i,.i,.i,.i,.i,.i,.i,.i,.i,.i,.i,.i,.i,.i,.i,.i]) (.int .i64 0) false 26 27),oo 30 (.bin .add 28 29),
 ⟨none,none,(.mst 26 32 30)⟩])))))))))))))
 (.ops [oo 33 (.bin .add 13 (kI 1)),oo 13 (.mov 33)])))))))
 (.seq (.seq (.frz 7)
 (.ops [oo 34 (.mov 7),oo 6 (.mov 34)]))
 .ret))))⟩
def hint58 (P:Program):Hint:={site:=[],nils:=[],frz:=[(34,7)],mve:=[],wr:=[] }
end Go.Abs
