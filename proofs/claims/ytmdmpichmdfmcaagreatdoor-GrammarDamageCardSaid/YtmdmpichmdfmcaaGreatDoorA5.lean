/- Part 5 of what the claim stands on: an abstract calculus of the program's steps, what each function computes, and the plain law. -/
import Derived.Test.YtmdmpichmdfmcaaGreatDoorProg
import Derived.KernelRfl
import Derived.Test.YtmdmpichmdfmcaaGreatDoorA4
set_option linter.all false
namespace Go.Abs
open Go.Proofs
noncomputable section
set_option maxRecDepth 100000 in
set_option maxHeartbeats 4000000 in
theorem oK (k:Nat)(a0:List aw)(a1:am)(r:Int)(h:gG k a0 a1=some r):SC P 206 [.d (af 2 ay a0),.clo 152 [] [.ptr 0 0]] [(.var (ah a1))] (di r) [.live (.var (ah a1))]:=by
 unfold gG at h
 refine SC.intro3 (N:=19) Tryz.func206 rfl rfl Tryz.ntmps206 rfl ?_
 refine aa.sr (ab.ev0n [0] [] [] ?_)
 refine aa.seq ?_
 refine aa.sr (ab.ev0n [0,0,0] [(7,di (a0.length:Int)),(8,di 0)] [] ?_)
 refine aa.block ?_
 refine ao h fun o7 ho7 h=>?_
 refine aa.cut (Q':=fun e s'=>match o7 with | .inl r5=>((e = .ret)∧Fin P (Tryz.f206.results) 1 [.live (.var (ah a1))] (di r5) s') | .inr x6=>(e = .exit 0∧s'=⟨[],[.live (.var (ah a1))]⟩)) ?_ ?_
 ·
  have h:=ho7
  refine aa.ghost (GStep.keep [0,1,7,8]) ?_
  refine aa.loopI (F:=fun k v=>co k a0 a1 v) (fun v=>⟨[(0,.d (af 2 ay a0)),(1,.clo 152 [] [.ptr 0 0]),(7,di (a0.length:Int)),(8,di v)],[.live (.var (ah a1))]⟩) (k:=k) (v:=0) h rfl (fun _=>rfl) ?_
  intro k v0_0 ih h
  have h:=(cZ ..).symm.trans h
  refine aa.sr (ab.ev0n [0] [(9,db (decide (v0_0 < (a0.length:Int))))] [] ?_)
  refine aa.seq ?_
  refine aa.condI h rfl (fun hc1 h=>?_) (fun hc1 h=>?_)
  ·
   refine aa.skip ?_
   refine aa.seq ?_
   refine aa.block ?_
   refine aa.sr (ab.ev0n [0,0] [(5,di v0_0)] [] ?_)
   refine aa.seq ?_
   refine aD h fun hb2 h=>?_
   refine ao h fun y3 hy3 h=>?_
   refine aa.region (ab.ev0 [0,0,0,0,0] [(11,.clo 152 [] [.ptr 0 0]),(15,.agg (bW (nth a0 v0_0)))] [⟨_,hb2.1⟩,⟨_,hb2.2⟩] ?_)
   refine ab.step (v:=db y3) (ae.callS [0] (dy (nth a0 v0_0) a1 _ hy3) rfl rfl ⟨⟨rfl,rfl,trivial⟩,rfl,trivial⟩ (by decide) rfl rfl ⟨⟨rfl,rfl⟩,trivial⟩) rfl rfl rfl ?_
   refine ab.nil ?_
   refine aa.condI h rfl (fun hc4 h=>?_) (fun hc4 h=>?_)
   ·
    refine aa.sr (ab.ev0n [0,0] [(4,di v0_0)] [] ?_)
    refine aa.ret ?_
    cases h
    exact ⟨_,(GStep.keep [4]),rfl,Fin.mk2 (aB.one (.tmp rfl)) [0] (by decide) rfl rfl rfl rfl⟩
   refine aa.skip ?_
   refine aa.region (ab.ev0n [0,0] [(8,di (IntKind.wrap .i64 (v0_0+1)))] [] ?_)
   exact aM.ghost (GStep.keep [0,1,7,8]) (ih (IntKind.wrap .i64 (v0_0+1)) h)
  refine aa.exit ?_
  cases h
  exact ⟨_,(GStep.keep []),rfl,rfl⟩
 rcases o7 with r5 | x6
 ·
  rintro e s' hq
  obtain ⟨rfl,hq⟩:=hq
  cases h
  exact ⟨_,GStep.refl _ _,.inr rfl,hq⟩
 rintro e s' hq
 obtain ⟨rfl,rfl⟩:=hq
 refine aa.sr (ab.ev0n [0] [(4,di (-1))] [] ?_)
 refine aa.ret ?_
 cases h
 exact ⟨_,(GStep.keep [4]),.inr rfl,Fin.mk2 (aB.one (.tmp rfl)) [0] (by decide) rfl rfl rfl rfl⟩
noncomputable def hZ (k:Nat)(a0:List aw)(a1:am):Option Bool:=((gG k a0 a1).bind fun y1=>some (decide (y1≥0)))
set_option maxRecDepth 100000 in
set_option maxHeartbeats 4000000 in
theorem rM (k:Nat)(a0:List aw)(a1:am)(r:Bool)(h:hZ k a0 a1=some r):SC P 154 [.d (af 2 ay a0),.clo 152 [] [.ptr 0 0]] [(.var (ah a1))] (db r) [.live (.var (ah a1))]:=by
 unfold hZ at h
 refine SC.intro3 (N:=9) Tryz.func154 rfl rfl Tryz.ntmps154 rfl ?_
 refine aa.sr (ab.ev0n [0] [] [] ?_)
 refine aa.seq ?_
 refine ao h fun y1 hy1 h=>?_
 refine aa.region (ab.ev0 [0,0] [(5,.d (af 2 ay a0)),(6,.clo 152 [] [.ptr 0 0])] [] ?_)
 refine ab.step (v:=di y1) (ae.callS [0] (oK k a0 a1 _ hy1) rfl rfl ⟨rfl,rfl,trivial⟩ (by decide) rfl rfl ⟨⟨rfl,rfl⟩,trivial⟩) rfl rfl rfl ?_
 refine ab.ev0n [0,0] [(4,db (decide (y1≥0)))] [] ?_
 refine aa.ret ?_
 cases h
 exact ⟨_,(GStep.keep [4]),.inr rfl,Fin.mk2 (aB.one (.tmp rfl)) [0] (by decide) rfl rfl rfl rfl⟩
noncomputable def dq (a0:Int)(a1:aj):Option Bool:=(((if (decide (a0≥0))=true then some (decide (a0 < (a1.right.length:Int))) else some false):Option Bool).bind fun x3=>some x3)
set_option maxRecDepth 100000 in
set_option maxHeartbeats 4000000 in
theorem bY (a0:Int)(a1:aj)(r:Bool)(h:dq a0 a1=some r):SC P 207 [di a0,.ptr 0 0] [(.var (az a1))] (db r) [.live (.var (az a1))]:=by
 unfold dq at h
 refine SC.intro3 (N:=13) Tryz.func207 rfl rfl Tryz.ntmps207 rfl ?_
 refine aa.sr (ab.ev0n [0] [] [] ?_)
 refine aa.seq ?_
 refine ao h fun x3 ho2 h=>?_
 refine aa.cut (Q':=fun e s'=>e = .normal∧s'=⟨[(3,db x3)],[.live (.var (az a1))]⟩) ?_ ?_
 ·
  have h:=ho2
  refine au h (fun hc1 h=>?_) (fun hc1 h=>?_)
  ·
   refine aa.region (ab.ev0n [0,0,0,1,0,0,0,0,0,0] [(3,db (decide (a0 < (a1.right.length:Int))))] [⟨_,hc1⟩] ?_)
   cases h
   exact ⟨_,(GStep.keep [3]),rfl,rfl⟩
  refine aa.region (ab.ev0n [0,0,0,2,0,0,0,0,0,0] [(3,db false)] [⟨_,hc1⟩] ?_)
  cases h
  exact ⟨_,(GStep.keep [3]),rfl,rfl⟩
 rintro e s' hq
 obtain ⟨rfl,rfl⟩:=hq
 refine aa.ret ?_
 cases h
 exact ⟨_,(GStep.keep [3]),.inr rfl,Fin.mk2 (aB.one (.tmp rfl)) [0] (by decide) rfl rfl rfl rfl⟩
noncomputable def dr (a0:Int)(a1:Int)(a2:Int)(a3:Int)(a4:aj):Option Bool:=(if (decide (a0=0))=true then some (decide (a1=0)) else (((if (decide (a0 > 0))=true then (if (decide (a0≤(a4.right.length:Int)))=true then (if (0:Int)≤(IntKind.wrap .i64 (a0 - 1))∧(IntKind.wrap .i64 (a0 - 1)) < (a4.right.length:Int) then (if (nth a4.right (IntKind.wrap .i64 (a0 - 1))).token=true then (if (decide (a1≥a2))=true then some (decide (a1≤a3)) else some false) else some false) else none) else some false) else some false):Option Bool).bind fun x8=>some x8))
set_option maxRecDepth 100000 in
set_option maxHeartbeats 4000000 in
theorem fK (a0:Int)(a1:Int)(a2:Int)(a3:Int)(a4:aj)(r:Bool)(h:dr a0 a1 a2 a3 a4=some r):SC P 208 [di a0,di a1,di a2,di a3,.ptr 0 0] [(.var (az a4))] (db r) [.live (.var (az a4))]:=by
 unfold dr at h
 refine SC.intro3 (N:=42) Tryz.func208 rfl rfl Tryz.ntmps208 rfl ?_
 refine aa.sr (ab.ev0n [0] [] [] ?_)
 refine aa.seq ?_
 refine aa.sr (ab.ev0n [0,0] [(11,db (decide (a0=0)))] [] ?_)
 refine aa.condI h rfl (fun hc1 h=>?_) (fun hc1 h=>?_)
 ·
  refine aa.sr (ab.ev0n [0,0,0] [(9,db (decide (a1=0)))] [] ?_)
  refine aa.ret ?_
  cases h
  exact ⟨_,(GStep.keep [9]),.inr rfl,Fin.mk2 (aB.one (.tmp rfl)) [0] (by decide) rfl rfl rfl rfl⟩
 refine aa.skip ?_
 refine aa.seq ?_
 refine ao h fun x8 ho7 h=>?_
 refine aa.cut (Q':=fun e s'=>e = .normal∧s'=⟨[(9,db x8)],[.live (.var (az a4))]⟩) ?_ ?_
 ·
  have h:=ho7
  refine au h (fun hc2 h=>?_) (fun hc2 h=>?_)
  ·
   refine au h (fun hc3 h=>?_) (fun hc3 h=>?_)
   ·
    refine aD h fun hb4 h=>?_
    refine au h (fun hc5 h=>?_) (fun hc5 h=>?_)
    ·
     refine au h (fun hc6 h=>?_) (fun hc6 h=>?_)
     ·
      refine aa.region (ab.ev0n [0,0,0,1,0,0,0,0,0,0,1,0,0,0,0,0,0,0,0,1,0,0,0,0,1,0,0,0,0] [(9,db (decide (a1≤a3)))] [⟨_,hc2⟩,⟨_,hc3⟩,⟨_,hb4.1⟩,⟨_,hb4.2⟩,⟨_,hc5⟩,⟨_,hc6⟩] ?_)
      cases h
      exact ⟨_,(GStep.keep [9]),rfl,rfl⟩
     refine aa.region (ab.ev0n [0,0,0,1,0,0,0,0,0,0,1,0,0,0,0,0,0,0,0,1,0,0,0,0,2,0,0,0,0] [(9,db false)] [⟨_,hc2⟩,⟨_,hc3⟩,⟨_,hb4.1⟩,⟨_,hb4.2⟩,⟨_,hc5⟩,⟨_,hc6⟩] ?_)
     cases h
     exact ⟨_,(GStep.keep [9]),rfl,rfl⟩
    refine aa.region (ab.ev0n [0,0,0,1,0,0,0,0,0,0,1,0,0,0,0,0,0,0,0,2,0,0,0,0,0,0,0,0,0] [(9,db false)] [⟨_,hc2⟩,⟨_,hc3⟩,⟨_,hb4.1⟩,⟨_,hb4.2⟩,⟨_,hc5⟩] ?_)
    cases h
    exact ⟨_,(GStep.keep [9]),rfl,rfl⟩
   refine aa.region (ab.ev0n [0,0,0,1,0,0,0,0,0,0,2,0,0,0,0,0,0,0,0,0,0,0,0,0,0,0,0,0,0] [(9,db false)] [⟨_,hc2⟩,⟨_,hc3⟩] ?_)
   cases h
   exact ⟨_,(GStep.keep [9]),rfl,rfl⟩
  refine aa.region (ab.ev0n [0,0,0,2,0,0,0,0,0,0,0,0,0,0,0,0,0,0,0,0,0,0,0,0,0,0,0,0,0] [(9,db false)] [⟨_,hc2⟩] ?_)
  cases h
  exact ⟨_,(GStep.keep [9]),rfl,rfl⟩
 rintro e s' hq
 obtain ⟨rfl,rfl⟩:=hq
 refine aa.ret ?_
 cases h
 exact ⟨_,(GStep.keep [9]),.inr rfl,Fin.mk2 (aB.one (.tmp rfl)) [0] (by decide) rfl rfl rfl rfl⟩
noncomputable def bp (k:Nat)(a0:aj)(v:Int):Option (Bool⊕Unit):=match k,v with
  | 0,_=>none
  | k+1,v0_0=>(if (decide (v0_0 < (a0.layout.length:Int)))=true then (if (0:Int)≤v0_0∧v0_0 < (a0.layout.length:Int) then (((if (decide ((nth a0.layout v0_0).kind < 1))=true then some true else (if (decide ((nth a0.layout v0_0).kind > 4))=true then some true else ((dq ((nth a0.layout v0_0).a) a0).bind fun y5=>(if (!y5)=true then some true else ((dq ((nth a0.layout v0_0).b) a0).bind fun y7=>(if (!y7)=true then some true else (if (decide ((nth a0.layout v0_0).kind=1))=true then some (!decide ((nth a0.layout v0_0).b=0)) else some false))))))):Option Bool).bind fun x11=>(if x11=true then some (.inl false) else (bp k a0 (IntKind.wrap .i64 (v0_0+1))))) else none) else some (.inr ()))
theorem d7:type_of% (@bp.eq_2):=@bp.eq_2
noncomputable def eT (k:Nat)(a0:aj):Option Bool:=(((bp k a0 0):Option (Bool⊕Unit)).bind fun o38=>match o38 with | .inl r13=>(some r13) | .inr x14=>((((dr a0.scope.declares a0.scope.kind 1 7 a0).bind fun y15=>(if (!y15)=true then some true else ((dr a0.scope.uses a0.scope.allowed 0 255 a0).bind fun y17=>some (!y17)))):Option Bool).bind fun x19=>(if x19=true then some false else (if (!a0.bracket)=true then some true else (((if (!decide ((a0.right.length:Int)=3))=true then some true else (if (!decide (a0.rank=0))=true then some true else (if (decide ((a0.layout.length:Int) > 0))=true then some true else some (!((a0.scope.opens == false)&&((decide (a0.scope.declares=0))&&((decide (a0.scope.kind=0))&&((decide (a0.scope.uses=0))&&(decide (a0.scope.allowed=0)))))))))):Option Bool).bind fun x26=>(if x26=true then some false else (((if (0:Int)≤0∧0 < (a0.right.length:Int) then (if (nth a0.right 0).token=true then (if (0:Int)≤1∧1 < (a0.right.length:Int) then (if (((nth a0.right 1).token == false)&&(decide ((nth a0.right 1).index=a0.left)))=true then (if (0:Int)≤2∧2 < (a0.right.length:Int) then some ((nth a0.right 2).token) else none) else some false) else none) else some false) else none):Option Bool).bind fun x37=>some x37)))))))
set_option maxRecDepth 100000 in
set_option maxHeartbeats 4000000 in
theorem mW (k:Nat)(a0:aj)(r:Bool)(h:eT k a0=some r):SC P 155 [.agg (az a0)] [] (db r) []:=by
 unfold eT at h
 refine SC.intro3 (N:=113) Tryz.func155 rfl rfl Tryz.ntmps155 rfl ?_
 refine aa.sr (ab.evn (h':=[.live (.var (az a0))]) [0,0] [(1,.ptr 0 0)] [] ?_)
 refine aa.seq ?_
 refine aa.sr (ab.ev0n [0,0,0,0] [(9,.d (af 3 bi a0.layout)),(10,di (a0.layout.length:Int)),(11,di 0)] [] ?_)
 refine aa.block ?_
 refine ao h fun o38 ho38 h=>?_
 refine aa.cut (Q':=fun e s'=>match o38 with | .inl r13=>((e = .ret)∧Fin P (Tryz.f155.results) 0 [] (db r13) s') | .inr x14=>(e = .exit 0∧s'=⟨[(1,.ptr 0 0)],[.live (.var (az a0))]⟩)) ?_ ?_
 ·
  have h:=ho38
  refine aa.ghost (GStep.keep [1,9,10,11]) ?_
  refine aa.loopI (F:=fun k v=>bp k a0 v) (fun v=>⟨[(1,.ptr 0 0),(9,.d (af 3 bi a0.layout)),(10,di (a0.layout.length:Int)),(11,di v)],[.live (.var (az a0))]⟩) (k:=k) (v:=0) h rfl (fun _=>rfl) ?_
  intro k v0_0 ih h
  have h:=(d7 ..).symm.trans h
  refine aa.sr (ab.ev0n [0] [(12,db (decide (v0_0 < (a0.layout.length:Int))))] [] ?_)
  refine aa.seq ?_
  refine aa.condI h rfl (fun hc1 h=>?_) (fun hc1 h=>?_)
  ·
   refine aa.skip ?_
   refine aa.seq ?_
   refine aa.block ?_
   refine aa.seq ?_
   refine aD h fun hb2 h=>?_
   refine aa.region (ab.evn (h':=[.live (.var (az a0)),.live (.var (oy (nth a0.layout v0_0)))]) [0,0,0,0] [(4,.ptr 1 0)] [⟨_,hb2.1⟩,⟨_,hb2.2⟩] ?_)
   refine aa.sr (ab.ev0n [0,0] [(5,.clo 207 [] [.ptr 0 0])] [] ?_)
   refine aa.seq ?_
   refine ao h fun x11 ho10 h=>?_
   refine aa.cut (Q':=fun e s'=>e = .normal∧s'=⟨[(1,.ptr 0 0),(9,.d (af 3 bi a0.layout)),(10,di (a0.layout.length:Int)),(11,di v0_0),(47,db x11)],[.live (.var (az a0))]⟩) ?_ ?_
   ·
    have h:=ho10
    refine au h (fun hc3 h=>?_) (fun hc3 h=>?_)
    ·
     refine aa.region (ab.ev0n [0,0,0,0,2,0,0,0,0,0,0,0,0,0,0,0,0,0,0,0,0,0,0,0,0,0,0,0,0,0,0,0] [(47,db true)] [⟨_,hc3⟩] ?_)
     cases h
     exact ⟨_,(GStep.trans (GStep.keep [1,9,10,11,47]) (GStep.ren [0] (by decide) rfl rfl)),rfl,rfl⟩
    refine au h (fun hc4 h=>?_) (fun hc4 h=>?_)
    ·
     refine aa.region (ab.ev0n [0,0,0,0,1,0,0,0,0,2,0,0,0,0,0,0,0,0,0,0,0,0,0,0,0,0,0,0,0,0,0,0] [(47,db true)] [⟨_,hc3⟩,⟨_,hc4⟩] ?_)
     cases h
     exact ⟨_,(GStep.trans (GStep.keep [1,9,10,11,47]) (GStep.ren [0] (by decide) rfl rfl)),rfl,rfl⟩
    refine ao h fun y5 hy5 h=>?_
    refine au h (fun hc6 h=>?_) (fun hc6 h=>?_)
    ·
     refine aa.region (ab.ev0 [0,0,0,0,1,0,0,0,0,3,3,3] [(24,db (decide ((nth a0.layout v0_0).kind > 4))),(25,.clo 207 [] [.ptr 0 0]),(27,di ((nth a0.layout v0_0).a))] [⟨_,hc3⟩,⟨_,hc4⟩,⟨_,hc4⟩,⟨_,hc4⟩] ?_)
     refine ab.gstep (v:=db y5) (ae.callS [0] (bY ((nth a0.layout v0_0).a) a0 _ hy5) rfl rfl ⟨rfl,rfl,trivial⟩ (by decide) rfl rfl ⟨⟨rfl,rfl⟩,trivial⟩) rfl rfl rfl hc4 rfl rfl ?_
     refine ab.ev0n [3,20,0,2,0,0,0,0,0,0,0,0,0,0,0,0,0,0,0] [(47,db true)] [⟨_,hc4⟩,⟨_,hc4⟩,⟨_,hc6⟩] ?_
     cases h
     exact ⟨_,(GStep.trans (GStep.keep [1,9,10,11,47]) (GStep.ren [0] (by decide) rfl rfl)),rfl,rfl⟩
    refine ao h fun y7 hy7 h=>?_
    refine au h (fun hc8 h=>?_) (fun hc8 h=>?_)
    ·
     refine aa.region (ab.ev0 [0,0,0,0,1,0,0,0,0,3,3,3] [(24,db (decide ((nth a0.layout v0_0).kind > 4))),(25,.clo 207 [] [.ptr 0 0]),(27,di ((nth a0.layout v0_0).a))] [⟨_,hc3⟩,⟨_,hc4⟩,⟨_,hc4⟩,⟨_,hc4⟩] ?_)
     refine ab.gstep (v:=db y5) (ae.callS [0] (bY ((nth a0.layout v0_0).a) a0 _ hy5) rfl rfl ⟨rfl,rfl,trivial⟩ (by decide) rfl rfl ⟨⟨rfl,rfl⟩,trivial⟩) rfl rfl rfl hc4 rfl rfl ?_
     refine ab.ev0 [3,20,0,3,3,3] [(31,db (!y5)),(32,.clo 207 [] [.ptr 0 0]),(34,di ((nth a0.layout v0_0).b))] [⟨_,hc4⟩,⟨_,hc4⟩,⟨_,hc6⟩,⟨_,hc6⟩,⟨_,hc6⟩] ?_
     refine ab.gstep (v:=db y7) (ae.callS [0] (bY ((nth a0.layout v0_0).b) a0 _ hy7) rfl rfl ⟨rfl,rfl,trivial⟩ (by decide) rfl rfl ⟨⟨rfl,rfl⟩,trivial⟩) rfl rfl rfl hc6 rfl rfl ?_
     refine ab.ev0n [3,20,0,2,0,0,0,0,0,0,0,0] [(47,db true)] [⟨_,hc6⟩,⟨_,hc6⟩,⟨_,hc8⟩] ?_
     cases h
     exact ⟨_,(GStep.trans (GStep.keep [1,9,10,11,47]) (GStep.ren [0] (by decide) rfl rfl)),rfl,rfl⟩
    refine au h (fun hc9 h=>?_) (fun hc9 h=>?_)
    ·
     refine aa.region (ab.ev0 [0,0,0,0,1,0,0,0,0,3,3,3] [(24,db (decide ((nth a0.layout v0_0).kind > 4))),(25,.clo 207 [] [.ptr 0 0]),(27,di ((nth a0.layout v0_0).a))] [⟨_,hc3⟩,⟨_,hc4⟩,⟨_,hc4⟩,⟨_,hc4⟩] ?_)
     refine ab.gstep (v:=db y5) (ae.callS [0] (bY ((nth a0.layout v0_0).a) a0 _ hy5) rfl rfl ⟨rfl,rfl,trivial⟩ (by decide) rfl rfl ⟨⟨rfl,rfl⟩,trivial⟩) rfl rfl rfl hc4 rfl rfl ?_
     refine ab.ev0 [3,20,0,3,3,3] [(31,db (!y5)),(32,.clo 207 [] [.ptr 0 0]),(34,di ((nth a0.layout v0_0).b))] [⟨_,hc4⟩,⟨_,hc4⟩,⟨_,hc6⟩,⟨_,hc6⟩,⟨_,hc6⟩] ?_
     refine ab.gstep (v:=db y7) (ae.callS [0] (bY ((nth a0.layout v0_0).b) a0 _ hy7) rfl rfl ⟨rfl,rfl,trivial⟩ (by decide) rfl rfl ⟨⟨rfl,rfl⟩,trivial⟩) rfl rfl rfl hc6 rfl rfl ?_
     refine ab.ev0n [3,20,0,1,0,0,0,1,0,0,0,0] [(47,db (!decide ((nth a0.layout v0_0).b=0)))] [⟨_,hc6⟩,⟨_,hc6⟩,⟨_,hc8⟩,⟨_,hc9⟩] ?_
     cases h
     exact ⟨_,(GStep.trans (GStep.keep [1,9,10,11,47]) (GStep.ren [0] (by decide) rfl rfl)),rfl,rfl⟩
    refine aa.region (ab.ev0 [0,0,0,0,1,0,0,0,0,3,3,3] [(24,db (decide ((nth a0.layout v0_0).kind > 4))),(25,.clo 207 [] [.ptr 0 0]),(27,di ((nth a0.layout v0_0).a))] [⟨_,hc3⟩,⟨_,hc4⟩,⟨_,hc4⟩,⟨_,hc4⟩] ?_)
    refine ab.gstep (v:=db y5) (ae.callS [0] (bY ((nth a0.layout v0_0).a) a0 _ hy5) rfl rfl ⟨rfl,rfl,trivial⟩ (by decide) rfl rfl ⟨⟨rfl,rfl⟩,trivial⟩) rfl rfl rfl hc4 rfl rfl ?_
    refine ab.ev0 [3,20,0,3,3,3] [(31,db (!y5)),(32,.clo 207 [] [.ptr 0 0]),(34,di ((nth a0.layout v0_0).b))] [⟨_,hc4⟩,⟨_,hc4⟩,⟨_,hc6⟩,⟨_,hc6⟩,⟨_,hc6⟩] ?_
    refine ab.gstep (v:=db y7) (ae.callS [0] (bY ((nth a0.layout v0_0).b) a0 _ hy7) rfl rfl ⟨rfl,rfl,trivial⟩ (by decide) rfl rfl ⟨⟨rfl,rfl⟩,trivial⟩) rfl rfl rfl hc6 rfl rfl ?_
    refine ab.ev0n [3,20,0,1,0,0,0,2,0,0,0,0] [(47,db false)] [⟨_,hc6⟩,⟨_,hc6⟩,⟨_,hc8⟩,⟨_,hc9⟩] ?_
    cases h
    exact ⟨_,(GStep.trans (GStep.keep [1,9,10,11,47]) (GStep.ren [0] (by decide) rfl rfl)),rfl,rfl⟩
   rintro e s' hq
   obtain ⟨rfl,rfl⟩:=hq
   refine aa.condI h rfl (fun hc12 h=>?_) (fun hc12 h=>?_)
   ·
    refine aa.sr (ab.ev0n [0] [(2,db false)] [] ?_)
    refine aa.ret ?_
    cases h
    exact ⟨_,(GStep.trans (GStep.keep [2]) (GStep.ren [] (by decide) rfl rfl)),rfl,Fin.mk2 (aB.one (.tmp rfl)) [] (by decide) rfl rfl rfl rfl⟩
   refine aa.skip ?_
   refine aa.region (ab.ev0n [0,0] [(11,di (IntKind.wrap .i64 (v0_0+1)))] [] ?_)
   exact aM.ghost (GStep.keep [1,9,10,11]) (ih (IntKind.wrap .i64 (v0_0+1)) h)
  refine aa.exit ?_
  cases h
  exact ⟨_,(GStep.keep [1]),rfl,rfl⟩
 rcases o38 with r13 | x14
 ·
  rintro e s' hq
  obtain ⟨rfl,hq⟩:=hq
  cases h
  exact ⟨_,GStep.refl _ _,.inr rfl,hq⟩
 rintro e s' hq
 obtain ⟨rfl,rfl⟩:=hq
 refine aa.sr (ab.ev0n [0,0] [(6,.clo 208 [] [.ptr 0 0])] [] ?_)
 refine aa.sr (ab.evn (h':=[.live (.var (az a0)),.live (.var (xc a0.scope))]) [0,0,0,0] [(7,.ptr 1 0)] [] ?_)
 refine aa.seq ?_
 refine aa.seq ?_
 refine ao h fun x19 ho18 h=>?_
 refine aa.cut (Q':=fun e s'=>e = .normal∧s'=⟨[(1,.ptr 0 0),(7,.ptr 1 0),(67,db x19)],[.live (.var (az a0)),.live (.var (xc a0.scope))]⟩) ?_ ?_
 ·
  have h:=ho18
  refine ao h fun y15 hy15 h=>?_
  refine au h (fun hc16 h=>?_) (fun hc16 h=>?_)
  ·
   refine aa.region (ab.ev0 [0,0,0,0,0] [(52,.clo 208 [] [.ptr 0 0]),(54,di a0.scope.declares),(56,di a0.scope.kind)] [] ?_)
   refine ab.step (v:=db y15) (ae.callS [0] (fK a0.scope.declares a0.scope.kind 1 7 a0 _ hy15) rfl rfl ⟨rfl,rfl,rfl,rfl,rfl,trivial⟩ (by decide) rfl rfl ⟨⟨rfl,rfl⟩,trivial⟩) rfl rfl rfl ?_
   refine ab.ev0n [0,0,2,0,0,0,0,0,0,0] [(67,db true)] [⟨_,hc16⟩] ?_
   cases h
   exact ⟨_,(GStep.keep [1,7,67]),rfl,rfl⟩
  refine ao h fun y17 hy17 h=>?_
  refine aa.region (ab.ev0 [0,0,0,0,0] [(52,.clo 208 [] [.ptr 0 0]),(54,di a0.scope.declares),(56,di a0.scope.kind)] [] ?_)
  refine ab.step (v:=db y15) (ae.callS [0] (fK a0.scope.declares a0.scope.kind 1 7 a0 _ hy15) rfl rfl ⟨rfl,rfl,rfl,rfl,rfl,trivial⟩ (by decide) rfl rfl ⟨⟨rfl,rfl⟩,trivial⟩) rfl rfl rfl ?_
  refine ab.ev0 [0,0,3,3,3,3,3] [(59,db (!y15)),(60,.clo 208 [] [.ptr 0 0]),(62,di a0.scope.uses),(64,di a0.scope.allowed)] [⟨_,hc16⟩,⟨_,hc16⟩,⟨_,hc16⟩,⟨_,hc16⟩,⟨_,hc16⟩] ?_
  refine ab.gstep (v:=db y17) (ae.callS [0] (fK a0.scope.uses a0.scope.allowed 0 255 a0 _ hy17) rfl rfl ⟨rfl,rfl,rfl,rfl,rfl,trivial⟩ (by decide) rfl rfl ⟨⟨rfl,rfl⟩,trivial⟩) rfl rfl rfl hc16 rfl rfl ?_
  refine ab.ev0n [3,20] [(67,db (!y17))] [⟨_,hc16⟩,⟨_,hc16⟩] ?_
  cases h
  exact ⟨_,(GStep.keep [1,7,67]),rfl,rfl⟩
 rintro e s' hq
 obtain ⟨rfl,rfl⟩:=hq
 refine aa.condI h rfl (fun hc20 h=>?_) (fun hc20 h=>?_)
 ·
  refine aa.sr (ab.ev0n [0] [(2,db false)] [] ?_)
  refine aa.ret ?_
  cases h
  exact ⟨_,(GStep.trans (GStep.keep [2]) (GStep.ren [] (by decide) rfl rfl)),.inr rfl,Fin.mk2 (aB.one (.tmp rfl)) [] (by decide) rfl rfl rfl rfl⟩
 refine aa.skip ?_
 refine aa.seq ?_
 refine aa.sr (ab.ev0n [0,0,0] [(70,db (!a0.bracket))] [] ?_)
 refine aa.condI h rfl (fun hc21 h=>?_) (fun hc21 h=>?_)
 ·
  refine aa.sr (ab.ev0n [0] [(2,db true)] [] ?_)
  refine aa.ret ?_
  cases h
  exact ⟨_,(GStep.trans (GStep.keep [2]) (GStep.ren [] (by decide) rfl rfl)),.inr rfl,Fin.mk2 (aB.one (.tmp rfl)) [] (by decide) rfl rfl rfl rfl⟩
 refine aa.skip ?_
 refine aa.seq ?_
 refine aa.seq ?_
 refine ao h fun x26 ho25 h=>?_
 refine aa.cut (Q':=fun e s'=>e = .normal∧s'=⟨[(1,.ptr 0 0),(90,db x26)],[.live (.var (az a0))]⟩) ?_ ?_
 ·
  have h:=ho25
  refine au h (fun hc22 h=>?_) (fun hc22 h=>?_)
  ·
   refine aa.region (ab.ev0n [0,0,0,0,0,2,0,0,0,0,0,0,0,0,0,0,0,0,0,0] [(90,db true)] [⟨_,hc22⟩] ?_)
   cases h
   exact ⟨_,(GStep.trans (GStep.keep [1,90]) (GStep.ren [0] (by decide) rfl rfl)),rfl,rfl⟩
  refine au h (fun hc23 h=>?_) (fun hc23 h=>?_)
  ·
   refine aa.region (ab.ev0n [0,0,0,0,0,1,0,0,0,0,2,0,0,0,0,0,0,0,0,0] [(90,db true)] [⟨_,hc22⟩,⟨_,hc23⟩] ?_)
   cases h
   exact ⟨_,(GStep.trans (GStep.keep [1,90]) (GStep.ren [0] (by decide) rfl rfl)),rfl,rfl⟩
  refine au h (fun hc24 h=>?_) (fun hc24 h=>?_)
  ·
   refine aa.region (ab.ev0n [0,0,0,0,0,1,0,0,0,0,1,0,0,0,0,0,2,0,0,0] [(90,db true)] [⟨_,hc22⟩,⟨_,hc23⟩,⟨_,hc24⟩] ?_)
   cases h
   exact ⟨_,(GStep.trans (GStep.keep [1,90]) (GStep.ren [0] (by decide) rfl rfl)),rfl,rfl⟩
  refine aa.region (ab.ev0n [0,0,0,0,0,1,0,0,0,0,1,0,0,0,0,0,1,0,0,0] [(90,db (!((a0.scope.opens == false)&&((decide (a0.scope.declares=0))&&((decide (a0.scope.kind=0))&&((decide (a0.scope.uses=0))&&(decide (a0.scope.allowed=0))))))))] [⟨_,hc22⟩,⟨_,hc23⟩,⟨_,hc24⟩] ?_)
  cases h
  exact ⟨_,(GStep.trans (GStep.keep [1,90]) (GStep.ren [0] (by decide) rfl rfl)),rfl,rfl⟩
 rintro e s' hq
 obtain ⟨rfl,rfl⟩:=hq
 refine aa.condI h rfl (fun hc27 h=>?_) (fun hc27 h=>?_)
 ·
  refine aa.sr (ab.ev0n [0] [(2,db false)] [] ?_)
  refine aa.ret ?_
  cases h
  exact ⟨_,(GStep.trans (GStep.keep [2]) (GStep.ren [] (by decide) rfl rfl)),.inr rfl,Fin.mk2 (aB.one (.tmp rfl)) [] (by decide) rfl rfl rfl rfl⟩
 refine aa.skip ?_
 refine aa.seq ?_
 refine ao h fun x37 ho36 h=>?_
 refine aa.cut (Q':=fun e s'=>e = .normal∧s'=⟨[(2,db x37)],[]⟩) ?_ ?_
 ·
  have h:=ho36
  refine aD h fun hb28 h=>?_
  refine au h (fun hc29 h=>?_) (fun hc29 h=>?_)
  ·
   refine aD h fun hb30 h=>?_
   refine au h (fun hc31 h=>?_) (fun hc31 h=>?_)
   ·
    refine aD h fun hb32 h=>?_
    refine aa.regionAny mixed (s':=?s33) (qs:=[⟨[1],[],[],[0],[]⟩,⟨[91],[0],[],[],[]⟩,⟨[92],[],[],[],[]⟩,⟨[93],[],[],[],[]⟩,⟨[94],[],[],[],[]⟩,⟨[95],[],[],[],[]⟩,⟨[1,96],[],[],[0],[]⟩,⟨[96,97],[0],[],[],[]⟩,⟨[96,98],[],[],[],[]⟩,⟨[96,99],[],[],[],[]⟩,⟨[1,96],[],[],[0],[]⟩,⟨[96,101],[0],[],[],[]⟩,⟨[96,102],[],[],[],[]⟩,⟨[96,100,103],[],[],[],[]⟩,⟨[96,104],[],[],[],[]⟩,⟨[105],[],[],[],[]⟩,⟨[1,106],[],[],[0],[]⟩,⟨[106,107],[0],[],[],[]⟩,⟨[106,108],[],[],[],[]⟩,⟨[106,109],[],[],[],[]⟩,⟨[106,110],[],[],[],[]⟩,⟨[106,111],[],[],[],[]⟩,⟨[112],[],[],[],[]⟩]) ?_ (by kernel_rfl) ?_
    rotate_left
    ·
     refine Steps.runQ [1] [] [0] (v:=.ptr 0 2) (ae.fieldAddr (id:=0) (off:=0) (fo:=2) rfl rfl cz rfl rfl) rfl (by kernel_rfl) (by kernel_rfl) ?_
     refine Steps.runQ [91] [0] [] (v:=.d (af 2 ay a0.right)) (ae.load rfl rfl cV rfl rfl) rfl (by kernel_rfl) (by kernel_rfl) ?_
     refine Steps.runQ [92] [] [] (ae.index rfl rfl rfl bL hb28.1 hb28.2) rfl (by kernel_rfl) (by kernel_rfl) ?_
     refine Steps.runQ [93] [] [] (ae.fieldAddrV rfl rfl dA rfl rfl) rfl (by kernel_rfl) (by kernel_rfl) ?_
     refine Steps.runQ [94] [] [] (ae.loadV rfl rfl fF rfl) rfl (by kernel_rfl) (by kernel_rfl) ?_
     refine Steps.runQ [95] [] [] (v:=db ((nth a0.right 0).token)) (ae.move rfl rfl) rfl (by kernel_rfl) (by kernel_rfl) ?_
     refine Steps.grunQ [1,96] [] [0] (v:=.ptr 0 2) (ae.fieldAddr (id:=0) (off:=0) (fo:=2) rfl rfl cz rfl rfl) rfl rfl rfl hc29 (by kernel_rfl) (by kernel_rfl) (by kernel_rfl) ?_
     refine Steps.grunQ [96,97] [0] [] (v:=.d (af 2 ay a0.right)) (ae.load rfl rfl cV rfl rfl) rfl rfl rfl hc29 (by kernel_rfl) (by kernel_rfl) (by kernel_rfl) ?_
     refine Steps.grunQ [96,98] [] [] (ae.index rfl rfl rfl bL hb30.1 hb30.2) rfl rfl rfl hc29 (by kernel_rfl) (by kernel_rfl) (by kernel_rfl) ?_
     refine Steps.grunQ [96,99] [] [] (ae.loadVA rfl rfl qk rfl) rfl rfl rfl hc29 (by kernel_rfl) (by kernel_rfl) (by kernel_rfl) ?_
     refine Steps.grunQ [1,96] [] [0] (v:=.ptr 0 1) (ae.fieldAddr (id:=0) (off:=0) (fo:=1) rfl rfl cz rfl rfl) rfl rfl rfl hc29 (by kernel_rfl) (by kernel_rfl) (by kernel_rfl) ?_
     refine Steps.grunQ [96,101] [0] [] (v:=di a0.left) (ae.load rfl rfl aX rfl rfl) rfl rfl rfl hc29 (by kernel_rfl) (by kernel_rfl) (by kernel_rfl) ?_
     refine Steps.grunQ [96,102] [] [] (v:=.agg (bW (⟨false,a0.left⟩:aw))) (ae.build rfl dA kD rfl) rfl rfl rfl hc29 (by kernel_rfl) (by kernel_rfl) (by kernel_rfl) ?_
     refine Steps.grunQ [96,100,103] [] [] (v:=db (((nth a0.right 1).token == false)&&(decide ((nth a0.right 1).index=a0.left)))) (ae.eqlA [.bool ((nth a0.right 1).token),.int .i64 ((nth a0.right 1).index)] [.bool false,.int .i64 a0.left] rfl rfl rfl vh rfl rfl) rfl rfl rfl hc29 (by kernel_rfl) (by kernel_rfl) (by kernel_rfl) ?_
     refine Steps.runQ [96,104] [] [] (v:=db (((nth a0.right 1).token == false)&&(decide ((nth a0.right 1).index=a0.left)))) (ae.pickT rfl rfl hc29 rfl) rfl (by kernel_rfl) (by kernel_rfl) ?_
     refine Steps.runQ [105] [] [] (v:=db (((nth a0.right 1).token == false)&&(decide ((nth a0.right 1).index=a0.left)))) (ae.move rfl rfl) rfl (by kernel_rfl) (by kernel_rfl) ?_
     refine Steps.grunQ [1,106] [] [0] (v:=.ptr 0 2) (ae.fieldAddr (id:=0) (off:=0) (fo:=2) rfl rfl cz rfl rfl) rfl rfl rfl hc31 (by kernel_rfl) (by kernel_rfl) (by kernel_rfl) ?_
     refine Steps.grunQ [106,107] [0] [] (v:=.d (af 2 ay a0.right)) (ae.load rfl rfl cV rfl rfl) rfl rfl rfl hc31 (by kernel_rfl) (by kernel_rfl) (by kernel_rfl) ?_
     refine Steps.grunQ [106,108] [] [] (ae.index rfl rfl rfl bL hb32.1 hb32.2) rfl rfl rfl hc31 (by kernel_rfl) (by kernel_rfl) (by kernel_rfl) ?_
     refine Steps.grunQ [106,109] [] [] (ae.fieldAddrV rfl rfl dA rfl rfl) rfl rfl rfl hc31 (by kernel_rfl) (by kernel_rfl) (by kernel_rfl) ?_
     refine Steps.grunQ [106,110] [] [] (ae.loadV rfl rfl fF rfl) rfl rfl rfl hc31 (by kernel_rfl) (by kernel_rfl) (by kernel_rfl) ?_
     refine Steps.runQ [106,111] [] [] (v:=db ((nth a0.right 2).token)) (ae.pickT rfl rfl hc31 rfl) rfl (by kernel_rfl) (by kernel_rfl) ?_
     refine Steps.runQ [112] [] [] (v:=db ((nth a0.right 2).token)) (ae.assign rfl rfl) rfl (by kernel_rfl) (by kernel_rfl) ?_
     exact Steps.nil _
    cases h
    exact ⟨_,(GStep.trans (GStep.keep [2]) (GStep.ren [] (by decide) rfl rfl)),rfl,rfl⟩
   refine aa.regionAny mixed (s':=?s34) (qs:=[⟨[1],[],[],[0],[]⟩,⟨[91],[0],[],[],[]⟩,⟨[92],[],[],[],[]⟩,⟨[93],[],[],[],[]⟩,⟨[94],[],[],[],[]⟩,⟨[95],[],[],[],[]⟩,⟨[1,96],[],[],[0],[]⟩,⟨[96,97],[0],[],[],[]⟩,⟨[96,98],[],[],[],[]⟩,⟨[96,99],[],[],[],[]⟩,⟨[1,96],[],[],[0],[]⟩,⟨[96,101],[0],[],[],[]⟩,⟨[96,102],[],[],[],[]⟩,⟨[96,100,103],[],[],[],[]⟩,⟨[96,104],[],[],[],[]⟩,⟨[105],[],[],[],[]⟩,⟨[1,106],[],[],[],[]⟩,⟨[106,107],[],[],[],[]⟩,⟨[106,108],[],[],[],[]⟩,⟨[106,109],[],[],[],[]⟩,⟨[106,110],[],[],[],[]⟩,⟨[106,111],[],[],[],[]⟩,⟨[112],[],[],[],[]⟩]) ?_ (by kernel_rfl) ?_
   rotate_left
   ·
    refine Steps.runQ [1] [] [0] (v:=.ptr 0 2) (ae.fieldAddr (id:=0) (off:=0) (fo:=2) rfl rfl cz rfl rfl) rfl (by kernel_rfl) (by kernel_rfl) ?_
    refine Steps.runQ [91] [0] [] (v:=.d (af 2 ay a0.right)) (ae.load rfl rfl cV rfl rfl) rfl (by kernel_rfl) (by kernel_rfl) ?_
    refine Steps.runQ [92] [] [] (ae.index rfl rfl rfl bL hb28.1 hb28.2) rfl (by kernel_rfl) (by kernel_rfl) ?_
    refine Steps.runQ [93] [] [] (ae.fieldAddrV rfl rfl dA rfl rfl) rfl (by kernel_rfl) (by kernel_rfl) ?_
    refine Steps.runQ [94] [] [] (ae.loadV rfl rfl fF rfl) rfl (by kernel_rfl) (by kernel_rfl) ?_
    refine Steps.runQ [95] [] [] (v:=db ((nth a0.right 0).token)) (ae.move rfl rfl) rfl (by kernel_rfl) (by kernel_rfl) ?_
    refine Steps.grunQ [1,96] [] [0] (v:=.ptr 0 2) (ae.fieldAddr (id:=0) (off:=0) (fo:=2) rfl rfl cz rfl rfl) rfl rfl rfl hc29 (by kernel_rfl) (by kernel_rfl) (by kernel_rfl) ?_
    refine Steps.grunQ [96,97] [0] [] (v:=.d (af 2 ay a0.right)) (ae.load rfl rfl cV rfl rfl) rfl rfl rfl hc29 (by kernel_rfl) (by kernel_rfl) (by kernel_rfl) ?_
    refine Steps.grunQ [96,98] [] [] (ae.index rfl rfl rfl bL hb30.1 hb30.2) rfl rfl rfl hc29 (by kernel_rfl) (by kernel_rfl) (by kernel_rfl) ?_
    refine Steps.grunQ [96,99] [] [] (ae.loadVA rfl rfl qk rfl) rfl rfl rfl hc29 (by kernel_rfl) (by kernel_rfl) (by kernel_rfl) ?_
    refine Steps.grunQ [1,96] [] [0] (v:=.ptr 0 1) (ae.fieldAddr (id:=0) (off:=0) (fo:=1) rfl rfl cz rfl rfl) rfl rfl rfl hc29 (by kernel_rfl) (by kernel_rfl) (by kernel_rfl) ?_
    refine Steps.grunQ [96,101] [0] [] (v:=di a0.left) (ae.load rfl rfl aX rfl rfl) rfl rfl rfl hc29 (by kernel_rfl) (by kernel_rfl) (by kernel_rfl) ?_
    refine Steps.grunQ [96,102] [] [] (v:=.agg (bW (⟨false,a0.left⟩:aw))) (ae.build rfl dA kD rfl) rfl rfl rfl hc29 (by kernel_rfl) (by kernel_rfl) (by kernel_rfl) ?_
    refine Steps.grunQ [96,100,103] [] [] (v:=db (((nth a0.right 1).token == false)&&(decide ((nth a0.right 1).index=a0.left)))) (ae.eqlA [.bool ((nth a0.right 1).token),.int .i64 ((nth a0.right 1).index)] [.bool false,.int .i64 a0.left] rfl rfl rfl vh rfl rfl) rfl rfl rfl hc29 (by kernel_rfl) (by kernel_rfl) (by kernel_rfl) ?_
    refine Steps.runQ [96,104] [] [] (v:=db (((nth a0.right 1).token == false)&&(decide ((nth a0.right 1).index=a0.left)))) (ae.pickT rfl rfl hc29 rfl) rfl (by kernel_rfl) (by kernel_rfl) ?_
    refine Steps.runQ [105] [] [] (v:=db (((nth a0.right 1).token == false)&&(decide ((nth a0.right 1).index=a0.left)))) (ae.move rfl rfl) rfl (by kernel_rfl) (by kernel_rfl) ?_
    refine Steps.gpass [1,106] rfl rfl rfl hc31 rfl rfl ?_
    refine Steps.gpass [106,107] rfl rfl rfl hc31 rfl rfl ?_
    refine Steps.gpass [106,108] rfl rfl rfl hc31 rfl rfl ?_
    refine Steps.gpass [106,109] rfl rfl rfl hc31 rfl rfl ?_
    refine Steps.gpass [106,110] rfl rfl rfl hc31 rfl rfl ?_
    refine Steps.runQ [106,111] [] [] (v:=db false) (ae.pickF rfl rfl hc31 rfl) rfl (by kernel_rfl) (by kernel_rfl) ?_
    refine Steps.runQ [112] [] [] (v:=db false) (ae.assign rfl rfl) rfl (by kernel_rfl) (by kernel_rfl) ?_
    exact Steps.nil _
   cases h
   exact ⟨_,(GStep.trans (GStep.keep [2]) (GStep.ren [] (by decide) rfl rfl)),rfl,rfl⟩
  refine aa.regionAny mixed (s':=?s35) (qs:=[⟨[1],[],[],[0],[]⟩,⟨[91],[0],[],[],[]⟩,⟨[92],[],[],[],[]⟩,⟨[93],[],[],[],[]⟩,⟨[94],[],[],[],[]⟩,⟨[95],[],[],[],[]⟩,⟨[1,96],[],[],[],[]⟩,⟨[96,97],[],[],[],[]⟩,⟨[96,98],[],[],[],[]⟩,⟨[96,99],[],[],[],[]⟩,⟨[1,96],[],[],[],[]⟩,⟨[96,101],[],[],[],[]⟩,⟨[96,102],[],[],[],[]⟩,⟨[96,100,103],[],[],[],[]⟩,⟨[96,104],[],[],[],[]⟩,⟨[105],[],[],[],[]⟩,⟨[1,106],[],[],[],[]⟩,⟨[106,107],[],[],[],[]⟩,⟨[106,108],[],[],[],[]⟩,⟨[106,109],[],[],[],[]⟩,⟨[106,110],[],[],[],[]⟩,⟨[106,111],[],[],[],[]⟩,⟨[112],[],[],[],[]⟩]) ?_ (by kernel_rfl) ?_
  rotate_left
  ·
   refine Steps.runQ [1] [] [0] (v:=.ptr 0 2) (ae.fieldAddr (id:=0) (off:=0) (fo:=2) rfl rfl cz rfl rfl) rfl (by kernel_rfl) (by kernel_rfl) ?_
   refine Steps.runQ [91] [0] [] (v:=.d (af 2 ay a0.right)) (ae.load rfl rfl cV rfl rfl) rfl (by kernel_rfl) (by kernel_rfl) ?_
   refine Steps.runQ [92] [] [] (ae.index rfl rfl rfl bL hb28.1 hb28.2) rfl (by kernel_rfl) (by kernel_rfl) ?_
   refine Steps.runQ [93] [] [] (ae.fieldAddrV rfl rfl dA rfl rfl) rfl (by kernel_rfl) (by kernel_rfl) ?_
   refine Steps.runQ [94] [] [] (ae.loadV rfl rfl fF rfl) rfl (by kernel_rfl) (by kernel_rfl) ?_
   refine Steps.runQ [95] [] [] (v:=db ((nth a0.right 0).token)) (ae.move rfl rfl) rfl (by kernel_rfl) (by kernel_rfl) ?_
   refine Steps.gpass [1,96] rfl rfl rfl hc29 rfl rfl ?_
   refine Steps.gpass [96,97] rfl rfl rfl hc29 rfl rfl ?_
   refine Steps.gpass [96,98] rfl rfl rfl hc29 rfl rfl ?_
   refine Steps.gpass [96,99] rfl rfl rfl hc29 rfl rfl ?_
   refine Steps.gpass [1,96] rfl rfl rfl hc29 rfl rfl ?_
   refine Steps.gpass [96,101] rfl rfl rfl hc29 rfl rfl ?_
   refine Steps.gpass [96,102] rfl rfl rfl hc29 rfl rfl ?_
   refine Steps.gpass [96,100,103] rfl rfl rfl hc29 rfl rfl ?_
   refine Steps.runQ [96,104] [] [] (v:=db false) (ae.pickF rfl rfl hc29 rfl) rfl (by kernel_rfl) (by kernel_rfl) ?_
   refine Steps.runQ [105] [] [] (v:=db false) (ae.move rfl rfl) rfl (by kernel_rfl) (by kernel_rfl) ?_
   refine Steps.gpass [1,106] rfl rfl rfl rfl rfl rfl ?_
   refine Steps.gpass [106,107] rfl rfl rfl rfl rfl rfl ?_
   refine Steps.gpass [106,108] rfl rfl rfl rfl rfl rfl ?_
   refine Steps.gpass [106,109] rfl rfl rfl rfl rfl rfl ?_
   refine Steps.gpass [106,110] rfl rfl rfl rfl rfl rfl ?_
   refine Steps.runQ [106,111] [] [] (v:=db false) (ae.pickF rfl rfl rfl rfl) rfl (by kernel_rfl) (by kernel_rfl) ?_
   refine Steps.runQ [112] [] [] (v:=db false) (ae.assign rfl rfl) rfl (by kernel_rfl) (by kernel_rfl) ?_
   exact Steps.nil _
  cases h
  exact ⟨_,(GStep.trans (GStep.keep [2]) (GStep.ren [] (by decide) rfl rfl)),rfl,rfl⟩
 rintro e s' hq
 obtain ⟨rfl,rfl⟩:=hq
 refine aa.ret ?_
 cases h
 exact ⟨_,(GStep.keep [2]),.inr rfl,Fin.mk2 (aB.one (.tmp rfl)) [] (by decide) rfl rfl rfl rfl⟩
noncomputable def aV (k:Nat)(a0:am)(y1:List (ByteArray×Bool))(v:Int×(List (ByteArray×Bool))):Option (Int⊕Unit):=match k,v with
  | 0,_=>none
  | k+1,(v0_0,v0_1)=>(if (decide (v0_0 < (a0.productions.length:Int)))=true then (if (0:Int)≤v0_0∧v0_0 < (a0.productions.length:Int) then ((((bF (⟨false,(nth a0.productions v0_0).left⟩:aw) a0).bind fun y4=>(if y4=true then some (true,(nth a0.productions v0_0)) else ((hZ k ((nth a0.productions v0_0).right) a0).bind fun y6=>some (y6,(nth a0.productions v0_0))))):Option (Bool×aj)).bind fun x8=>(if x8.1=true then some (.inl 50) else ((((cv x8.2.name v0_1).bind fun y10=>(if (!y10.1)=true then some (true,y10.2) else ((dg k x8.2.ifF (a0.conditions.length:Int)).bind fun y12=>(if (!y12)=true then some (true,y10.2) else (if (decide (x8.2.rank < (-1)))=true then some (true,y10.2) else (if (decide (x8.2.rank > 1))=true then some (true,y10.2) else ((eT k x8.2).bind fun y16=>some ((!y16),y10.2)))))))):Option (Bool×(List (ByteArray×Bool)))).bind fun x18=>(if x18.1=true then some (.inl 52) else (aV k a0 y1 ((IntKind.wrap .i64 (v0_0+1)),x18.2)))))) else none) else some (.inr ()))
theorem bJ:type_of% (@aV.eq_2):=@aV.eq_2
noncomputable def bc (k:Nat)(a0:am):Option Int:=((eP).bind fun y1=>(((aV k a0 y1 (0,y1)):Option (Int⊕Unit)).bind fun o22=>match o22 with | .inl r20=>(some r20) | .inr x21=>(some 0)))
set_option maxRecDepth 100000 in
set_option maxHeartbeats 4000000 in
theorem i9 (k:Nat)(a0:am)(r:Int)(h:bc k a0=some r):SC P 78 [.agg (ah a0)] [] (di r) []:=by
 unfold bc at h
 refine SC.intro3 (N:=57) Tryz.func78 rfl rfl Tryz.ntmps78 rfl ?_
 refine aa.sr (ab.evn (h':=[.live (.var (ah a0))]) [0,0] [(1,.ptr 0 0)] [] ?_)
 refine aa.seq ?_
 refine ao h fun y1 hy1 h=>?_
 refine aa.region ?_
 refine ab.step (v:=.clo 198 [] [.ptr 1 0]) (ae.callS [] (fL _ hy1) rfl rfl trivial (by decide) rfl rfl trivial) rfl rfl rfl ?_
 refine ab.hp (h':=[.live (.var (ah a0)),.live (.var [.mp 2]),.live (.mp (aI D.str D.bool y1))]) (by kernel_rfl) ?_
 refine ab.ev0n [0] [(3,.clo 198 [] [.ptr 1 0])] [] ?_
 refine aa.seq ?_
 refine aa.sr (ab.ev0n [0,0,0,0] [(9,.d (af 13 aq a0.productions)),(10,di (a0.productions.length:Int)),(11,di 0)] [] ?_)
 refine aa.block ?_
 refine ao h fun o22 ho22 h=>?_
 refine aa.cut (Q':=fun e s'=>match o22 with | .inl r20=>((e = .ret)∧Fin P (Tryz.f78.results) 0 [] (di r20) s') | .inr x21=>(e = .exit 0∧s'=⟨[],[]⟩)) ?_ ?_
 ·
  have h:=ho22
  refine aa.ghost (GStep.keep [1,3,9,10,11]) ?_
  refine aa.loopI (F:=fun k v=>aV k a0 y1 v) (fun v=>⟨[(1,.ptr 0 0),(3,.clo 198 [] [.ptr 1 0]),(9,.d (af 13 aq a0.productions)),(10,di (a0.productions.length:Int)),(11,di v.1)],[.live (.var (ah a0)),.live (.var [.mp 2]),.live (.mp (aI D.str D.bool v.2))]⟩) (k:=k) (v:=(0,y1)) h rfl (fun _=>rfl) ?_
  intro k v ih h
  obtain ⟨v0_0,v0_1⟩:=v
  have h:=(bJ ..).symm.trans h
  refine aa.sr (ab.ev0n [0] [(12,db (decide (v0_0 < (a0.productions.length:Int))))] [] ?_)
  refine aa.seq ?_
  refine aa.condI h rfl (fun hc2 h=>?_) (fun hc2 h=>?_)
  ·
   refine aa.skip ?_
   refine aa.seq ?_
   refine aa.block ?_
   refine aa.seq ?_
   refine aD h fun hb3 h=>?_
   refine aa.region (ab.evn (h':=[.live (.var (ah a0)),.live (.var [.mp 2]),.live (.mp (aI D.str D.bool v0_1)),.live (.var (az (nth a0.productions v0_0)))]) [0,0,0,0] [(5,.ptr 3 0)] [⟨_,hb3.1⟩,⟨_,hb3.2⟩] ?_)
   refine aa.sr (ab.ev0n [0,0] [(6,.clo 152 [] [.ptr 0 0])] [] ?_)
   refine aa.seq ?_
   refine aa.seq ?_
   refine ao h fun x8 ho7 h=>?_
   refine aa.cut (Q':=fun e s'=>e = .normal∧s'=⟨[(1,.ptr 0 0),(3,.clo 198 [] [.ptr 1 0]),(5,.ptr 2 0),(9,.d (af 13 aq a0.productions)),(10,di (a0.productions.length:Int)),(11,di v0_0),(26,db x8.1)],[.live (.var (ah a0)),.live (.var [.mp 3]),.live (.var (az x8.2)),.live (.mp (aI D.str D.bool v0_1))]⟩) ?_ ?_
   ·
    have h:=ho7
    refine ao h fun y4 hy4 h=>?_
    refine au h (fun hc5 h=>?_) (fun hc5 h=>?_)
    ·
     refine aa.region (ab.ev0 [0,0,0,0] [(16,.clo 152 [] [.ptr 0 0]),(19,.agg (bW (⟨false,(nth a0.productions v0_0).left⟩:aw)))] [] ?_)
     refine ab.step (v:=db y4) (ae.callS [0] (dy (⟨false,(nth a0.productions v0_0).left⟩:aw) a0 _ hy4) rfl rfl ⟨⟨rfl,rfl,trivial⟩,rfl,trivial⟩ (by decide) rfl rfl ⟨⟨rfl,rfl⟩,trivial⟩) rfl rfl rfl ?_
     refine ab.ev0n [0,2,0,0,0,0] [(26,db true)] [⟨_,hc5⟩] ?_
     cases h
     exact ⟨_,(GStep.trans (GStep.keep [1,3,5,9,10,11,26]) (GStep.ren [0,1,3,2] (by decide) rfl rfl)),rfl,rfl⟩
    refine ao h fun y6 hy6 h=>?_
    refine aa.region (ab.ev0 [0,0,0,0] [(16,.clo 152 [] [.ptr 0 0]),(19,.agg (bW (⟨false,(nth a0.productions v0_0).left⟩:aw)))] [] ?_)
    refine ab.step (v:=db y4) (ae.callS [0] (dy (⟨false,(nth a0.productions v0_0).left⟩:aw) a0 _ hy4) rfl rfl ⟨⟨rfl,rfl,trivial⟩,rfl,trivial⟩ (by decide) rfl rfl ⟨⟨rfl,rfl⟩,trivial⟩) rfl rfl rfl ?_
    refine ab.ev0 [0,3,3,3] [(21,db y4),(23,.d (af 2 ay ((nth a0.productions v0_0).right))),(24,.clo 152 [] [.ptr 0 0])] [⟨_,hc5⟩,⟨_,hc5⟩,⟨_,hc5⟩] ?_
    refine ab.gstep (v:=db y6) (ae.callS [0] (rM k ((nth a0.productions v0_0).right) a0 _ hy6) rfl rfl ⟨rfl,rfl,trivial⟩ (by decide) rfl rfl ⟨⟨rfl,rfl⟩,trivial⟩) rfl rfl rfl hc5 rfl rfl ?_
    refine ab.ev0n [20] [(26,db y6)] [⟨_,hc5⟩] ?_
    cases h
    exact ⟨_,(GStep.trans (GStep.keep [1,3,5,9,10,11,26]) (GStep.ren [0,1,3,2] (by decide) rfl rfl)),rfl,rfl⟩
   rintro e s' hq
   obtain ⟨rfl,rfl⟩:=hq
   refine aa.condI h rfl (fun hc9 h=>?_) (fun hc9 h=>?_)
   ·
    refine aa.sr (ab.ev0n [0] [(2,di 50)] [] ?_)
    refine aa.ret ?_
    cases h
    exact ⟨_,(GStep.trans (GStep.keep [2]) (GStep.ren [] (by decide) rfl rfl)),rfl,Fin.mk2 (aB.one (.tmp rfl)) [] (by decide) rfl rfl rfl rfl⟩
   refine aa.skip ?_
   refine aa.seq ?_
   refine ao h fun x18 ho17 h=>?_
   refine aa.cut (Q':=fun e s'=>e = .normal∧s'=⟨[(1,.ptr 0 0),(3,.clo 198 [] [.ptr 1 0]),(9,.d (af 13 aq a0.productions)),(10,di (a0.productions.length:Int)),(11,di v0_0),(55,db x18.1)],[.live (.var (ah a0)),.live (.var [.mp 2]),.live (.mp (aI D.str D.bool x18.2))]⟩) ?_ ?_
   ·
    have h:=ho17
    refine ao h fun y10 hy10 h=>?_
    refine au h (fun hc11 h=>?_) (fun hc11 h=>?_)
    ·
     refine aa.region (ab.ev0 [0,0,0] [(27,.clo 198 [] [.ptr 1 0]),(29,.d (.str x8.2.name))] [] ?_)
     refine ab.step (v:=db y10.1) (ae.callS [1,3] (bm x8.2.name v0_1 _ hy10) rfl rfl ⟨rfl,rfl,trivial⟩ (by decide) rfl rfl ⟨⟨rfl,rfl⟩,⟨rfl,rfl⟩,trivial⟩) rfl rfl rfl ?_
     refine ab.hp (h':=[.live (.var (ah a0)),.live (.var [.mp 3]),.live (.var (az x8.2)),.live (.mp (aI D.str D.bool y10.2))]) (by kernel_rfl) ?_
     refine ab.ev0n [0,0,2,0,0,0,0,0,0,0,0,0,0,0,0,0,0,0,0,0,0,0,0,0,0] [(55,db true)] [⟨_,hc11⟩] ?_
     cases h
     exact ⟨_,(GStep.trans (GStep.keep [1,3,9,10,11,55]) (GStep.ren [0,1,3] (by decide) rfl rfl)),rfl,rfl⟩
    refine ao h fun y12 hy12 h=>?_
    refine au h (fun hc13 h=>?_) (fun hc13 h=>?_)
    ·
     refine aa.region (ab.ev0 [0,0,0] [(27,.clo 198 [] [.ptr 1 0]),(29,.d (.str x8.2.name))] [] ?_)
     refine ab.step (v:=db y10.1) (ae.callS [1,3] (bm x8.2.name v0_1 _ hy10) rfl rfl ⟨rfl,rfl,trivial⟩ (by decide) rfl rfl ⟨⟨rfl,rfl⟩,⟨rfl,rfl⟩,trivial⟩) rfl rfl rfl ?_
     refine ab.hp (h':=[.live (.var (ah a0)),.live (.var [.mp 3]),.live (.var (az x8.2)),.live (.mp (aI D.str D.bool y10.2))]) (by kernel_rfl) ?_
     refine ab.ev0 [0,0,3,3,3,3,3] [(32,db (!y10.1)),(34,.agg (an x8.2.ifF)),(37,di (a0.conditions.length:Int))] [⟨_,hc11⟩,⟨_,hc11⟩,⟨_,hc11⟩,⟨_,hc11⟩,⟨_,hc11⟩] ?_
     refine ab.gstep (v:=db y12) (ae.callS [] (cu k x8.2.ifF (a0.conditions.length:Int) _ hy12) rfl rfl ⟨⟨rfl,rfl,trivial⟩,rfl,trivial⟩ (by decide) rfl rfl trivial) rfl rfl rfl hc11 rfl rfl ?_
     refine ab.ev0n [3,20,0,2,0,0,0,0,0,0,0,0,0,0,0,0,0] [(55,db true)] [⟨_,hc11⟩,⟨_,hc11⟩,⟨_,hc13⟩] ?_
     cases h
     exact ⟨_,(GStep.trans (GStep.keep [1,3,9,10,11,55]) (GStep.ren [0,1,3] (by decide) rfl rfl)),rfl,rfl⟩
    refine au h (fun hc14 h=>?_) (fun hc14 h=>?_)
    ·
     refine aa.region (ab.ev0 [0,0,0] [(27,.clo 198 [] [.ptr 1 0]),(29,.d (.str x8.2.name))] [] ?_)
     refine ab.step (v:=db y10.1) (ae.callS [1,3] (bm x8.2.name v0_1 _ hy10) rfl rfl ⟨rfl,rfl,trivial⟩ (by decide) rfl rfl ⟨⟨rfl,rfl⟩,⟨rfl,rfl⟩,trivial⟩) rfl rfl rfl ?_
     refine ab.hp (h':=[.live (.var (ah a0)),.live (.var [.mp 3]),.live (.var (az x8.2)),.live (.mp (aI D.str D.bool y10.2))]) (by kernel_rfl) ?_
     refine ab.ev0 [0,0,3,3,3,3,3] [(32,db (!y10.1)),(34,.agg (an x8.2.ifF)),(37,di (a0.conditions.length:Int))] [⟨_,hc11⟩,⟨_,hc11⟩,⟨_,hc11⟩,⟨_,hc11⟩,⟨_,hc11⟩] ?_
     refine ab.gstep (v:=db y12) (ae.callS [] (cu k x8.2.ifF (a0.conditions.length:Int) _ hy12) rfl rfl ⟨⟨rfl,rfl,trivial⟩,rfl,trivial⟩ (by decide) rfl rfl trivial) rfl rfl rfl hc11 rfl rfl ?_
     refine ab.ev0n [3,20,0,1,0,0,0,0,2,0,0,0,0,0,0,0,0] [(55,db true)] [⟨_,hc11⟩,⟨_,hc11⟩,⟨_,hc13⟩,⟨_,hc14⟩] ?_
     cases h
     exact ⟨_,(GStep.trans (GStep.keep [1,3,9,10,11,55]) (GStep.ren [0,1,3] (by decide) rfl rfl)),rfl,rfl⟩
    refine au h (fun hc15 h=>?_) (fun hc15 h=>?_)
    ·
     refine aa.region (ab.ev0 [0,0,0] [(27,.clo 198 [] [.ptr 1 0]),(29,.d (.str x8.2.name))] [] ?_)
     refine ab.step (v:=db y10.1) (ae.callS [1,3] (bm x8.2.name v0_1 _ hy10) rfl rfl ⟨rfl,rfl,trivial⟩ (by decide) rfl rfl ⟨⟨rfl,rfl⟩,⟨rfl,rfl⟩,trivial⟩) rfl rfl rfl ?_
     refine ab.hp (h':=[.live (.var (ah a0)),.live (.var [.mp 3]),.live (.var (az x8.2)),.live (.mp (aI D.str D.bool y10.2))]) (by kernel_rfl) ?_
     refine ab.ev0 [0,0,3,3,3,3,3] [(32,db (!y10.1)),(34,.agg (an x8.2.ifF)),(37,di (a0.conditions.length:Int))] [⟨_,hc11⟩,⟨_,hc11⟩,⟨_,hc11⟩,⟨_,hc11⟩,⟨_,hc11⟩] ?_
     refine ab.gstep (v:=db y12) (ae.callS [] (cu k x8.2.ifF (a0.conditions.length:Int) _ hy12) rfl rfl ⟨⟨rfl,rfl,trivial⟩,rfl,trivial⟩ (by decide) rfl rfl trivial) rfl rfl rfl hc11 rfl rfl ?_
     refine ab.ev0n [3,20,0,1,0,0,0,0,1,0,0,0,0,2,0,0,0] [(55,db true)] [⟨_,hc11⟩,⟨_,hc11⟩,⟨_,hc13⟩,⟨_,hc14⟩,⟨_,hc15⟩] ?_
     cases h
     exact ⟨_,(GStep.trans (GStep.keep [1,3,9,10,11,55]) (GStep.ren [0,1,3] (by decide) rfl rfl)),rfl,rfl⟩
    refine ao h fun y16 hy16 h=>?_
    refine aa.region (ab.ev0 [0,0,0] [(27,.clo 198 [] [.ptr 1 0]),(29,.d (.str x8.2.name))] [] ?_)
    refine ab.step (v:=db y10.1) (ae.callS [1,3] (bm x8.2.name v0_1 _ hy10) rfl rfl ⟨rfl,rfl,trivial⟩ (by decide) rfl rfl ⟨⟨rfl,rfl⟩,⟨rfl,rfl⟩,trivial⟩) rfl rfl rfl ?_
    refine ab.hp (h':=[.live (.var (ah a0)),.live (.var [.mp 3]),.live (.var (az x8.2)),.live (.mp (aI D.str D.bool y10.2))]) (by kernel_rfl) ?_
    refine ab.ev0 [0,0,3,3,3,3,3] [(32,db (!y10.1)),(34,.agg (an x8.2.ifF)),(37,di (a0.conditions.length:Int))] [⟨_,hc11⟩,⟨_,hc11⟩,⟨_,hc11⟩,⟨_,hc11⟩,⟨_,hc11⟩] ?_
    refine ab.gstep (v:=db y12) (ae.callS [] (cu k x8.2.ifF (a0.conditions.length:Int) _ hy12) rfl rfl ⟨⟨rfl,rfl,trivial⟩,rfl,trivial⟩ (by decide) rfl rfl trivial) rfl rfl rfl hc11 rfl rfl ?_
    refine ab.ev0 [3,20,0,1,0,0,0,0,1,0,0,0,0,3] [(51,db (decide (x8.2.rank > 1))),(52,.agg (az x8.2))] [⟨_,hc11⟩,⟨_,hc11⟩,⟨_,hc13⟩,⟨_,hc14⟩,⟨_,hc15⟩] ?_
    refine ab.gstep (v:=db y16) (ae.callS [] (mW k x8.2 _ hy16) rfl rfl ⟨⟨rfl,rfl,rfl,rfl,rfl,rfl,rfl,rfl,rfl,rfl,rfl,rfl,rfl,trivial⟩,trivial⟩ (by decide) rfl rfl trivial) rfl rfl rfl hc15 rfl rfl ?_
    refine ab.ev0n [3,20] [(55,db (!y16))] [⟨_,hc15⟩,⟨_,hc15⟩] ?_
    cases h
    exact ⟨_,(GStep.trans (GStep.keep [1,3,9,10,11,55]) (GStep.ren [0,1,3] (by decide) rfl rfl)),rfl,rfl⟩
   rintro e s' hq
   obtain ⟨rfl,rfl⟩:=hq
   refine aa.condI h rfl (fun hc19 h=>?_) (fun hc19 h=>?_)
   ·
    refine aa.sr (ab.ev0n [0] [(2,di 52)] [] ?_)
    refine aa.ret ?_
    cases h
    exact ⟨_,(GStep.trans (GStep.keep [2]) (GStep.ren [] (by decide) rfl rfl)),rfl,Fin.mk2 (aB.one (.tmp rfl)) [] (by decide) rfl rfl rfl rfl⟩
   refine aa.skip ?_
   refine aa.region (ab.ev0n [0,0] [(11,di (IntKind.wrap .i64 (v0_0+1)))] [] ?_)
   exact aM.ghost (GStep.keep [1,3,9,10,11]) (ih ((IntKind.wrap .i64 (v0_0+1)),x18.2) h)
  refine aa.exit ?_
  cases h
  exact ⟨_,(GStep.trans (GStep.keep []) (GStep.ren [] (by decide) rfl rfl)),rfl,rfl⟩
 rcases o22 with r20 | x21
 ·
  rintro e s' hq
  obtain ⟨rfl,hq⟩:=hq
  cases h
  exact ⟨_,GStep.refl _ _,.inr rfl,hq⟩
 rintro e s' hq
 obtain ⟨rfl,rfl⟩:=hq
 refine aa.sr (ab.ev0n [0] [(2,di 0)] [] ?_)
 refine aa.ret ?_
 cases h
 exact ⟨_,(GStep.keep [2]),.inr rfl,Fin.mk2 (aB.one (.tmp rfl)) [] (by decide) rfl rfl rfl rfl⟩
noncomputable def bf (k:Nat)(a0:am)(v0_0:Int)(v0_1:List (Int×Bool))(x7:Bool×aN)(v:Int×(List (Int×Bool))):Option (Int⊕(List (Int×Bool))):=match k,v with
  | 0,_=>none
  | k+1,(v1_0,v1_1)=>(if (decide (v1_0 < (x7.2.productions.length:Int)))=true then (if (0:Int)≤v1_0∧v1_0 < (x7.2.productions.length:Int) then (((if (decide ((nth x7.2.productions v1_0) < 0))=true then some ((nth x7.2.productions v1_0),true) else (if (decide ((nth x7.2.productions v1_0)≥(a0.productions.length:Int)))=true then some ((nth x7.2.productions v1_0),true) else some ((nth x7.2.productions v1_0),((bu v1_1 (nth x7.2.productions v1_0)).getD false)))):Option (Int×Bool)).bind fun x14=>(if x14.2=true then some (.inl 53) else (bf k a0 v0_0 v0_1 x7 ((IntKind.wrap .i64 (v1_0+1)),(aP v1_1 x14.1 true))))) else none) else some (.inr v1_1))
theorem ct:type_of% (@bf.eq_2):=@bf.eq_2
noncomputable def be (k:Nat)(a0:am)(v:Int×(List (Int×Bool))):Option (Int⊕Unit):=match k,v with
  | 0,_=>none
  | k+1,(v0_0,v0_1)=>(if (decide (v0_0 < (a0.levels.length:Int)))=true then (if (0:Int)≤v0_0∧v0_0 < (a0.levels.length:Int) then (((if (decide ((nth a0.levels v0_0).assoc < 0))=true then some (true,(nth a0.levels v0_0)) else (if (decide ((nth a0.levels v0_0).assoc > 3))=true then some (true,(nth a0.levels v0_0)) else ((dg k ((nth a0.levels v0_0).ifF) (a0.conditions.length:Int)).bind fun y5=>some ((!y5),(nth a0.levels v0_0))))):Option (Bool×aN)).bind fun x7=>(if x7.1=true then some (.inl 53) else (((bf k a0 v0_0 v0_1 x7 (0,v0_1)):Option (Int⊕(List (Int×Bool)))).bind fun o18=>match o18 with | .inl r16=>(some (.inl r16)) | .inr x17=>(be k a0 ((IntKind.wrap .i64 (v0_0+1)),x17))))) else none) else some (.inr ()))
theorem cr:type_of% (@be.eq_2):=@be.eq_2
noncomputable def bN (k:Nat)(a0:am):Option Int:=(((be k a0 (0,([]:List (Int×Bool)))):Option (Int⊕Unit)).bind fun o21=>match o21 with | .inl r19=>(some r19) | .inr x20=>(some 0))
set_option maxRecDepth 100000 in
set_option maxHeartbeats 4000000 in
theorem kN (k:Nat)(a0:am)(r:Int)(h:bN k a0=some r):SC P 79 [.agg (ah a0)] [] (di r) []:=by
 unfold bN at h
 refine SC.intro3 (N:=58) Tryz.func79 rfl rfl Tryz.ntmps79 rfl ?_
 refine aa.sr (ab.evn (h':=[.live (.var (ah a0))]) [0,0] [(1,.ptr 0 0)] [] ?_)
 refine aa.sr ?_
 refine ab.step (v:=.mp 1) (ae.makeMap rfl) rfl rfl rfl ?_
 refine ab.hp (h':=[.live (.var (ah a0)),.live (.mp (aI (kI .i64) D.bool ([]:List (Int×Bool))))]) (by kernel_rfl) ?_
 refine ab.ev0n [0] [(3,.mp 1)] [] ?_
 refine aa.seq ?_
 refine aa.sr (ab.ev0n [0,0,0,0] [(10,.d (af 4 aH a0.levels)),(11,di (a0.levels.length:Int)),(12,di 0)] [] ?_)
 refine aa.block ?_
 refine ao h fun o21 ho21 h=>?_
 refine aa.cut (Q':=fun e s'=>match o21 with | .inl r19=>((e = .ret)∧Fin P (Tryz.f79.results) 0 [] (di r19) s') | .inr x20=>(e = .exit 0∧s'=⟨[],[]⟩)) ?_ ?_
 ·
  have h:=ho21
  refine aa.ghost (GStep.keep [1,3,10,11,12]) ?_
  refine aa.loopI (F:=fun k v=>be k a0 v) (fun v=>⟨[(1,.ptr 0 0),(3,.mp 1),(10,.d (af 4 aH a0.levels)),(11,di (a0.levels.length:Int)),(12,di v.1)],[.live (.var (ah a0)),.live (.mp (aI (kI .i64) D.bool v.2))]⟩) (k:=k) (v:=(0,([]:List (Int×Bool)))) h rfl (fun _=>rfl) ?_
  intro k v ih h
  obtain ⟨v0_0,v0_1⟩:=v
  have h:=(cr ..).symm.trans h
  refine aa.sr (ab.ev0n [0] [(13,db (decide (v0_0 < (a0.levels.length:Int))))] [] ?_)
  refine aa.seq ?_
  refine aa.condI h rfl (fun hc1 h=>?_) (fun hc1 h=>?_)
  ·
   refine aa.skip ?_
   refine aa.seq ?_
   refine aa.block ?_
   refine aa.seq ?_
   refine aD h fun hb2 h=>?_
   refine aa.region (ab.evn (h':=[.live (.var (ah a0)),.live (.mp (aI (kI .i64) D.bool v0_1)),.live (.var (lE (nth a0.levels v0_0)))]) [0,0,0,0] [(5,.ptr 2 0)] [⟨_,hb2.1⟩,⟨_,hb2.2⟩] ?_)
   refine aa.seq ?_
   refine aa.seq ?_
   refine ao h fun x7 ho6 h=>?_
   refine aa.cut (Q':=fun e s'=>e = .normal∧s'=⟨[(1,.ptr 0 0),(3,.mp 1),(5,.ptr 2 0),(10,.d (af 4 aH a0.levels)),(11,di (a0.levels.length:Int)),(12,di v0_0),(32,db x7.1)],[.live (.var (ah a0)),.live (.mp (aI (kI .i64) D.bool v0_1)),.live (.var (lE x7.2))]⟩) ?_ ?_
   ·
    have h:=ho6
    refine au h (fun hc3 h=>?_) (fun hc3 h=>?_)
    ·
     refine aa.region (ab.ev0n [0,0,0,0,2,0,0,0,0,0,0,0,0,0,0,0,0] [(32,db true)] [⟨_,hc3⟩] ?_)
     cases h
     exact ⟨_,(GStep.keep [1,3,5,10,11,12,32]),rfl,rfl⟩
    refine au h (fun hc4 h=>?_) (fun hc4 h=>?_)
    ·
     refine aa.region (ab.ev0n [0,0,0,0,1,0,0,0,0,2,0,0,0,0,0,0,0] [(32,db true)] [⟨_,hc3⟩,⟨_,hc4⟩] ?_)
     cases h
     exact ⟨_,(GStep.keep [1,3,5,10,11,12,32]),rfl,rfl⟩
    refine ao h fun y5 hy5 h=>?_
    refine aa.region (ab.ev0 [0,0,0,0,1,0,0,0,0,3,3,3,3,3] [(24,db (decide ((nth a0.levels v0_0).assoc > 3))),(26,.agg (an ((nth a0.levels v0_0).ifF))),(29,di (a0.conditions.length:Int))] [⟨_,hc3⟩,⟨_,hc4⟩,⟨_,hc4⟩,⟨_,hc4⟩,⟨_,hc4⟩,⟨_,hc4⟩] ?_)
    refine ab.gstep (v:=db y5) (ae.callS [] (cu k ((nth a0.levels v0_0).ifF) (a0.conditions.length:Int) _ hy5) rfl rfl ⟨⟨rfl,rfl,trivial⟩,rfl,trivial⟩ (by decide) rfl rfl trivial) rfl rfl rfl hc4 rfl rfl ?_
    refine ab.ev0n [3,20] [(32,db (!y5))] [⟨_,hc4⟩,⟨_,hc4⟩] ?_
    cases h
    exact ⟨_,(GStep.keep [1,3,5,10,11,12,32]),rfl,rfl⟩
   rintro e s' hq
   obtain ⟨rfl,rfl⟩:=hq
   refine aa.condI h rfl (fun hc8 h=>?_) (fun hc8 h=>?_)
   ·
    refine aa.sr (ab.ev0n [0] [(2,di 53)] [] ?_)
    refine aa.ret ?_
    cases h
    exact ⟨_,(GStep.trans (GStep.keep [2]) (GStep.ren [] (by decide) rfl rfl)),rfl,Fin.mk2 (aB.one (.tmp rfl)) [] (by decide) rfl rfl rfl rfl⟩
   refine aa.skip ?_
   refine aa.sr (ab.ev0n [0,0,0,0] [(34,.d (af 1 (eI .i64) x7.2.productions)),(35,di (x7.2.productions.length:Int)),(36,di 0)] [] ?_)
   refine aa.block ?_
   refine ao h fun o18 ho18 h=>?_
   refine aa.cut (Q':=fun e s'=>match o18 with | .inl r16=>((e = .ret)∧Fin P (Tryz.f79.results) 0 [] (di r16) s') | .inr x17=>(e = .exit 2∧s'=⟨[(1,.ptr 0 0),(3,.mp 1),(10,.d (af 4 aH a0.levels)),(11,di (a0.levels.length:Int)),(12,di v0_0)],[.live (.var (ah a0)),.live (.mp (aI (kI .i64) D.bool x17))]⟩)) ?_ ?_
   ·
    have h:=ho18
    refine aa.ghost (GStep.trans (GStep.keep [1,3,10,11,12,34,35,36]) (GStep.ren [0,1] (by decide) rfl rfl)) ?_
    refine aa.loopI (F:=fun k v=>bf k a0 v0_0 v0_1 x7 v) (fun v=>⟨[(1,.ptr 0 0),(3,.mp 1),(10,.d (af 4 aH a0.levels)),(11,di (a0.levels.length:Int)),(12,di v0_0),(34,.d (af 1 (eI .i64) x7.2.productions)),(35,di (x7.2.productions.length:Int)),(36,di v.1)],[.live (.var (ah a0)),.live (.mp (aI (kI .i64) D.bool v.2))]⟩) (k:=k) (v:=(0,v0_1)) h rfl (fun _=>rfl) ?_
    intro k v ih h
    obtain ⟨v1_0,v1_1⟩:=v
    have h:=(ct ..).symm.trans h
    refine aa.sr (ab.ev0n [0] [(37,db (decide (v1_0 < (x7.2.productions.length:Int))))] [] ?_)
    refine aa.seq ?_
    refine aa.condI h rfl (fun hc9 h=>?_) (fun hc9 h=>?_)
    ·
     refine aa.skip ?_
     refine aa.seq ?_
     refine aa.block ?_
     refine aa.seq ?_
     refine aD h fun hb10 h=>?_
     refine aa.region (ab.ev0n [0,0,0] [(7,di (nth x7.2.productions v1_0))] [⟨_,hb10.1⟩,⟨_,hb10.2⟩] ?_)
     refine aa.seq ?_
     refine aa.seq ?_
     refine ao h fun x14 ho13 h=>?_
     refine aa.cut (Q':=fun e s'=>e = .normal∧s'=⟨[(1,.ptr 0 0),(3,.mp 1),(7,di x14.1),(10,.d (af 4 aH a0.levels)),(11,di (a0.levels.length:Int)),(12,di v0_0),(34,.d (af 1 (eI .i64) x7.2.productions)),(35,di (x7.2.productions.length:Int)),(36,di v1_0),(53,db x14.2)],[.live (.var (ah a0)),.live (.mp (aI (kI .i64) D.bool v1_1))]⟩) ?_ ?_
     ·
      have h:=ho13
      refine au h (fun hc11 h=>?_) (fun hc11 h=>?_)
      ·
       refine aa.region (ab.ev0n [0,0,0,2,0,0,0,0,0,0,0,0,0,0] [(53,db true)] [⟨_,hc11⟩] ?_)
       cases h
       exact ⟨_,(GStep.keep [1,3,7,10,11,12,34,35,36,53]),rfl,rfl⟩
      refine au h (fun hc12 h=>?_) (fun hc12 h=>?_)
      ·
       refine aa.region (ab.ev0n [0,0,0,1,0,0,0,0,0,0,2,0,0,0] [(53,db true)] [⟨_,hc11⟩,⟨_,hc12⟩] ?_)
       cases h
       exact ⟨_,(GStep.keep [1,3,7,10,11,12,34,35,36,53]),rfl,rfl⟩
      refine aa.region (ab.ev0 [0,0,0,1,0,0,0,0,0,0,3,3] [(49,db (decide ((nth x7.2.productions v1_0)≥(a0.productions.length:Int)))),(50,.mp 1),(51,di (nth x7.2.productions v1_0))] [⟨_,hc11⟩,⟨_,hc12⟩,⟨_,hc12⟩] ?_)
      refine ab.gstep (v:=db ((bu v1_1 (nth x7.2.productions v1_0)).getD false)) (ae.lookupT kR v1_1 (nth x7.2.productions v1_0) false rfl rfl rfl rfl wz yj) rfl rfl rfl hc12 rfl rfl ?_
      refine ab.ev0n [20] [(53,db ((bu v1_1 (nth x7.2.productions v1_0)).getD false))] [⟨_,hc12⟩] ?_
      cases h
      exact ⟨_,(GStep.keep [1,3,7,10,11,12,34,35,36,53]),rfl,rfl⟩
     rintro e s' hq
     obtain ⟨rfl,rfl⟩:=hq
     refine aa.condI h rfl (fun hc15 h=>?_) (fun hc15 h=>?_)
     ·
      refine aa.sr (ab.ev0n [0] [(2,di 53)] [] ?_)
      refine aa.ret ?_
      cases h
      exact ⟨_,(GStep.trans (GStep.keep [2]) (GStep.ren [] (by decide) rfl rfl)),rfl,Fin.mk2 (aB.one (.tmp rfl)) [] (by decide) rfl rfl rfl rfl⟩
     refine aa.skip ?_
     refine aa.region (ab.ev0 [0,0] [(54,.mp 1),(55,di x14.1)] [] ?_)
     refine ab.step0 (ae.updT kR v1_1 x14.1 true (.inl rfl) rfl rfl rfl rfl wz) rfl rfl ?_
     refine ab.hp (h':=[.live (.var (ah a0)),.live (.mp (aI (kI .i64) D.bool (aP v1_1 x14.1 true)))]) (by kernel_rfl) ?_
     refine ab.nil ?_
     refine aa.region (ab.ev0n [0,0] [(36,di (IntKind.wrap .i64 (v1_0+1)))] [] ?_)
     exact aM.ghost (GStep.keep [1,3,10,11,12,34,35,36]) (ih ((IntKind.wrap .i64 (v1_0+1)),(aP v1_1 x14.1 true)) h)
    refine aa.exit ?_
    cases h
    exact ⟨_,(GStep.keep [1,3,10,11,12]),rfl,rfl⟩
   rcases o18 with r16 | x17
   ·
    rintro e s' hq
    obtain ⟨rfl,hq⟩:=hq
    cases h
    exact ⟨_,GStep.refl _ _,rfl,hq⟩
   rintro e s' hq
   obtain ⟨rfl,rfl⟩:=hq
   refine aa.region (ab.ev0n [0,0] [(12,di (IntKind.wrap .i64 (v0_0+1)))] [] ?_)
   exact aM.ghost (GStep.keep [1,3,10,11,12]) (ih ((IntKind.wrap .i64 (v0_0+1)),x17) h)
  refine aa.exit ?_
  cases h
  exact ⟨_,(GStep.trans (GStep.keep []) (GStep.ren [] (by decide) rfl rfl)),rfl,rfl⟩
 rcases o21 with r19 | x20
 ·
  rintro e s' hq
  obtain ⟨rfl,hq⟩:=hq
  cases h
  exact ⟨_,GStep.refl _ _,.inr rfl,hq⟩
 rintro e s' hq
 obtain ⟨rfl,rfl⟩:=hq
 refine aa.sr (ab.ev0n [0] [(2,di 0)] [] ?_)
 refine aa.ret ?_
 cases h
 exact ⟨_,(GStep.keep [2]),.inr rfl,Fin.mk2 (aB.one (.tmp rfl)) [] (by decide) rfl rfl rfl rfl⟩
noncomputable def gb (a0:am)(a1:aA):Option Bool:=(((if (decide (a1.parent < 0))=true then some true else (if (decide (a1.parent≥(a0.productions.length:Int)))=true then some true else (if (decide (a1.child < 0))=true then some true else some (decide (a1.child≥(a0.productions.length:Int)))))):Option Bool).bind fun x5=>(if x5=true then some false else (if (0:Int)≤a1.parent∧a1.parent < (a0.productions.length:Int) then (((if (decide (a1.atF≥0))=true then (if (decide (a1.atF < (((nth a0.productions a1.parent).right).length:Int)))=true then (if (0:Int)≤a1.atF∧a1.atF < (((nth a0.productions a1.parent).right).length:Int) then (if (0:Int)≤a1.child∧a1.child < (a0.productions.length:Int) then some (((nth ((nth a0.productions a1.parent).right) a1.atF).token == false)&&(decide ((nth ((nth a0.productions a1.parent).right) a1.atF).index=(nth a0.productions a1.child).left))) else none) else none) else some false) else some false):Option Bool).bind fun x16=>some x16) else none)))
set_option maxRecDepth 100000 in
set_option maxHeartbeats 4000000 in
theorem pw (a0:am)(a1:aA)(r:Bool)(h:gb a0 a1=some r):SC P 158 [.agg (ah a0),.agg (aW a1)] [] (db r) []:=by
 unfold gb at h
 refine SC.intro3 (N:=63) Tryz.func158 rfl rfl Tryz.ntmps158 rfl ?_
 refine aa.sr (ab.evn (h':=[.live (.var (ah a0)),.live (.var (aW a1))]) [0,0,0] [(2,.ptr 0 0),(3,.ptr 1 0)] [] ?_)
 refine aa.seq ?_
 refine aa.seq ?_
 refine ao h fun x5 ho4 h=>?_
 refine aa.cut (Q':=fun e s'=>e = .normal∧s'=⟨[(2,.ptr 0 0),(3,.ptr 1 0),(29,db x5)],[.live (.var (ah a0)),.live (.var (aW a1))]⟩) ?_ ?_
 ·
  have h:=ho4
  refine au h (fun hc1 h=>?_) (fun hc1 h=>?_)
  ·
   refine aa.region (ab.ev0n [0,0,0,0,2,0,0,0,0,0,0,0,0,0,0,0,0,0,0,0,0,0,0,0] [(29,db true)] [⟨_,hc1⟩] ?_)
   cases h
   exact ⟨_,(GStep.keep [2,3,29]),rfl,rfl⟩
  refine au h (fun hc2 h=>?_) (fun hc2 h=>?_)
  ·
   refine aa.region (ab.ev0n [0,0,0,0,1,0,0,0,0,0,0,0,2,0,0,0,0,0,0,0,0,0,0,0] [(29,db true)] [⟨_,hc1⟩,⟨_,hc2⟩] ?_)
   cases h
   exact ⟨_,(GStep.keep [2,3,29]),rfl,rfl⟩
  refine au h (fun hc3 h=>?_) (fun hc3 h=>?_)
  ·
   refine aa.region (ab.ev0n [0,0,0,0,1,0,0,0,0,0,0,0,1,0,0,0,0,2,0,0,0,0,0,0] [(29,db true)] [⟨_,hc1⟩,⟨_,hc2⟩,⟨_,hc3⟩] ?_)
   cases h
   exact ⟨_,(GStep.keep [2,3,29]),rfl,rfl⟩
  refine aa.region (ab.ev0n [0,0,0,0,1,0,0,0,0,0,0,0,1,0,0,0,0,1,0,0,0,0,0,0] [(29,db (decide (a1.child≥(a0.productions.length:Int))))] [⟨_,hc1⟩,⟨_,hc2⟩,⟨_,hc3⟩] ?_)
  cases h
  exact ⟨_,(GStep.keep [2,3,29]),rfl,rfl⟩
 rintro e s' hq
 obtain ⟨rfl,rfl⟩:=hq
 refine aa.condI h rfl (fun hc6 h=>?_) (fun hc6 h=>?_)
 ·
  refine aa.sr (ab.ev0n [0] [(4,db false)] [] ?_)
  refine aa.ret ?_
  cases h
  exact ⟨_,(GStep.trans (GStep.keep [4]) (GStep.ren [] (by decide) rfl rfl)),.inr rfl,Fin.mk2 (aB.one (.tmp rfl)) [] (by decide) rfl rfl rfl rfl⟩
 refine aa.skip ?_
 refine aa.seq ?_
 refine aD h fun hb7 h=>?_
 refine aa.region (ab.ev0n [0,0,0,0,0,0,0,0] [(5,.d (af 2 ay ((nth a0.productions a1.parent).right)))] [⟨_,hb7.1⟩,⟨_,hb7.2⟩] ?_)
 refine aa.seq ?_
 refine ao h fun x16 ho15 h=>?_
 refine aa.cut (Q':=fun e s'=>e = .normal∧s'=⟨[(4,db x16)],[]⟩) ?_ ?_
 ·
  have h:=ho15
  refine au h (fun hc8 h=>?_) (fun hc8 h=>?_)
  ·
   refine au h (fun hc9 h=>?_) (fun hc9 h=>?_)
   ·
    refine aD h fun hb10 h=>?_
    refine aD h fun hb11 h=>?_
    refine aa.regionAny mixed (s':=?s12) (qs:=[⟨[3],[],[],[1],[]⟩,⟨[37],[1],[],[],[]⟩,⟨[38],[],[],[],[]⟩,⟨[39],[],[],[],[]⟩,⟨[3,40],[],[],[1],[]⟩,⟨[40,41],[1],[],[],[]⟩,⟨[5,40],[],[],[],[]⟩,⟨[40,43],[],[],[],[]⟩,⟨[40,42,44],[],[],[],[]⟩,⟨[40,45],[],[],[],[]⟩,⟨[46],[],[],[],[]⟩,⟨[5,47],[],[],[],[]⟩,⟨[3,47],[],[],[1],[]⟩,⟨[47,49],[1],[],[],[]⟩,⟨[47,48,50],[],[],[],[]⟩,⟨[47,51],[],[],[],[]⟩,⟨[2,47],[],[],[0],[]⟩,⟨[47,53],[0],[],[],[]⟩,⟨[3,47],[],[],[1],[]⟩,⟨[47,55],[1],[],[],[]⟩,⟨[47,54,56],[],[],[],[]⟩,⟨[47,57],[],[],[],[]⟩,⟨[47,58],[],[],[],[]⟩,⟨[47,59],[],[],[],[]⟩,⟨[47,52,60],[],[],[],[]⟩,⟨[47,61],[],[],[],[]⟩,⟨[62],[],[],[],[]⟩]) ?_ (by kernel_rfl) ?_
    rotate_left
    ·
     refine Steps.runQ [3] [] [1] (v:=.ptr 1 2) (ae.fieldAddr (id:=1) (off:=0) (fo:=2) rfl rfl eJ rfl rfl) rfl (by kernel_rfl) (by kernel_rfl) ?_
     refine Steps.runQ [37] [1] [] (v:=di a1.atF) (ae.load rfl rfl aX rfl rfl) rfl (by kernel_rfl) (by kernel_rfl) ?_
     refine Steps.runQ [38] [] [] (v:=db (decide (a1.atF≥0))) (ae.geqI (k:=.i64) (m:=a1.atF) (n:=0) rfl rfl rfl) rfl (by kernel_rfl) (by kernel_rfl) ?_
     refine Steps.runQ [39] [] [] (v:=db (decide (a1.atF≥0))) (ae.move rfl rfl) rfl (by kernel_rfl) (by kernel_rfl) ?_
     refine Steps.grunQ [3,40] [] [1] (v:=.ptr 1 2) (ae.fieldAddr (id:=1) (off:=0) (fo:=2) rfl rfl eJ rfl rfl) rfl rfl rfl hc8 (by kernel_rfl) (by kernel_rfl) (by kernel_rfl) ?_
     refine Steps.grunQ [40,41] [1] [] (v:=di a1.atF) (ae.load rfl rfl aX rfl rfl) rfl rfl rfl hc8 (by kernel_rfl) (by kernel_rfl) (by kernel_rfl) ?_
     refine Steps.grunQ [5,40] [] [] (v:=.d (af 2 ay ((nth a0.productions a1.parent).right))) (ae.move rfl rfl) rfl rfl rfl hc8 (by kernel_rfl) (by kernel_rfl) (by kernel_rfl) ?_
     refine Steps.grunQ [40,43] [] [] (v:=di (((nth a0.productions a1.parent).right).length:Int)) (ae.len rfl rfl bL) rfl rfl rfl hc8 (by kernel_rfl) (by kernel_rfl) (by kernel_rfl) ?_
     refine Steps.grunQ [40,42,44] [] [] (v:=db (decide (a1.atF < (((nth a0.productions a1.parent).right).length:Int)))) (ae.lssI (k:=.i64) (m:=a1.atF) (n:=(((nth a0.productions a1.parent).right).length:Int)) rfl rfl rfl) rfl rfl rfl hc8 (by kernel_rfl) (by kernel_rfl) (by kernel_rfl) ?_
     refine Steps.runQ [40,45] [] [] (v:=db (decide (a1.atF < (((nth a0.productions a1.parent).right).length:Int)))) (ae.pickT rfl rfl hc8 rfl) rfl (by kernel_rfl) (by kernel_rfl) ?_
     refine Steps.runQ [46] [] [] (v:=db (decide (a1.atF < (((nth a0.productions a1.parent).right).length:Int)))) (ae.move rfl rfl) rfl (by kernel_rfl) (by kernel_rfl) ?_
     refine Steps.grunQ [5,47] [] [] (v:=.d (af 2 ay ((nth a0.productions a1.parent).right))) (ae.move rfl rfl) rfl rfl rfl hc9 (by kernel_rfl) (by kernel_rfl) (by kernel_rfl) ?_
     refine Steps.grunQ [3,47] [] [1] (v:=.ptr 1 2) (ae.fieldAddr (id:=1) (off:=0) (fo:=2) rfl rfl eJ rfl rfl) rfl rfl rfl hc9 (by kernel_rfl) (by kernel_rfl) (by kernel_rfl) ?_
     refine Steps.grunQ [47,49] [1] [] (v:=di a1.atF) (ae.load rfl rfl aX rfl rfl) rfl rfl rfl hc9 (by kernel_rfl) (by kernel_rfl) (by kernel_rfl) ?_
     refine Steps.grunQ [47,48,50] [] [] (ae.index rfl rfl rfl bL hb10.1 hb10.2) rfl rfl rfl hc9 (by kernel_rfl) (by kernel_rfl) (by kernel_rfl) ?_
     refine Steps.grunQ [47,51] [] [] (ae.loadVA rfl rfl qk rfl) rfl rfl rfl hc9 (by kernel_rfl) (by kernel_rfl) (by kernel_rfl) ?_
     refine Steps.grunQ [2,47] [] [0] (v:=.ptr 0 5) (ae.fieldAddr (id:=0) (off:=0) (fo:=5) rfl rfl fm rfl rfl) rfl rfl rfl hc9 (by kernel_rfl) (by kernel_rfl) (by kernel_rfl) ?_
     refine Steps.grunQ [47,53] [0] [] (v:=.d (af 13 aq a0.productions)) (ae.load rfl rfl mj rfl rfl) rfl rfl rfl hc9 (by kernel_rfl) (by kernel_rfl) (by kernel_rfl) ?_
     refine Steps.grunQ [3,47] [] [1] (v:=.ptr 1 3) (ae.fieldAddr (id:=1) (off:=0) (fo:=3) rfl rfl eJ rfl rfl) rfl rfl rfl hc9 (by kernel_rfl) (by kernel_rfl) (by kernel_rfl) ?_
     refine Steps.grunQ [47,55] [1] [] (v:=di a1.child) (ae.load rfl rfl aX rfl rfl) rfl rfl rfl hc9 (by kernel_rfl) (by kernel_rfl) (by kernel_rfl) ?_
     refine Steps.grunQ [47,54,56] [] [] (ae.index rfl rfl rfl iA hb11.1 hb11.2) rfl rfl rfl hc9 (by kernel_rfl) (by kernel_rfl) (by kernel_rfl) ?_
     refine Steps.grunQ [47,57] [] [] (ae.fieldAddrV rfl rfl cz rfl rfl) rfl rfl rfl hc9 (by kernel_rfl) (by kernel_rfl) (by kernel_rfl) ?_
     refine Steps.grunQ [47,58] [] [] (ae.loadV rfl rfl aX rfl) rfl rfl rfl hc9 (by kernel_rfl) (by kernel_rfl) (by kernel_rfl) ?_
     refine Steps.grunQ [47,59] [] [] (v:=.agg (bW (⟨false,(nth a0.productions a1.child).left⟩:aw))) (ae.build rfl dA kD rfl) rfl rfl rfl hc9 (by kernel_rfl) (by kernel_rfl) (by kernel_rfl) ?_
     refine Steps.grunQ [47,52,60] [] [] (v:=db (((nth ((nth a0.productions a1.parent).right) a1.atF).token == false)&&(decide ((nth ((nth a0.productions a1.parent).right) a1.atF).index=(nth a0.productions a1.child).left)))) (ae.eqlA [.bool ((nth ((nth a0.productions a1.parent).right) a1.atF).token),.int .i64 ((nth ((nth a0.productions a1.parent).right) a1.atF).index)] [.bool false,.int .i64 ((nth a0.productions a1.child).left)] rfl rfl rfl vh rfl rfl) rfl rfl rfl hc9 (by kernel_rfl) (by kernel_rfl) (by kernel_rfl) ?_
     refine Steps.runQ [47,61] [] [] (v:=db (((nth ((nth a0.productions a1.parent).right) a1.atF).token == false)&&(decide ((nth ((nth a0.productions a1.parent).right) a1.atF).index=(nth a0.productions a1.child).left)))) (ae.pickT rfl rfl hc9 rfl) rfl (by kernel_rfl) (by kernel_rfl) ?_
     refine Steps.runQ [62] [] [] (v:=db (((nth ((nth a0.productions a1.parent).right) a1.atF).token == false)&&(decide ((nth ((nth a0.productions a1.parent).right) a1.atF).index=(nth a0.productions a1.child).left)))) (ae.assign rfl rfl) rfl (by kernel_rfl) (by kernel_rfl) ?_
     exact Steps.nil _
    cases h
    exact ⟨_,(GStep.trans (GStep.keep [4]) (GStep.ren [] (by decide) rfl rfl)),rfl,rfl⟩
   refine aa.regionAny mixed (s':=?s13) (qs:=[⟨[3],[],[],[1],[]⟩,⟨[37],[1],[],[],[]⟩,⟨[38],[],[],[],[]⟩,⟨[39],[],[],[],[]⟩,⟨[3,40],[],[],[1],[]⟩,⟨[40,41],[1],[],[],[]⟩,⟨[5,40],[],[],[],[]⟩,⟨[40,43],[],[],[],[]⟩,⟨[40,42,44],[],[],[],[]⟩,⟨[40,45],[],[],[],[]⟩,⟨[46],[],[],[],[]⟩,⟨[5,47],[],[],[],[]⟩,⟨[3,47],[],[],[],[]⟩,⟨[47,49],[],[],[],[]⟩,⟨[47,48,50],[],[],[],[]⟩,⟨[47,51],[],[],[],[]⟩,⟨[2,47],[],[],[],[]⟩,⟨[47,53],[],[],[],[]⟩,⟨[3,47],[],[],[],[]⟩,⟨[47,55],[],[],[],[]⟩,⟨[47,54,56],[],[],[],[]⟩,⟨[47,57],[],[],[],[]⟩,⟨[47,58],[],[],[],[]⟩,⟨[47,59],[],[],[],[]⟩,⟨[47,52,60],[],[],[],[]⟩,⟨[47,61],[],[],[],[]⟩,⟨[62],[],[],[],[]⟩]) ?_ (by kernel_rfl) ?_
   rotate_left
   ·
    refine Steps.runQ [3] [] [1] (v:=.ptr 1 2) (ae.fieldAddr (id:=1) (off:=0) (fo:=2) rfl rfl eJ rfl rfl) rfl (by kernel_rfl) (by kernel_rfl) ?_
    refine Steps.runQ [37] [1] [] (v:=di a1.atF) (ae.load rfl rfl aX rfl rfl) rfl (by kernel_rfl) (by kernel_rfl) ?_
    refine Steps.runQ [38] [] [] (v:=db (decide (a1.atF≥0))) (ae.geqI (k:=.i64) (m:=a1.atF) (n:=0) rfl rfl rfl) rfl (by kernel_rfl) (by kernel_rfl) ?_
    refine Steps.runQ [39] [] [] (v:=db (decide (a1.atF≥0))) (ae.move rfl rfl) rfl (by kernel_rfl) (by kernel_rfl) ?_
    refine Steps.grunQ [3,40] [] [1] (v:=.ptr 1 2) (ae.fieldAddr (id:=1) (off:=0) (fo:=2) rfl rfl eJ rfl rfl) rfl rfl rfl hc8 (by kernel_rfl) (by kernel_rfl) (by kernel_rfl) ?_
    refine Steps.grunQ [40,41] [1] [] (v:=di a1.atF) (ae.load rfl rfl aX rfl rfl) rfl rfl rfl hc8 (by kernel_rfl) (by kernel_rfl) (by kernel_rfl) ?_
    refine Steps.grunQ [5,40] [] [] (v:=.d (af 2 ay ((nth a0.productions a1.parent).right))) (ae.move rfl rfl) rfl rfl rfl hc8 (by kernel_rfl) (by kernel_rfl) (by kernel_rfl) ?_
    refine Steps.grunQ [40,43] [] [] (v:=di (((nth a0.productions a1.parent).right).length:Int)) (ae.len rfl rfl bL) rfl rfl rfl hc8 (by kernel_rfl) (by kernel_rfl) (by kernel_rfl) ?_
    refine Steps.grunQ [40,42,44] [] [] (v:=db (decide (a1.atF < (((nth a0.productions a1.parent).right).length:Int)))) (ae.lssI (k:=.i64) (m:=a1.atF) (n:=(((nth a0.productions a1.parent).right).length:Int)) rfl rfl rfl) rfl rfl rfl hc8 (by kernel_rfl) (by kernel_rfl) (by kernel_rfl) ?_
    refine Steps.runQ [40,45] [] [] (v:=db (decide (a1.atF < (((nth a0.productions a1.parent).right).length:Int)))) (ae.pickT rfl rfl hc8 rfl) rfl (by kernel_rfl) (by kernel_rfl) ?_
    refine Steps.runQ [46] [] [] (v:=db (decide (a1.atF < (((nth a0.productions a1.parent).right).length:Int)))) (ae.move rfl rfl) rfl (by kernel_rfl) (by kernel_rfl) ?_
    refine Steps.gpass [5,47] rfl rfl rfl hc9 rfl rfl ?_
    refine Steps.gpass [3,47] rfl rfl rfl hc9 rfl rfl ?_
    refine Steps.gpass [47,49] rfl rfl rfl hc9 rfl rfl ?_
    refine Steps.gpass [47,48,50] rfl rfl rfl hc9 rfl rfl ?_
    refine Steps.gpass [47,51] rfl rfl rfl hc9 rfl rfl ?_
    refine Steps.gpass [2,47] rfl rfl rfl hc9 rfl rfl ?_
    refine Steps.gpass [47,53] rfl rfl rfl hc9 rfl rfl ?_
    refine Steps.gpass [3,47] rfl rfl rfl hc9 rfl rfl ?_
    refine Steps.gpass [47,55] rfl rfl rfl hc9 rfl rfl ?_
    refine Steps.gpass [47,54,56] rfl rfl rfl hc9 rfl rfl ?_
    refine Steps.gpass [47,57] rfl rfl rfl hc9 rfl rfl ?_
    refine Steps.gpass [47,58] rfl rfl rfl hc9 rfl rfl ?_
    refine Steps.gpass [47,59] rfl rfl rfl hc9 rfl rfl ?_
    refine Steps.gpass [47,52,60] rfl rfl rfl hc9 rfl rfl ?_
    refine Steps.runQ [47,61] [] [] (v:=db false) (ae.pickF rfl rfl hc9 rfl) rfl (by kernel_rfl) (by kernel_rfl) ?_
    refine Steps.runQ [62] [] [] (v:=db false) (ae.assign rfl rfl) rfl (by kernel_rfl) (by kernel_rfl) ?_
    exact Steps.nil _
   cases h
   exact ⟨_,(GStep.trans (GStep.keep [4]) (GStep.ren [] (by decide) rfl rfl)),rfl,rfl⟩
  refine aa.regionAny mixed (s':=?s14) (qs:=[⟨[3],[],[],[1],[]⟩,⟨[37],[1],[],[],[]⟩,⟨[38],[],[],[],[]⟩,⟨[39],[],[],[],[]⟩,⟨[3,40],[],[],[],[]⟩,⟨[40,41],[],[],[],[]⟩,⟨[5,40],[],[],[],[]⟩,⟨[40,43],[],[],[],[]⟩,⟨[40,42,44],[],[],[],[]⟩,⟨[40,45],[],[],[],[]⟩,⟨[46],[],[],[],[]⟩,⟨[5,47],[],[],[],[]⟩,⟨[3,47],[],[],[],[]⟩,⟨[47,49],[],[],[],[]⟩,⟨[47,48,50],[],[],[],[]⟩,⟨[47,51],[],[],[],[]⟩,⟨[2,47],[],[],[],[]⟩,⟨[47,53],[],[],[],[]⟩,⟨[3,47],[],[],[],[]⟩,⟨[47,55],[],[],[],[]⟩,⟨[47,54,56],[],[],[],[]⟩,⟨[47,57],[],[],[],[]⟩,⟨[47,58],[],[],[],[]⟩,⟨[47,59],[],[],[],[]⟩,⟨[47,52,60],[],[],[],[]⟩,⟨[47,61],[],[],[],[]⟩,⟨[62],[],[],[],[]⟩]) ?_ (by kernel_rfl) ?_
  rotate_left
  ·
   refine Steps.runQ [3] [] [1] (v:=.ptr 1 2) (ae.fieldAddr (id:=1) (off:=0) (fo:=2) rfl rfl eJ rfl rfl) rfl (by kernel_rfl) (by kernel_rfl) ?_
   refine Steps.runQ [37] [1] [] (v:=di a1.atF) (ae.load rfl rfl aX rfl rfl) rfl (by kernel_rfl) (by kernel_rfl) ?_
   refine Steps.runQ [38] [] [] (v:=db (decide (a1.atF≥0))) (ae.geqI (k:=.i64) (m:=a1.atF) (n:=0) rfl rfl rfl) rfl (by kernel_rfl) (by kernel_rfl) ?_
   refine Steps.runQ [39] [] [] (v:=db (decide (a1.atF≥0))) (ae.move rfl rfl) rfl (by kernel_rfl) (by kernel_rfl) ?_
   refine Steps.gpass [3,40] rfl rfl rfl hc8 rfl rfl ?_
   refine Steps.gpass [40,41] rfl rfl rfl hc8 rfl rfl ?_
   refine Steps.gpass [5,40] rfl rfl rfl hc8 rfl rfl ?_
   refine Steps.gpass [40,43] rfl rfl rfl hc8 rfl rfl ?_
   refine Steps.gpass [40,42,44] rfl rfl rfl hc8 rfl rfl ?_
   refine Steps.runQ [40,45] [] [] (v:=db false) (ae.pickF rfl rfl hc8 rfl) rfl (by kernel_rfl) (by kernel_rfl) ?_
   refine Steps.runQ [46] [] [] (v:=db false) (ae.move rfl rfl) rfl (by kernel_rfl) (by kernel_rfl) ?_
   refine Steps.gpass [5,47] rfl rfl rfl rfl rfl rfl ?_
   refine Steps.gpass [3,47] rfl rfl rfl rfl rfl rfl ?_
   refine Steps.gpass [47,49] rfl rfl rfl rfl rfl rfl ?_
   refine Steps.gpass [47,48,50] rfl rfl rfl rfl rfl rfl ?_
   refine Steps.gpass [47,51] rfl rfl rfl rfl rfl rfl ?_
   refine Steps.gpass [2,47] rfl rfl rfl rfl rfl rfl ?_
   refine Steps.gpass [47,53] rfl rfl rfl rfl rfl rfl ?_
   refine Steps.gpass [3,47] rfl rfl rfl rfl rfl rfl ?_
   refine Steps.gpass [47,55] rfl rfl rfl rfl rfl rfl ?_
   refine Steps.gpass [47,54,56] rfl rfl rfl rfl rfl rfl ?_
   refine Steps.gpass [47,57] rfl rfl rfl rfl rfl rfl ?_
   refine Steps.gpass [47,58] rfl rfl rfl rfl rfl rfl ?_
   refine Steps.gpass [47,59] rfl rfl rfl rfl rfl rfl ?_
   refine Steps.gpass [47,52,60] rfl rfl rfl rfl rfl rfl ?_
   refine Steps.runQ [47,61] [] [] (v:=db false) (ae.pickF rfl rfl rfl rfl) rfl (by kernel_rfl) (by kernel_rfl) ?_
   refine Steps.runQ [62] [] [] (v:=db false) (ae.assign rfl rfl) rfl (by kernel_rfl) (by kernel_rfl) ?_
   exact Steps.nil _
  cases h
  exact ⟨_,(GStep.trans (GStep.keep [4]) (GStep.ren [] (by decide) rfl rfl)),rfl,rfl⟩
 rintro e s' hq
 obtain ⟨rfl,rfl⟩:=hq
 refine aa.ret ?_
 cases h
 exact ⟨_,(GStep.keep [4]),.inr rfl,Fin.mk2 (aB.one (.tmp rfl)) [] (by decide) rfl rfl rfl rfl⟩
noncomputable def bv (a0:aL):Option Bool:=some (decide (a0.classF=0))
set_option maxRecDepth 100000 in
set_option maxHeartbeats 4000000 in
theorem cU (a0:aL)(r:Bool)(h:bv a0=some r):SC P 156 [.agg (dp a0)] [] (db r) []:=by
 unfold bv at h
 refine SC.intro3 (N:=6) Tryz.func156 rfl rfl Tryz.ntmps156 rfl ?_
 refine aa.sr (ab.evn (h':=[.live (.var (dp a0))]) [0,0] [(1,.ptr 0 0)] [] ?_)
 refine aa.sr (ab.ev0n [0,0,0,0] [(2,db (decide (a0.classF=0)))] [] ?_)
 refine aa.ret ?_
 cases h
 exact ⟨_,(GStep.trans (GStep.keep [2]) (GStep.ren [] (by decide) rfl rfl)),.inr rfl,Fin.mk2 (aB.one (.tmp rfl)) [] (by decide) rfl rfl rfl rfl⟩
noncomputable def bV (k:Nat)(a0:am)(a1:List Int)(v:Int):Option (Bool⊕Unit):=match k,v with
  | 0,_=>none
  | k+1,v0_0=>(if (decide (v0_0 < (a1.length:Int)))=true then (if (0:Int)≤v0_0∧v0_0 < (a1.length:Int) then (((if (decide ((nth a1 v0_0) < 0))=true then some true else (if (decide ((nth a1 v0_0)≥(a0.tokens.length:Int)))=true then some true else (if (decide (v0_0 > 0))=true then (if (0:Int)≤(IntKind.wrap .i64 (v0_0 - 1))∧(IntKind.wrap .i64 (v0_0 - 1)) < (a1.length:Int) then (if (decide ((nth a1 v0_0)≤(nth a1 (IntKind.wrap .i64 (v0_0 - 1)))))=true then some true else (if (0:Int)≤(nth a1 v0_0)∧(nth a1 v0_0) < (a0.tokens.length:Int) then ((bv (nth a0.tokens (nth a1 v0_0))).bind fun y9=>some (!y9)) else none)) else none) else (if (0:Int)≤(nth a1 v0_0)∧(nth a1 v0_0) < (a0.tokens.length:Int) then ((bv (nth a0.tokens (nth a1 v0_0))).bind fun y11=>some (!y11)) else none)))):Option Bool).bind fun x13=>(if x13=true then some (.inl false) else (bV k a0 a1 (IntKind.wrap .i64 (v0_0+1))))) else none) else some (.inr ()))
theorem dJ:type_of% (@bV.eq_2):=@bV.eq_2
noncomputable def d9 (k:Nat)(a0:am)(a1:List Int):Option Bool:=(((bV k a0 a1 0):Option (Bool⊕Unit)).bind fun o17=>match o17 with | .inl r15=>(some r15) | .inr x16=>(some (decide ((a1.length:Int) > 0))))
set_option maxRecDepth 100000 in
set_option maxHeartbeats 4000000 in
theorem lP (k:Nat)(a0:am)(a1:List Int)(r:Bool)(h:d9 k a0 a1=some r):SC P 159 [.agg (ah a0),.d (af 1 (eI .i64) a1),.d (.fn 156)] [] (db r) []:=by
 unfold d9 at h
 refine SC.intro3 (N:=52) Tryz.func159 rfl rfl Tryz.ntmps159 rfl ?_
 refine aa.sr (ab.evn (h':=[.live (.var (ah a0))]) [0,0] [(3,.ptr 0 0)] [] ?_)
 refine aa.seq ?_
 refine aa.sr (ab.ev0n [0,0,0] [(9,.d (af 1 (eI .i64) a1)),(10,di (a1.length:Int)),(11,di 0)] [] ?_)
 refine aa.block ?_
 refine ao h fun o17 ho17 h=>?_
 refine aa.cut (Q':=fun e s'=>match o17 with | .inl r15=>((e = .ret)∧Fin P (Tryz.f159.results) 0 [] (db r15) s') | .inr x16=>(e = .exit 0∧s'=⟨[(1,.d (af 1 (eI .i64) a1))],[]⟩)) ?_ ?_
 ·
  have h:=ho17
  refine aa.ghost (GStep.keep [1,2,3,9,10,11]) ?_
  refine aa.loopI (F:=fun k v=>bV k a0 a1 v) (fun v=>⟨[(1,.d (af 1 (eI .i64) a1)),(2,.d (.fn 156)),(3,.ptr 0 0),(9,.d (af 1 (eI .i64) a1)),(10,di (a1.length:Int)),(11,di v)],[.live (.var (ah a0))]⟩) (k:=k) (v:=0) h rfl (fun _=>rfl) ?_
  intro k v0_0 ih h
  have h:=(dJ ..).symm.trans h
  refine aa.sr (ab.ev0n [0] [(12,db (decide (v0_0 < (a1.length:Int))))] [] ?_)
  refine aa.seq ?_
  refine aa.condI h rfl (fun hc1 h=>?_) (fun hc1 h=>?_)
  ·
   refine aa.skip ?_
   refine aa.seq ?_
   refine aa.block ?_
   refine aa.seq ?_
   refine aD h fun hb2 h=>?_
   refine aa.region (ab.ev0n [0,0,0,0,0] [(7,di v0_0),(8,di (nth a1 v0_0))] [⟨_,hb2.1⟩,⟨_,hb2.2⟩] ?_)
   refine aa.seq ?_
   refine ao h fun x13 ho12 h=>?_
   refine aa.cut (Q':=fun e s'=>e = .normal∧s'=⟨[(1,.d (af 1 (eI .i64) a1)),(2,.d (.fn 156)),(3,.ptr 0 0),(9,.d (af 1 (eI .i64) a1)),(10,di (a1.length:Int)),(11,di v0_0),(47,db x13)],[.live (.var (ah a0))]⟩) ?_ ?_
   ·
    have h:=ho12
    refine au h (fun hc3 h=>?_) (fun hc3 h=>?_)
    ·
     refine aa.region (ab.ev0n [0,0,0,2,0,0,0,0,0,0,0,0,0,0,0,0,0,0,0,0,0,0,0,0,0,0,0,0,0,0,0,0] [(47,db true)] [⟨_,hc3⟩] ?_)
     cases h
     exact ⟨_,(GStep.keep [1,2,3,9,10,11,47]),rfl,rfl⟩
    refine au h (fun hc4 h=>?_) (fun hc4 h=>?_)
    ·
     refine aa.region (ab.ev0n [0,0,0,1,0,0,0,0,0,0,2,0,0,0,0,0,0,0,0,0,0,0,0,0,0,0,0,0,0,0,0,0] [(47,db true)] [⟨_,hc3⟩,⟨_,hc4⟩] ?_)
     cases h
     exact ⟨_,(GStep.keep [1,2,3,9,10,11,47]),rfl,rfl⟩
    refine au h (fun hc5 h=>?_) (fun hc5 h=>?_)
    ·
     refine aD h fun hb6 h=>?_
     refine au h (fun hc7 h=>?_) (fun hc7 h=>?_)
     ·
      refine aa.region (ab.ev0n [0,0,0,1,0,0,0,0,0,0,1,0,0,1,0,0,0,0,0,0,0,0,0,2,0,0,0,0,0,0,0,0] [(47,db true)] [⟨_,hc3⟩,⟨_,hc4⟩,⟨_,hc5⟩,⟨_,hb6.1⟩,⟨_,hb6.2⟩,⟨_,hc7⟩] ?_)
      cases h
      exact ⟨_,(GStep.keep [1,2,3,9,10,11,47]),rfl,rfl⟩
     refine aD h fun hb8 h=>?_
     refine ao h fun y9 hy9 h=>?_
     refine aa.region (ab.ev0 [0,0,0,1,0,0,0,0,0,0,1,0,0,1,0,0,0,0,0,0,0,0,0,3,3,3,3,3,3] [(38,db (decide ((nth a1 v0_0)≤(nth a1 (IntKind.wrap .i64 (v0_0 - 1)))))),(39,.d (.fn 156)),(44,.agg (dp (nth a0.tokens (nth a1 v0_0))))] [⟨_,hc3⟩,⟨_,hc4⟩,⟨_,hc5⟩,⟨_,hb6.1⟩,⟨_,hb6.2⟩,⟨_,hc7⟩,⟨_,hc7⟩,⟨_,hc7⟩,⟨_,hc7⟩,⟨_,hc7⟩,⟨_,hb8.1⟩,⟨_,hb8.2⟩,⟨_,hc7⟩] ?_)
     refine ab.gstep (v:=db y9) (ae.callS [] (cU (nth a0.tokens (nth a1 v0_0)) _ hy9) rfl rfl ⟨⟨rfl,rfl,rfl,rfl,rfl,rfl,rfl,trivial⟩,trivial⟩ (by decide) rfl rfl trivial) rfl rfl rfl hc7 rfl rfl ?_
     refine ab.ev0n [3,20] [(47,db (!y9))] [⟨_,hc7⟩,⟨_,hc7⟩] ?_
     cases h
     exact ⟨_,(GStep.keep [1,2,3,9,10,11,47]),rfl,rfl⟩
    refine aD h fun hb10 h=>?_
    refine ao h fun y11 hy11 h=>?_
    refine aa.region (ab.ev0 [0,0,0,1,0,0,0,0,0,0,1,0,0,2,0,0,0,0,0,0,0,0,0,0,0,0,0,0,0] [(38,db false),(39,.d (.fn 156)),(44,.agg (dp (nth a0.tokens (nth a1 v0_0))))] [⟨_,hc3⟩,⟨_,hc4⟩,⟨_,hc5⟩,⟨_,hb10.1⟩,⟨_,hb10.2⟩] ?_)
    refine ab.gstep (v:=db y11) (ae.callS [] (cU (nth a0.tokens (nth a1 v0_0)) _ hy11) rfl rfl ⟨⟨rfl,rfl,rfl,rfl,rfl,rfl,rfl,trivial⟩,trivial⟩ (by decide) rfl rfl trivial) rfl rfl rfl rfl rfl rfl ?_
    refine ab.ev0n [0,0] [(47,db (!y11))] [] ?_
    cases h
    exact ⟨_,(GStep.keep [1,2,3,9,10,11,47]),rfl,rfl⟩
   rintro e s' hq
   obtain ⟨rfl,rfl⟩:=hq
   refine aa.condI h rfl (fun hc14 h=>?_) (fun hc14 h=>?_)
   ·
    refine aa.sr (ab.ev0n [0] [(6,db false)] [] ?_)
    refine aa.ret ?_
    cases h
    exact ⟨_,(GStep.trans (GStep.keep [6]) (GStep.ren [] (by decide) rfl rfl)),rfl,Fin.mk2 (aB.one (.tmp rfl)) [] (by decide) rfl rfl rfl rfl⟩
   refine aa.skip ?_
   refine aa.region (ab.ev0n [0,0] [(11,di (IntKind.wrap .i64 (v0_0+1)))] [] ?_)
   exact aM.ghost (GStep.keep [1,2,3,9,10,11]) (ih (IntKind.wrap .i64 (v0_0+1)) h)
  refine aa.exit ?_
  cases h
  exact ⟨_,(GStep.trans (GStep.keep [1]) (GStep.ren [] (by decide) rfl rfl)),rfl,rfl⟩
 rcases o17 with r15 | x16
 ·
  rintro e s' hq
  obtain ⟨rfl,hq⟩:=hq
  cases h
  exact ⟨_,GStep.refl _ _,.inr rfl,hq⟩
 rintro e s' hq
 obtain ⟨rfl,rfl⟩:=hq
 refine aa.sr (ab.ev0n [0,0,0,0] [(6,db (decide ((a1.length:Int) > 0)))] [] ?_)
 refine aa.ret ?_
 cases h
 exact ⟨_,(GStep.keep [6]),.inr rfl,Fin.mk2 (aB.one (.tmp rfl)) [] (by decide) rfl rfl rfl rfl⟩
noncomputable def bw (a0:aL):Option Bool:=some (!decide (a0.literal=(⟨#[]⟩:ByteArray)))
set_option maxRecDepth 100000 in
set_option maxHeartbeats 4000000 in
theorem eh (a0:aL)(r:Bool)(h:bw a0=some r):SC P 157 [.agg (dp a0)] [] (db r) []:=by
 unfold bw at h
 refine SC.intro3 (N:=6) Tryz.func157 rfl rfl Tryz.ntmps157 rfl ?_
 refine aa.sr (ab.evn (h':=[.live (.var (dp a0))]) [0,0] [(1,.ptr 0 0)] [] ?_)
 refine aa.sr (ab.ev0n [0,0,0,0] [(2,db (!decide (a0.literal=(⟨#[]⟩:ByteArray))))] [] ?_)
 refine aa.ret ?_
 cases h
 exact ⟨_,(GStep.trans (GStep.keep [2]) (GStep.ren [] (by decide) rfl rfl)),.inr rfl,Fin.mk2 (aB.one (.tmp rfl)) [] (by decide) rfl rfl rfl rfl⟩
noncomputable def bE (k:Nat)(a0:am)(a1:List Int)(v:Int):Option (Bool⊕Unit):=match k,v with
  | 0,_=>none
  | k+1,v0_0=>(if (decide (v0_0 < (a1.length:Int)))=true then (if (0:Int)≤v0_0∧v0_0 < (a1.length:Int) then (((if (decide ((nth a1 v0_0) < 0))=true then some true else (if (decide ((nth a1 v0_0)≥(a0.tokens.length:Int)))=true then some true else (if (decide (v0_0 > 0))=true then (if (0:Int)≤(IntKind.wrap .i64 (v0_0 - 1))∧(IntKind.wrap .i64 (v0_0 - 1)) < (a1.length:Int) then (if (decide ((nth a1 v0_0)≤(nth a1 (IntKind.wrap .i64 (v0_0 - 1)))))=true then some true else (if (0:Int)≤(nth a1 v0_0)∧(nth a1 v0_0) < (a0.tokens.length:Int) then ((bw (nth a0.tokens (nth a1 v0_0))).bind fun y9=>some (!y9)) else none)) else none) else (if (0:Int)≤(nth a1 v0_0)∧(nth a1 v0_0) < (a0.tokens.length:Int) then ((bw (nth a0.tokens (nth a1 v0_0))).bind fun y11=>some (!y11)) else none)))):Option Bool).bind fun x13=>(if x13=true then some (.inl false) else (bE k a0 a1 (IntKind.wrap .i64 (v0_0+1))))) else none) else some (.inr ()))
theorem cW:type_of% (@bE.eq_2):=@bE.eq_2
noncomputable def da (k:Nat)(a0:am)(a1:List Int):Option Bool:=(((bE k a0 a1 0):Option (Bool⊕Unit)).bind fun o17=>match o17 with | .inl r15=>(some r15) | .inr x16=>(some (decide ((a1.length:Int) > 0))))
set_option maxRecDepth 100000 in
set_option maxHeartbeats 4000000 in
theorem eL (k:Nat)(a0:am)(a1:List Int)(r:Bool)(h:da k a0 a1=some r):SC P 159 [.agg (ah a0),.d (af 1 (eI .i64) a1),.d (.fn 157)] [] (db r) []:=by
 unfold da at h
 refine SC.intro3 (N:=52) Tryz.func159 rfl rfl Tryz.ntmps159 rfl ?_
 refine aa.sr (ab.evn (h':=[.live (.var (ah a0))]) [0,0] [(3,.ptr 0 0)] [] ?_)
 refine aa.seq ?_
 refine aa.sr (ab.ev0n [0,0,0] [(9,.d (af 1 (eI .i64) a1)),(10,di (a1.length:Int)),(11,di 0)] [] ?_)
 refine aa.block ?_
 refine ao h fun o17 ho17 h=>?_
 refine aa.cut (Q':=fun e s'=>match o17 with | .inl r15=>((e = .ret)∧Fin P (Tryz.f159.results) 0 [] (db r15) s') | .inr x16=>(e = .exit 0∧s'=⟨[(1,.d (af 1 (eI .i64) a1))],[]⟩)) ?_ ?_
 ·
  have h:=ho17
  refine aa.ghost (GStep.keep [1,2,3,9,10,11]) ?_
  refine aa.loopI (F:=fun k v=>bE k a0 a1 v) (fun v=>⟨[(1,.d (af 1 (eI .i64) a1)),(2,.d (.fn 157)),(3,.ptr 0 0),(9,.d (af 1 (eI .i64) a1)),(10,di (a1.length:Int)),(11,di v)],[.live (.var (ah a0))]⟩) (k:=k) (v:=0) h rfl (fun _=>rfl) ?_
  intro k v0_0 ih h
  have h:=(cW ..).symm.trans h
  refine aa.sr (ab.ev0n [0] [(12,db (decide (v0_0 < (a1.length:Int))))] [] ?_)
  refine aa.seq ?_
  refine aa.condI h rfl (fun hc1 h=>?_) (fun hc1 h=>?_)
  ·
   refine aa.skip ?_
   refine aa.seq ?_
   refine aa.block ?_
   refine aa.seq ?_
   refine aD h fun hb2 h=>?_
   refine aa.region (ab.ev0n [0,0,0,0,0] [(7,di v0_0),(8,di (nth a1 v0_0))] [⟨_,hb2.1⟩,⟨_,hb2.2⟩] ?_)
   refine aa.seq ?_
   refine ao h fun x13 ho12 h=>?_
   refine aa.cut (Q':=fun e s'=>e = .normal∧s'=⟨[(1,.d (af 1 (eI .i64) a1)),(2,.d (.fn 157)),(3,.ptr 0 0),(9,.d (af 1 (eI .i64) a1)),(10,di (a1.length:Int)),(11,di v0_0),(47,db x13)],[.live (.var (ah a0))]⟩) ?_ ?_
   ·
    have h:=ho12
    refine au h (fun hc3 h=>?_) (fun hc3 h=>?_)
    ·
     refine aa.region (ab.ev0n [0,0,0,2,0,0,0,0,0,0,0,0,0,0,0,0,0,0,0,0,0,0,0,0,0,0,0,0,0,0,0,0] [(47,db true)] [⟨_,hc3⟩] ?_)
     cases h
     exact ⟨_,(GStep.keep [1,2,3,9,10,11,47]),rfl,rfl⟩
    refine au h (fun hc4 h=>?_) (fun hc4 h=>?_)
    ·
     refine aa.region (ab.ev0n [0,0,0,1,0,0,0,0,0,0,2,0,0,0,0,0,0,0,0,0,0,0,0,0,0,0,0,0,0,0,0,0] [(47,db true)] [⟨_,hc3⟩,⟨_,hc4⟩] ?_)
     cases h
     exact ⟨_,(GStep.keep [1,2,3,9,10,11,47]),rfl,rfl⟩
    refine au h (fun hc5 h=>?_) (fun hc5 h=>?_)
    ·
     refine aD h fun hb6 h=>?_
     refine au h (fun hc7 h=>?_) (fun hc7 h=>?_)
     ·
      refine aa.region (ab.ev0n [0,0,0,1,0,0,0,0,0,0,1,0,0,1,0,0,0,0,0,0,0,0,0,2,0,0,0,0,0,0,0,0] [(47,db true)] [⟨_,hc3⟩,⟨_,hc4⟩,⟨_,hc5⟩,⟨_,hb6.1⟩,⟨_,hb6.2⟩,⟨_,hc7⟩] ?_)
      cases h
      exact ⟨_,(GStep.keep [1,2,3,9,10,11,47]),rfl,rfl⟩
     refine aD h fun hb8 h=>?_
     refine ao h fun y9 hy9 h=>?_
     refine aa.region (ab.ev0 [0,0,0,1,0,0,0,0,0,0,1,0,0,1,0,0,0,0,0,0,0,0,0,3,3,3,3,3,3] [(38,db (decide ((nth a1 v0_0)≤(nth a1 (IntKind.wrap .i64 (v0_0 - 1)))))),(39,.d (.fn 157)),(44,.agg (dp (nth a0.tokens (nth a1 v0_0))))] [⟨_,hc3⟩,⟨_,hc4⟩,⟨_,hc5⟩,⟨_,hb6.1⟩,⟨_,hb6.2⟩,⟨_,hc7⟩,⟨_,hc7⟩,⟨_,hc7⟩,⟨_,hc7⟩,⟨_,hc7⟩,⟨_,hb8.1⟩,⟨_,hb8.2⟩,⟨_,hc7⟩] ?_)
     refine ab.gstep (v:=db y9) (ae.callS [] (eh (nth a0.tokens (nth a1 v0_0)) _ hy9) rfl rfl ⟨⟨rfl,rfl,rfl,rfl,rfl,rfl,rfl,trivial⟩,trivial⟩ (by decide) rfl rfl trivial) rfl rfl rfl hc7 rfl rfl ?_
     refine ab.ev0n [3,20] [(47,db (!y9))] [⟨_,hc7⟩,⟨_,hc7⟩] ?_
     cases h
     exact ⟨_,(GStep.keep [1,2,3,9,10,11,47]),rfl,rfl⟩
    refine aD h fun hb10 h=>?_
    refine ao h fun y11 hy11 h=>?_
    refine aa.region (ab.ev0 [0,0,0,1,0,0,0,0,0,0,1,0,0,2,0,0,0,0,0,0,0,0,0,0,0,0,0,0,0] [(38,db false),(39,.d (.fn 157)),(44,.agg (dp (nth a0.tokens (nth a1 v0_0))))] [⟨_,hc3⟩,⟨_,hc4⟩,⟨_,hc5⟩,⟨_,hb10.1⟩,⟨_,hb10.2⟩] ?_)
    refine ab.gstep (v:=db y11) (ae.callS [] (eh (nth a0.tokens (nth a1 v0_0)) _ hy11) rfl rfl ⟨⟨rfl,rfl,rfl,rfl,rfl,rfl,rfl,trivial⟩,trivial⟩ (by decide) rfl rfl trivial) rfl rfl rfl rfl rfl rfl ?_
    refine ab.ev0n [0,0] [(47,db (!y11))] [] ?_
    cases h
    exact ⟨_,(GStep.keep [1,2,3,9,10,11,47]),rfl,rfl⟩
   rintro e s' hq
   obtain ⟨rfl,rfl⟩:=hq
   refine aa.condI h rfl (fun hc14 h=>?_) (fun hc14 h=>?_)
   ·
    refine aa.sr (ab.ev0n [0] [(6,db false)] [] ?_)
    refine aa.ret ?_
    cases h
    exact ⟨_,(GStep.trans (GStep.keep [6]) (GStep.ren [] (by decide) rfl rfl)),rfl,Fin.mk2 (aB.one (.tmp rfl)) [] (by decide) rfl rfl rfl rfl⟩
   refine aa.skip ?_
   refine aa.region (ab.ev0n [0,0] [(11,di (IntKind.wrap .i64 (v0_0+1)))] [] ?_)
   exact aM.ghost (GStep.keep [1,2,3,9,10,11]) (ih (IntKind.wrap .i64 (v0_0+1)) h)
  refine aa.exit ?_
  cases h
  exact ⟨_,(GStep.trans (GStep.keep [1]) (GStep.ren [] (by decide) rfl rfl)),rfl,rfl⟩
 rcases o17 with r15 | x16
 ·
  rintro e s' hq
  obtain ⟨rfl,hq⟩:=hq
  cases h
  exact ⟨_,GStep.refl _ _,.inr rfl,hq⟩
 rintro e s' hq
 obtain ⟨rfl,rfl⟩:=hq
 refine aa.sr (ab.ev0n [0,0,0,0] [(6,db (decide ((a1.length:Int) > 0)))] [] ?_)
 refine aa.ret ?_
 cases h
 exact ⟨_,(GStep.keep [6]),.inr rfl,Fin.mk2 (aB.one (.tmp rfl)) [] (by decide) rfl rfl rfl rfl⟩
noncomputable def aY (k:Nat)(a0:am)(v:Int):Option (Int⊕Unit):=match k,v with
  | 0,_=>none
  | k+1,v0_0=>(if (decide (v0_0 < (a0.filters.length:Int)))=true then (if (0:Int)≤v0_0∧v0_0 < (a0.filters.length:Int) then ((dg k ((nth a0.filters v0_0).ifF) (a0.conditions.length:Int)).bind fun y3=>(((if (decide ((nth a0.filters v0_0).kind=1))=true then some ((nth a0.filters v0_0).kind,(decide ((nth a0.filters v0_0).kind=1)),(nth a0.filters v0_0),(nth a0.filters v0_0).parent,(nth a0.filters v0_0).atF,(nth a0.filters v0_0).child,(nth a0.filters v0_0).left,(nth a0.filters v0_0).token,(nth a0.filters v0_0).tokens) else some ((nth a0.filters v0_0).kind,(decide ((nth a0.filters v0_0).kind=2)),(nth a0.filters v0_0),(nth a0.filters v0_0).parent,(nth a0.filters v0_0).atF,(nth a0.filters v0_0).child,(nth a0.filters v0_0).left,(nth a0.filters v0_0).token,(nth a0.filters v0_0).tokens)):Option (Int×Bool×aA×Int×Int×Int×Int×Int×(List Int))).bind fun x6=>(((if x6.2.1=true then (((if y3=true then ((gb a0 x6.2.2.1).bind fun y9=>some y9) else some false):Option Bool).bind fun x11=>some (x11,0,0,0,x6.2.2.2.2.2.2.1,x6.2.2.2.2.2.2.2.1,x6.2.2.2.2.2.2.2.2)) else (((if (decide (x6.1=3))=true then some (decide (x6.1=3)) else some (decide (x6.1=4))):Option Bool).bind fun x14=>(((if x14=true then (((if y3=true then (if (decide (x6.2.2.1.left≥0))=true then (if (decide (x6.2.2.1.left < (a0.nonterminals.length:Int)))=true then ((d9 k a0 x6.2.2.1.tokens).bind fun y19=>some y19) else some false) else some false) else some false):Option Bool).bind fun x21=>some (x21,0,x6.2.2.2.2.2.2.2.1,[])) else (((if (decide (x6.1=5))=true then (((if y3=true then ((da k a0 x6.2.2.1.tokens).bind fun y24=>(if y24=true then (if (decide (x6.2.2.1.token≥0))=true then some (decide (x6.2.2.1.token < (a0.tokens.length:Int))) else some false) else some false)) else some false):Option Bool).bind fun x28=>(((if x28=true then (if (0:Int)≤x6.2.2.1.token∧x6.2.2.1.token < (a0.tokens.length:Int) then ((bv (nth a0.tokens x6.2.2.1.token)).bind fun y31=>(if y31=true then (if (0:Int)≤x6.2.2.1.token∧x6.2.2.1.token < (a0.tokens.length:Int) then ((bw (nth a0.tokens x6.2.2.1.token)).bind fun y34=>some (!y34)) else none) else some false)) else none) else some false):Option Bool).bind fun x36=>some (x36,0,[]))) else some (false,x6.2.2.2.2.2.2.2.1,x6.2.2.2.2.2.2.2.2)):Option (Bool×Int×(List Int))).bind fun x38=>some (x38.1,x6.2.2.2.2.2.2.1,x38.2.1,x38.2.2))):Option (Bool×Int×Int×(List Int))).bind fun x40=>some (x40.1,x6.2.2.2.1,x6.2.2.2.2.1,x6.2.2.2.2.2.1,x40.2.1,x40.2.2.1,x40.2.2.2)))):Option (Bool×Int×Int×Int×Int×Int×(List Int))).bind fun x42=>(((if (!x42.1)=true then some true else (if (!decide (x42.2.1=0))=true then some true else (if (!decide (x42.2.2.1=0))=true then some true else (if (!decide (x42.2.2.2.1=0))=true then some true else (if (!decide (x42.2.2.2.2.1=0))=true then some true else (if (!decide (x42.2.2.2.2.2.1=0))=true then some true else some (decide ((x42.2.2.2.2.2.2.length:Int) > 0)))))))):Option Bool).bind fun x50=>(if x50=true then some (.inl 53) else (aY k a0 (IntKind.wrap .i64 (v0_0+1)))))))) else none) else some (.inr ()))
theorem cX:type_of% (@aY.eq_2):=@aY.eq_2
noncomputable def bG (k:Nat)(a0:am):Option Int:=(((aY k a0 0):Option (Int⊕Unit)).bind fun o54=>match o54 with | .inl r52=>(some r52) | .inr x53=>(some 0))
set_option maxRecDepth 100000 in
set_option maxHeartbeats 4000000 in
theorem kh (k:Nat)(a0:am)(r:Int)(h:bG k a0=some r):SC P 80 [.agg (ah a0)] [] (di r) []:=by
 unfold bG at h
 refine SC.intro3 (N:=147) Tryz.func80 rfl rfl Tryz.ntmps80 rfl ?_
 refine aa.sr (ab.evn (h':=[.live (.var (ah a0))]) [0,0] [(1,.ptr 0 0)] [] ?_)
 refine aa.sr (ab.ev0n [0] [(3,.d (.fn 156))] [] ?_)
 refine aa.sr (ab.ev0n [0] [(4,.d (.fn 157))] [] ?_)
 refine aa.seq ?_
 refine aa.sr (ab.ev0n [0,0,0,0] [(10,.d (af 9 aC a0.filters)),(11,di (a0.filters.length:Int)),(12,di 0)] [] ?_)
 refine aa.block ?_
 refine ao h fun o54 ho54 h=>?_
 refine aa.cut (Q':=fun e s'=>match o54 with | .inl r52=>((e = .ret)∧Fin P (Tryz.f80.results) 0 [] (di r52) s') | .inr x53=>(e = .exit 0∧s'=⟨[],[]⟩)) ?_ ?_
 ·
  have h:=ho54
  refine aa.ghost (GStep.keep [1,3,4,10,11,12]) ?_
  refine aa.loopI (F:=fun k v=>aY k a0 v) (fun v=>⟨[(1,.ptr 0 0),(3,.d (.fn 156)),(4,.d (.fn 157)),(10,.d (af 9 aC a0.filters)),(11,di (a0.filters.length:Int)),(12,di v)],[.live (.var (ah a0))]⟩) (k:=k) (v:=0) h rfl (fun _=>rfl) ?_
  intro k v0_0 ih h
  have h:=(cX ..).symm.trans h
  refine aa.sr (ab.ev0n [0] [(13,db (decide (v0_0 < (a0.filters.length:Int))))] [] ?_)
  refine aa.seq ?_
  refine aa.condI h rfl (fun hc1 h=>?_) (fun hc1 h=>?_)
  ·
   refine aa.skip ?_
   refine aa.seq ?_
   refine aa.block ?_
   refine aa.seq ?_
   refine aD h fun hb2 h=>?_
   refine aa.region (ab.evn (h':=[.live (.var (ah a0)),.live (.var (aW (nth a0.filters v0_0)))]) [0,0,0,0] [(6,.ptr 1 0)] [⟨_,hb2.1⟩,⟨_,hb2.2⟩] ?_)
   refine aa.seq ?_
   refine ao h fun y3 hy3 h=>?_
   refine aa.region (ab.ev0 [0,0,0,0,0] [(17,.agg (an ((nth a0.filters v0_0).ifF))),(20,di (a0.conditions.length:Int))] [] ?_)
   refine ab.step (v:=db y3) (ae.callS [] (cu k ((nth a0.filters v0_0).ifF) (a0.conditions.length:Int) _ hy3) rfl rfl ⟨⟨rfl,rfl,trivial⟩,rfl,trivial⟩ (by decide) rfl rfl trivial) rfl rfl rfl ?_
   refine ab.ev0n [0] [(7,db y3)] [] ?_
   refine aa.sr (ab.evn (h':=[.live (.var (ah a0)),.live (.var (aW (nth a0.filters v0_0))),.live (.var (aW (nth a0.filters v0_0)))]) [0,0,0] [(8,.ptr 2 0)] [] ?_)
   refine aa.sr (ab.evn (h':=[.live (.var (ah a0)),.live (.var (aW (nth a0.filters v0_0))),.live (.var [di 0,di ((nth a0.filters v0_0).parent),di ((nth a0.filters v0_0).atF),di ((nth a0.filters v0_0).child),di ((nth a0.filters v0_0).left),di ((nth a0.filters v0_0).token),.d (af 1 (eI .i64) ((nth a0.filters v0_0).tokens)),.nsl,di 0])]) [0,0,0,0,0] [] [] ?_)
   refine aa.seq ?_
   refine aa.sr (ab.ev0n [0,0] [(27,di ((nth a0.filters v0_0).kind))] [] ?_)
   refine aa.block ?_
   refine aa.seq ?_
   refine aa.sr (ab.ev0n [0,0] [(28,db (decide ((nth a0.filters v0_0).kind=1)))] [] ?_)
   refine ao h fun x6 ho5 h=>?_
   refine aa.cut (Q':=fun e s'=>e = .normal∧s'=⟨[(1,.ptr 0 0),(3,.d (.fn 156)),(4,.d (.fn 157)),(6,.ptr 1 0),(7,db y3),(8,.ptr 2 0),(10,.d (af 9 aC a0.filters)),(11,di (a0.filters.length:Int)),(12,di v0_0),(27,di x6.1),(28,db x6.2.1)],[.live (.var (ah a0)),.live (.var (aW x6.2.2.1)),.live (.var [di 0,di x6.2.2.2.1,di x6.2.2.2.2.1,di x6.2.2.2.2.2.1,di x6.2.2.2.2.2.2.1,di x6.2.2.2.2.2.2.2.1,.d (af 1 (eI .i64) x6.2.2.2.2.2.2.2.2),.nsl,di 0])]⟩) ?_ ?_
   ·
    have h:=ho5
    refine aa.condI h rfl (fun hc4 h=>?_) (fun hc4 h=>?_)
    ·
     refine aa.skip ?_
     cases h
     exact ⟨_,(GStep.keep [1,3,4,6,7,8,10,11,12,27,28]),rfl,rfl⟩
    refine aa.region (ab.ev0n [0,0] [(28,db (decide ((nth a0.filters v0_0).kind=2)))] [] ?_)
    cases h
    exact ⟨_,(GStep.keep [1,3,4,6,7,8,10,11,12,27,28]),rfl,rfl⟩
   rintro e s' hq
   obtain ⟨rfl,rfl⟩:=hq
   refine ao h fun x42 ho41 h=>?_
   refine aa.cut (Q':=fun e s'=>e = .normal∧s'=⟨[(1,.ptr 0 0),(3,.d (.fn 156)),(4,.d (.fn 157)),(7,db x42.1),(8,.ptr 1 0),(10,.d (af 9 aC a0.filters)),(11,di (a0.filters.length:Int)),(12,di v0_0)],[.live (.var (ah a0)),.live (.var [di 0,di x42.2.1,di x42.2.2.1,di x42.2.2.2.1,di x42.2.2.2.2.1,di x42.2.2.2.2.2.1,.d (af 1 (eI .i64) x42.2.2.2.2.2.2),.nsl,di 0])]⟩) ?_ ?_
   ·
    have h:=ho41
    refine aa.condI h rfl (fun hc7 h=>?_) (fun hc7 h=>?_)
    ·
     refine aa.sr (ab.evn (h':=[.live (.var (ah a0)),.live (.var (aW x6.2.2.1)),.live (.var [di 0,di 0,di 0,di 0,di x6.2.2.2.2.2.2.1,di x6.2.2.2.2.2.2.2.1,.d (af 1 (eI .i64) x6.2.2.2.2.2.2.2.2),.nsl,di 0])]) [0,0,0,0,0,0] [] [] ?_)
     refine ao h fun x11 ho10 h=>?_
     refine aa.cut (Q':=fun e s'=>e = .normal∧s'=⟨[(1,.ptr 0 0),(3,.d (.fn 156)),(4,.d (.fn 157)),(7,db x11),(8,.ptr 1 0),(10,.d (af 9 aC a0.filters)),(11,di (a0.filters.length:Int)),(12,di v0_0)],[.live (.var (ah a0)),.live (.var [di 0,di 0,di 0,di 0,di x6.2.2.2.2.2.2.1,di x6.2.2.2.2.2.2.2.1,.d (af 1 (eI .i64) x6.2.2.2.2.2.2.2.2),.nsl,di 0])]⟩) ?_ ?_
     ·
      have h:=ho10
      refine au h (fun hc8 h=>?_) (fun hc8 h=>?_)
      ·
       refine ao h fun y9 hy9 h=>?_
       refine aa.region (ab.ev0 [0,0,3,3] [(35,db y3),(36,.agg (ah a0)),(37,.agg (aW x6.2.2.1))] [⟨_,hc8⟩,⟨_,hc8⟩] ?_)
       refine ab.gstep (v:=db y9) (ae.callS [] (pw a0 x6.2.2.1 _ hy9) rfl rfl ⟨⟨rfl,rfl,rfl,rfl,rfl,rfl,rfl,rfl,rfl,trivial⟩,⟨rfl,rfl,rfl,rfl,rfl,rfl,rfl,rfl,rfl,trivial⟩,trivial⟩ (by decide) rfl rfl trivial) rfl rfl rfl hc8 rfl rfl ?_
       refine ab.ev0n [10,0] [(7,db y9)] [⟨_,hc8⟩] ?_
       cases h
       exact ⟨_,(GStep.trans (GStep.keep [1,3,4,7,8,10,11,12]) (GStep.ren [0,2] (by decide) rfl rfl)),rfl,rfl⟩
      refine aa.region (ab.ev0n [0,0,2,0,0,0,0] [(7,db false)] [⟨_,hc8⟩] ?_)
      cases h
      exact ⟨_,(GStep.trans (GStep.keep [1,3,4,7,8,10,11,12]) (GStep.ren [0,2] (by decide) rfl rfl)),rfl,rfl⟩
     rintro e s' hq
     obtain ⟨rfl,rfl⟩:=hq
     cases h
     exact ⟨_,(GStep.keep [1,3,4,7,8,10,11,12]),rfl,rfl⟩
    refine aa.seq ?_
    refine aa.sr (ab.ev0n [0,0] [(40,db (decide (x6.1=3)))] [] ?_)
    refine ao h fun x14 ho13 h=>?_
    refine aa.cut (Q':=fun e s'=>e = .normal∧s'=⟨[(1,.ptr 0 0),(3,.d (.fn 156)),(4,.d (.fn 157)),(6,.ptr 1 0),(7,db y3),(8,.ptr 2 0),(10,.d (af 9 aC a0.filters)),(11,di (a0.filters.length:Int)),(12,di v0_0),(27,di x6.1),(40,db x14)],[.live (.var (ah a0)),.live (.var (aW x6.2.2.1)),.live (.var [di 0,di x6.2.2.2.1,di x6.2.2.2.2.1,di x6.2.2.2.2.2.1,di x6.2.2.2.2.2.2.1,di x6.2.2.2.2.2.2.2.1,.d (af 1 (eI .i64) x6.2.2.2.2.2.2.2.2),.nsl,di 0])]⟩) ?_ ?_
    ·
     have h:=ho13
     refine aa.condI h rfl (fun hc12 h=>?_) (fun hc12 h=>?_)
     ·
      refine aa.skip ?_
      cases h
      exact ⟨_,(GStep.keep [1,3,4,6,7,8,10,11,12,27,40]),rfl,rfl⟩
     refine aa.region (ab.ev0n [0,0] [(40,db (decide (x6.1=4)))] [] ?_)
     cases h
     exact ⟨_,(GStep.keep [1,3,4,6,7,8,10,11,12,27,40]),rfl,rfl⟩
    rintro e s' hq
    obtain ⟨rfl,rfl⟩:=hq
    refine ao h fun x40 ho39 h=>?_
    refine aa.cut (Q':=fun e s'=>e = .normal∧s'=⟨[(1,.ptr 0 0),(3,.d (.fn 156)),(4,.d (.fn 157)),(7,db x40.1),(8,.ptr 1 0),(10,.d (af 9 aC a0.filters)),(11,di (a0.filters.length:Int)),(12,di v0_0)],[.live (.var (ah a0)),.live (.var [di 0,di x6.2.2.2.1,di x6.2.2.2.2.1,di x6.2.2.2.2.2.1,di x40.2.1,di x40.2.2.1,.d (af 1 (eI .i64) x40.2.2.2),.nsl,di 0])]⟩) ?_ ?_
    ·
     have h:=ho39
     refine aa.condI h rfl (fun hc15 h=>?_) (fun hc15 h=>?_)
     ·
      refine aa.sr (ab.evn (h':=[.live (.var (ah a0)),.live (.var (aW x6.2.2.1)),.live (.var [di 0,di x6.2.2.2.1,di x6.2.2.2.2.1,di x6.2.2.2.2.2.1,di 0,di x6.2.2.2.2.2.2.2.1,.nsl,.nsl,di 0])]) [0,0,0,0] [] [] ?_)
      refine ao h fun x21 ho20 h=>?_
      refine aa.cut (Q':=fun e s'=>e = .normal∧s'=⟨[(1,.ptr 0 0),(3,.d (.fn 156)),(4,.d (.fn 157)),(7,db x21),(8,.ptr 1 0),(10,.d (af 9 aC a0.filters)),(11,di (a0.filters.length:Int)),(12,di v0_0)],[.live (.var (ah a0)),.live (.var [di 0,di x6.2.2.2.1,di x6.2.2.2.2.1,di x6.2.2.2.2.2.1,di 0,di x6.2.2.2.2.2.2.2.1,.nsl,.nsl,di 0])]⟩) ?_ ?_
      ·
       have h:=ho20
       refine au h (fun hc16 h=>?_) (fun hc16 h=>?_)
       ·
        refine au h (fun hc17 h=>?_) (fun hc17 h=>?_)
        ·
         refine au h (fun hc18 h=>?_) (fun hc18 h=>?_)
         ·
          refine ao h fun y19 hy19 h=>?_
          refine aa.region (ab.ev0 [0,0,1,0,0,0,0,1,0,0,0,0,0,0,0,3,3,3,3] [(59,db (decide (x6.2.2.1.left < (a0.nonterminals.length:Int)))),(60,.agg (ah a0)),(62,.d (af 1 (eI .i64) x6.2.2.1.tokens)),(63,.d (.fn 156))] [⟨_,hc16⟩,⟨_,hc17⟩,⟨_,hc18⟩,⟨_,hc18⟩,⟨_,hc18⟩,⟨_,hc18⟩] ?_)
          refine ab.gstep (v:=db y19) (ae.callS [] (lP k a0 x6.2.2.1.tokens _ hy19) rfl rfl ⟨⟨rfl,rfl,rfl,rfl,rfl,rfl,rfl,rfl,rfl,trivial⟩,rfl,rfl,trivial⟩ (by decide) rfl rfl trivial) rfl rfl rfl hc18 rfl rfl ?_
          refine ab.ev0n [10,0] [(7,db y19)] [⟨_,hc18⟩] ?_
          cases h
          exact ⟨_,(GStep.trans (GStep.keep [1,3,4,7,8,10,11,12]) (GStep.ren [0,2] (by decide) rfl rfl)),rfl,rfl⟩
         refine aa.region (ab.ev0n [0,0,1,0,0,0,0,1,0,0,0,0,0,0,0,2,0,0,0,0,0,0] [(7,db false)] [⟨_,hc16⟩,⟨_,hc17⟩,⟨_,hc18⟩] ?_)
         cases h
         exact ⟨_,(GStep.trans (GStep.keep [1,3,4,7,8,10,11,12]) (GStep.ren [0,2] (by decide) rfl rfl)),rfl,rfl⟩
        refine aa.region (ab.ev0n [0,0,1,0,0,0,0,2,0,0,0,0,0,0,0,0,0,0,0,0,0,0] [(7,db false)] [⟨_,hc16⟩,⟨_,hc17⟩] ?_)
        cases h
        exact ⟨_,(GStep.trans (GStep.keep [1,3,4,7,8,10,11,12]) (GStep.ren [0,2] (by decide) rfl rfl)),rfl,rfl⟩
       refine aa.region (ab.ev0n [0,0,2,0,0,0,0,0,0,0,0,0,0,0,0,0,0,0,0,0,0,0] [(7,db false)] [⟨_,hc16⟩] ?_)
       cases h
       exact ⟨_,(GStep.trans (GStep.keep [1,3,4,7,8,10,11,12]) (GStep.ren [0,2] (by decide) rfl rfl)),rfl,rfl⟩
      rintro e s' hq
      obtain ⟨rfl,rfl⟩:=hq
      cases h
      exact ⟨_,(GStep.trans (GStep.keep [1,3,4,7,8,10,11,12]) (GStep.sub (s':=⟨[(1,.ptr 0 0),(3,.d (.fn 156)),(4,.d (.fn 157)),(7,db x21),(8,.ptr 1 0),(10,.d (af 9 aC a0.filters)),(11,di (a0.filters.length:Int)),(12,di v0_0)],[.live (.var (ah a0)),.live (.var [di 0,di x6.2.2.2.1,di x6.2.2.2.2.1,di x6.2.2.2.2.2.1,di 0,di x6.2.2.2.2.2.2.2.1,.d (af 1 (eI .i64) []),.nsl,di 0])]⟩) ⟨⟨rfl,aF.refl _⟩,⟨rfl,aF.refl _⟩,⟨rfl,aF.refl _⟩,⟨rfl,aF.refl _⟩,⟨rfl,aF.refl _⟩,⟨rfl,aF.refl _⟩,⟨rfl,aF.refl _⟩,⟨rfl,aF.refl _⟩,trivial⟩ ⟨⟨aF.refl _,aF.refl _,aF.refl _,aF.refl _,aF.refl _,aF.refl _,aF.refl _,aF.refl _,aF.refl _,trivial⟩,⟨aF.refl _,aF.refl _,aF.refl _,aF.refl _,aF.refl _,aF.refl _,trivial,aF.refl _,aF.refl _,trivial⟩,trivial⟩)),rfl,rfl⟩
     refine aa.sr (ab.ev0n [0,0] [(66,db (decide (x6.1=5)))] [] ?_)
     refine ao h fun x38 ho37 h=>?_
     refine aa.cut (Q':=fun e s'=>e = .normal∧s'=⟨[(1,.ptr 0 0),(3,.d (.fn 156)),(4,.d (.fn 157)),(7,db x38.1),(8,.ptr 1 0),(10,.d (af 9 aC a0.filters)),(11,di (a0.filters.length:Int)),(12,di v0_0)],[.live (.var (ah a0)),.live (.var [di 0,di x6.2.2.2.1,di x6.2.2.2.2.1,di x6.2.2.2.2.2.1,di x6.2.2.2.2.2.2.1,di x38.2.1,.d (af 1 (eI .i64) x38.2.2),.nsl,di 0])]⟩) ?_ ?_
     ·
      have h:=ho37
      refine aa.condI h rfl (fun hc22 h=>?_) (fun hc22 h=>?_)
      ·
       refine aa.sr (ab.evn (h':=[.live (.var (ah a0)),.live (.var (aW x6.2.2.1)),.live (.var [di 0,di x6.2.2.2.1,di x6.2.2.2.2.1,di x6.2.2.2.2.2.1,di x6.2.2.2.2.2.2.1,di 0,.nsl,.nsl,di 0])]) [0,0,0,0] [] [] ?_)
       refine aa.seq ?_
       refine ao h fun x28 ho27 h=>?_
       refine aa.cut (Q':=fun e s'=>e = .normal∧s'=⟨[(1,.ptr 0 0),(3,.d (.fn 156)),(4,.d (.fn 157)),(6,.ptr 1 0),(7,db x28),(8,.ptr 2 0),(10,.d (af 9 aC a0.filters)),(11,di (a0.filters.length:Int)),(12,di v0_0)],[.live (.var (ah a0)),.live (.var (aW x6.2.2.1)),.live (.var [di 0,di x6.2.2.2.1,di x6.2.2.2.2.1,di x6.2.2.2.2.2.1,di x6.2.2.2.2.2.2.1,di 0,.nsl,.nsl,di 0])]⟩) ?_ ?_
       ·
        have h:=ho27
        refine au h (fun hc23 h=>?_) (fun hc23 h=>?_)
        ·
         refine ao h fun y24 hy24 h=>?_
         refine au h (fun hc25 h=>?_) (fun hc25 h=>?_)
         ·
          refine au h (fun hc26 h=>?_) (fun hc26 h=>?_)
          ·
           refine aa.region (ab.ev0 [0,0,3,3,3,3] [(71,db y3),(72,.agg (ah a0)),(74,.d (af 1 (eI .i64) x6.2.2.1.tokens)),(75,.d (.fn 157))] [⟨_,hc23⟩,⟨_,hc23⟩,⟨_,hc23⟩,⟨_,hc23⟩] ?_)
           refine ab.gstep (v:=db y24) (ae.callS [] (eL k a0 x6.2.2.1.tokens _ hy24) rfl rfl ⟨⟨rfl,rfl,rfl,rfl,rfl,rfl,rfl,rfl,rfl,trivial⟩,rfl,rfl,trivial⟩ (by decide) rfl rfl trivial) rfl rfl rfl hc23 rfl rfl ?_
           refine ab.ev0n [10,0,1,0,0,0,0,1,0,0,0,0,0,0,0] [(7,db (decide (x6.2.2.1.token < (a0.tokens.length:Int))))] [⟨_,hc23⟩,⟨_,hc25⟩,⟨_,hc26⟩] ?_
           cases h
           exact ⟨_,(GStep.keep [1,3,4,6,7,8,10,11,12]),rfl,rfl⟩
          refine aa.region (ab.ev0 [0,0,3,3,3,3] [(71,db y3),(72,.agg (ah a0)),(74,.d (af 1 (eI .i64) x6.2.2.1.tokens)),(75,.d (.fn 157))] [⟨_,hc23⟩,⟨_,hc23⟩,⟨_,hc23⟩,⟨_,hc23⟩] ?_)
          refine ab.gstep (v:=db y24) (ae.callS [] (eL k a0 x6.2.2.1.tokens _ hy24) rfl rfl ⟨⟨rfl,rfl,rfl,rfl,rfl,rfl,rfl,rfl,rfl,trivial⟩,rfl,rfl,trivial⟩ (by decide) rfl rfl trivial) rfl rfl rfl hc23 rfl rfl ?_
          refine ab.ev0n [10,0,1,0,0,0,0,2,0,0,0,0,0,0,0] [(7,db false)] [⟨_,hc23⟩,⟨_,hc25⟩,⟨_,hc26⟩] ?_
          cases h
          exact ⟨_,(GStep.keep [1,3,4,6,7,8,10,11,12]),rfl,rfl⟩
         refine aa.region (ab.ev0 [0,0,3,3,3,3] [(71,db y3),(72,.agg (ah a0)),(74,.d (af 1 (eI .i64) x6.2.2.1.tokens)),(75,.d (.fn 157))] [⟨_,hc23⟩,⟨_,hc23⟩,⟨_,hc23⟩,⟨_,hc23⟩] ?_)
         refine ab.gstep (v:=db y24) (ae.callS [] (eL k a0 x6.2.2.1.tokens _ hy24) rfl rfl ⟨⟨rfl,rfl,rfl,rfl,rfl,rfl,rfl,rfl,rfl,trivial⟩,rfl,rfl,trivial⟩ (by decide) rfl rfl trivial) rfl rfl rfl hc23 rfl rfl ?_
         refine ab.ev0n [10,0,2,0,0,0,0,0,0,0,0,0,0,0,0] [(7,db false)] [⟨_,hc23⟩,⟨_,hc25⟩] ?_
         cases h
         exact ⟨_,(GStep.keep [1,3,4,6,7,8,10,11,12]),rfl,rfl⟩
        refine aa.region (ab.ev0n [0,0,2,0,0,0,0,0,0,0,0,0,0,0,0,0,0,0,0,0,0,0] [(7,db false)] [⟨_,hc23⟩] ?_)
        cases h
        exact ⟨_,(GStep.keep [1,3,4,6,7,8,10,11,12]),rfl,rfl⟩
       rintro e s' hq
       obtain ⟨rfl,rfl⟩:=hq
       refine ao h fun x36 ho35 h=>?_
       refine aa.cut (Q':=fun e s'=>e = .normal∧s'=⟨[(1,.ptr 0 0),(3,.d (.fn 156)),(4,.d (.fn 157)),(7,db x36),(8,.ptr 1 0),(10,.d (af 9 aC a0.filters)),(11,di (a0.filters.length:Int)),(12,di v0_0)],[.live (.var (ah a0)),.live (.var [di 0,di x6.2.2.2.1,di x6.2.2.2.2.1,di x6.2.2.2.2.2.1,di x6.2.2.2.2.2.2.1,di 0,.nsl,.nsl,di 0])]⟩) ?_ ?_
       ·
        have h:=ho35
        refine au h (fun hc29 h=>?_) (fun hc29 h=>?_)
        ·
         refine aD h fun hb30 h=>?_
         refine ao h fun y31 hy31 h=>?_
         refine au h (fun hc32 h=>?_) (fun hc32 h=>?_)
         ·
          refine aD h fun hb33 h=>?_
          refine ao h fun y34 hy34 h=>?_
          refine aa.region (ab.ev0 [0,0,3,3,3,3,3,3,3] [(92,db x28),(93,.d (.fn 156)),(99,.agg (dp (nth a0.tokens x6.2.2.1.token)))] [⟨_,hc29⟩,⟨_,hc29⟩,⟨_,hc29⟩,⟨_,hc29⟩,⟨_,hc29⟩,⟨_,hc29⟩,⟨_,hb30.1⟩,⟨_,hb30.2⟩,⟨_,hc29⟩] ?_)
          refine ab.gstep (v:=db y31) (ae.callS [] (cU (nth a0.tokens x6.2.2.1.token) _ hy31) rfl rfl ⟨⟨rfl,rfl,rfl,rfl,rfl,rfl,rfl,trivial⟩,trivial⟩ (by decide) rfl rfl trivial) rfl rfl rfl hc29 rfl rfl ?_
          refine ab.ev0 [10,0,3,3,3,3,3,3,3] [(102,db y31),(103,.d (.fn 157)),(109,.agg (dp (nth a0.tokens x6.2.2.1.token)))] [⟨_,hc29⟩,⟨_,hc32⟩,⟨_,hc32⟩,⟨_,hc32⟩,⟨_,hc32⟩,⟨_,hc32⟩,⟨_,hc32⟩,⟨_,hb33.1⟩,⟨_,hb33.2⟩,⟨_,hc32⟩] ?_
          refine ab.gstep (v:=db y34) (ae.callS [] (eh (nth a0.tokens x6.2.2.1.token) _ hy34) rfl rfl ⟨⟨rfl,rfl,rfl,rfl,rfl,rfl,rfl,trivial⟩,trivial⟩ (by decide) rfl rfl trivial) rfl rfl rfl hc32 rfl rfl ?_
          refine ab.ev0n [3,10,0] [(7,db (!y34))] [⟨_,hc32⟩,⟨_,hc32⟩] ?_
          cases h
          exact ⟨_,(GStep.trans (GStep.keep [1,3,4,7,8,10,11,12]) (GStep.ren [0,2] (by decide) rfl rfl)),rfl,rfl⟩
         refine aa.region (ab.ev0 [0,0,3,3,3,3,3,3,3] [(92,db x28),(93,.d (.fn 156)),(99,.agg (dp (nth a0.tokens x6.2.2.1.token)))] [⟨_,hc29⟩,⟨_,hc29⟩,⟨_,hc29⟩,⟨_,hc29⟩,⟨_,hc29⟩,⟨_,hc29⟩,⟨_,hb30.1⟩,⟨_,hb30.2⟩,⟨_,hc29⟩] ?_)
         refine ab.gstep (v:=db y31) (ae.callS [] (cU (nth a0.tokens x6.2.2.1.token) _ hy31) rfl rfl ⟨⟨rfl,rfl,rfl,rfl,rfl,rfl,rfl,trivial⟩,trivial⟩ (by decide) rfl rfl trivial) rfl rfl rfl hc29 rfl rfl ?_
         refine ab.ev0n [10,0,2,0,0,0,0,0,0,0,0,0,0] [(7,db false)] [⟨_,hc29⟩,⟨_,hc32⟩] ?_
         cases h
         exact ⟨_,(GStep.trans (GStep.keep [1,3,4,7,8,10,11,12]) (GStep.ren [0,2] (by decide) rfl rfl)),rfl,rfl⟩
        refine aa.region (ab.ev0n [0,0,2,0,0,0,0,0,0,0,0,0,0,0,0,0,0,0,0,0,0,0,0] [(7,db false)] [⟨_,hc29⟩] ?_)
        cases h
        exact ⟨_,(GStep.trans (GStep.keep [1,3,4,7,8,10,11,12]) (GStep.ren [0,2] (by decide) rfl rfl)),rfl,rfl⟩
       rintro e s' hq
       obtain ⟨rfl,rfl⟩:=hq
       cases h
       exact ⟨_,(GStep.trans (GStep.keep [1,3,4,7,8,10,11,12]) (GStep.sub (s':=⟨[(1,.ptr 0 0),(3,.d (.fn 156)),(4,.d (.fn 157)),(7,db x36),(8,.ptr 1 0),(10,.d (af 9 aC a0.filters)),(11,di (a0.filters.length:Int)),(12,di v0_0)],[.live (.var (ah a0)),.live (.var [di 0,di x6.2.2.2.1,di x6.2.2.2.2.1,di x6.2.2.2.2.2.1,di x6.2.2.2.2.2.2.1,di 0,.d (af 1 (eI .i64) []),.nsl,di 0])]⟩) ⟨⟨rfl,aF.refl _⟩,⟨rfl,aF.refl _⟩,⟨rfl,aF.refl _⟩,⟨rfl,aF.refl _⟩,⟨rfl,aF.refl _⟩,⟨rfl,aF.refl _⟩,⟨rfl,aF.refl _⟩,⟨rfl,aF.refl _⟩,trivial⟩ ⟨⟨aF.refl _,aF.refl _,aF.refl _,aF.refl _,aF.refl _,aF.refl _,aF.refl _,aF.refl _,aF.refl _,trivial⟩,⟨aF.refl _,aF.refl _,aF.refl _,aF.refl _,aF.refl _,aF.refl _,trivial,aF.refl _,aF.refl _,trivial⟩,trivial⟩)),rfl,rfl⟩
      refine aa.region (ab.ev0n [0] [(7,db false)] [] ?_)
      cases h
      exact ⟨_,(GStep.trans (GStep.keep [1,3,4,7,8,10,11,12]) (GStep.ren [0,2] (by decide) rfl rfl)),rfl,rfl⟩
     rintro e s' hq
     obtain ⟨rfl,rfl⟩:=hq
     cases h
     exact ⟨_,(GStep.keep [1,3,4,7,8,10,11,12]),rfl,rfl⟩
    rintro e s' hq
    obtain ⟨rfl,rfl⟩:=hq
    cases h
    exact ⟨_,(GStep.keep [1,3,4,7,8,10,11,12]),rfl,rfl⟩
   rintro e s' hq
   obtain ⟨rfl,rfl⟩:=hq
   refine aa.seq ?_
   refine ao h fun x50 ho49 h=>?_
   refine aa.cut (Q':=fun e s'=>e = .normal∧s'=⟨[(1,.ptr 0 0),(3,.d (.fn 156)),(4,.d (.fn 157)),(10,.d (af 9 aC a0.filters)),(11,di (a0.filters.length:Int)),(12,di v0_0),(145,db x50)],[.live (.var (ah a0))]⟩) ?_ ?_
   ·
    have h:=ho49
    refine au h (fun hc43 h=>?_) (fun hc43 h=>?_)
    ·
     refine aa.region (ab.ev0n [0,0,0,2,0,0,0,0,0,0,0,0,0,0,0,0,0,0,0,0,0,0,0,0,0,0,0,0,0,0,0,0,0] [(145,db true)] [⟨_,hc43⟩] ?_)
     cases h
     exact ⟨_,(GStep.trans (GStep.keep [1,3,4,10,11,12,145]) (GStep.ren [0] (by decide) rfl rfl)),rfl,rfl⟩
    refine au h (fun hc44 h=>?_) (fun hc44 h=>?_)
    ·
     refine aa.region (ab.ev0n [0,0,0,1,0,0,0,0,2,0,0,0,0,0,0,0,0,0,0,0,0,0,0,0,0,0,0,0,0,0,0,0,0] [(145,db true)] [⟨_,hc43⟩,⟨_,hc44⟩] ?_)
     cases h
     exact ⟨_,(GStep.trans (GStep.keep [1,3,4,10,11,12,145]) (GStep.ren [0] (by decide) rfl rfl)),rfl,rfl⟩
    refine au h (fun hc45 h=>?_) (fun hc45 h=>?_)
    ·
     refine aa.region (ab.ev0n [0,0,0,1,0,0,0,0,1,0,0,0,0,2,0,0,0,0,0,0,0,0,0,0,0,0,0,0,0,0,0,0,0] [(145,db true)] [⟨_,hc43⟩,⟨_,hc44⟩,⟨_,hc45⟩] ?_)
     cases h
     exact ⟨_,(GStep.trans (GStep.keep [1,3,4,10,11,12,145]) (GStep.ren [0] (by decide) rfl rfl)),rfl,rfl⟩
    refine au h (fun hc46 h=>?_) (fun hc46 h=>?_)
    ·
     refine aa.region (ab.ev0n [0,0,0,1,0,0,0,0,1,0,0,0,0,1,0,0,0,0,2,0,0,0,0,0,0,0,0,0,0,0,0,0,0] [(145,db true)] [⟨_,hc43⟩,⟨_,hc44⟩,⟨_,hc45⟩,⟨_,hc46⟩] ?_)
     cases h
     exact ⟨_,(GStep.trans (GStep.keep [1,3,4,10,11,12,145]) (GStep.ren [0] (by decide) rfl rfl)),rfl,rfl⟩
    refine au h (fun hc47 h=>?_) (fun hc47 h=>?_)
    ·
     refine aa.region (ab.ev0n [0,0,0,1,0,0,0,0,1,0,0,0,0,1,0,0,0,0,1,0,0,0,0,2,0,0,0,0,0,0,0,0,0] [(145,db true)] [⟨_,hc43⟩,⟨_,hc44⟩,⟨_,hc45⟩,⟨_,hc46⟩,⟨_,hc47⟩] ?_)
     cases h
     exact ⟨_,(GStep.trans (GStep.keep [1,3,4,10,11,12,145]) (GStep.ren [0] (by decide) rfl rfl)),rfl,rfl⟩
    refine au h (fun hc48 h=>?_) (fun hc48 h=>?_)
    ·
     refine aa.region (ab.ev0n [0,0,0,1,0,0,0,0,1,0,0,0,0,1,0,0,0,0,1,0,0,0,0,1,0,0,0,0,2,0,0,0,0] [(145,db true)] [⟨_,hc43⟩,⟨_,hc44⟩,⟨_,hc45⟩,⟨_,hc46⟩,⟨_,hc47⟩,⟨_,hc48⟩] ?_)
     cases h
     exact ⟨_,(GStep.trans (GStep.keep [1,3,4,10,11,12,145]) (GStep.ren [0] (by decide) rfl rfl)),rfl,rfl⟩
    refine aa.region (ab.ev0n [0,0,0,1,0,0,0,0,1,0,0,0,0,1,0,0,0,0,1,0,0,0,0,1,0,0,0,0,1,0,0,0,0] [(145,db (decide ((x42.2.2.2.2.2.2.length:Int) > 0)))] [⟨_,hc43⟩,⟨_,hc44⟩,⟨_,hc45⟩,⟨_,hc46⟩,⟨_,hc47⟩,⟨_,hc48⟩] ?_)
    cases h
    exact ⟨_,(GStep.trans (GStep.keep [1,3,4,10,11,12,145]) (GStep.ren [0] (by decide) rfl rfl)),rfl,rfl⟩
   rintro e s' hq
   obtain ⟨rfl,rfl⟩:=hq
   refine aa.condI h rfl (fun hc51 h=>?_) (fun hc51 h=>?_)
   ·
    refine aa.sr (ab.ev0n [0] [(2,di 53)] [] ?_)
    refine aa.ret ?_
    cases h
    exact ⟨_,(GStep.trans (GStep.keep [2]) (GStep.ren [] (by decide) rfl rfl)),rfl,Fin.mk2 (aB.one (.tmp rfl)) [] (by decide) rfl rfl rfl rfl⟩
   refine aa.skip ?_
   refine aa.region (ab.ev0n [0,0] [(12,di (IntKind.wrap .i64 (v0_0+1)))] [] ?_)
   exact aM.ghost (GStep.keep [1,3,4,10,11,12]) (ih (IntKind.wrap .i64 (v0_0+1)) h)
  refine aa.exit ?_
  cases h
  exact ⟨_,(GStep.trans (GStep.keep []) (GStep.ren [] (by decide) rfl rfl)),rfl,rfl⟩
 rcases o54 with r52 | x53
 ·
  rintro e s' hq
  obtain ⟨rfl,hq⟩:=hq
  cases h
  exact ⟨_,GStep.refl _ _,.inr rfl,hq⟩
 rintro e s' hq
 obtain ⟨rfl,rfl⟩:=hq
 refine aa.sr (ab.ev0n [0] [(2,di 0)] [] ?_)
 refine aa.ret ?_
 cases h
 exact ⟨_,(GStep.keep [2]),.inr rfl,Fin.mk2 (aB.one (.tmp rfl)) [] (by decide) rfl rfl rfl rfl⟩
noncomputable def bj (k:Nat)(a0:am):Option Int:=((eO k a0).bind fun y1=>(if y1=true then some 2 else ((cJ k a0).bind fun y3=>(if (!decide (y3=0))=true then some y3 else ((cK k a0).bind fun y5=>(if (!decide (y5=0))=true then some y5 else ((bg k a0).bind fun y7=>(if (!decide (y7=0))=true then some y7 else ((bc k a0).bind fun y9=>(if (!decide (y9=0))=true then some y9 else ((bN k a0).bind fun y11=>(if (!decide (y11=0))=true then some y11 else ((bG k a0).bind fun y13=>(if (!decide (y13=0))=true then some y13 else some 0))))))))))))))
set_option maxRecDepth 100000 in
set_option maxHeartbeats 4000000 in
theorem bz (k:Nat)(a0:am)(r:Int)(h:bj k a0=some r):SC P 20 [.agg (ah a0)] [] (di r) []:=by
 unfold bj at h
 refine SC.intro3 (N:=23) Tryz.func20 rfl rfl Tryz.ntmps20 rfl ?_
 refine aa.sr (ab.evn (h':=[.live (.var (ah a0))]) [0,0] [(1,.ptr 0 0)] [] ?_)
 refine aa.seq ?_
 refine aa.seq ?_
 refine ao h fun y1 hy1 h=>?_
 refine aa.region (ab.ev0 [0] [(7,.agg (ah a0))] [] ?_)
 refine ab.step (v:=db y1) (ae.callS [] (oO k a0 _ hy1) rfl rfl ⟨⟨rfl,rfl,rfl,rfl,rfl,rfl,rfl,rfl,rfl,trivial⟩,trivial⟩ (by decide) rfl rfl trivial) rfl rfl rfl ?_
 refine ab.nil ?_
 refine aa.condI h rfl (fun hc2 h=>?_) (fun hc2 h=>?_)
 ·
  refine aa.sr (ab.ev0n [0] [(2,di 2)] [] ?_)
  refine aa.ret ?_
  cases h
  exact ⟨_,(GStep.trans (GStep.keep [2]) (GStep.ren [] (by decide) rfl rfl)),.inr rfl,Fin.mk2 (aB.one (.tmp rfl)) [] (by decide) rfl rfl rfl rfl⟩
 refine aa.skip ?_
 refine aa.sr ?_
 refine ab.step (v:=.rsl [.d (.fn 75),.d (.fn 76),.d (.fn 77),.d (.fn 78),.d (.fn 79),.d (.fn 80)]) (ae.bsliceR rfl ka Ao rfl rfl rfl rfl) rfl rfl rfl ?_
 refine ab.ev0n [0] [(3,.rsl [.d (.fn 75),.d (.fn 76),.d (.fn 77),.d (.fn 78),.d (.fn 79),.d (.fn 80)])] [] ?_
 refine aa.seq ?_
 refine aa.sr (ab.ev0n [0,0,0] [(10,.rsl [.d (.fn 75),.d (.fn 76),.d (.fn 77),.d (.fn 78),.d (.fn 79),.d (.fn 80)]),(11,di 6),(12,di 0)] [] ?_)
 refine aa.block ?_
 refine aa.loop 20 ?_
 refine aM.step ?_
 refine aa.sr (ab.ev0n [0] [(13,db true)] [] ?_)
 refine aa.seq ?_
 refine aa.condT (t:=true) rfl rfl ?_
 refine aa.skip ?_
 refine aa.seq ?_
 refine aa.block ?_
 refine aa.sr ?_
 refine ab.step (v:=.rp (.d (.fn 75))) (ae.indexR (i:=0) rfl rfl rfl ka rfl) rfl rfl rfl ?_
 refine ab.step (v:=.d (.fn 75)) (ae.loadR rfl rfl n8) rfl rfl rfl ?_
 refine ab.ev0n [0] [(5,.d (.fn 75))] [] ?_
 refine aa.seq ?_
 refine ao h fun y3 hy3 h=>?_
 refine aa.region (ab.ev0 [0,0] [(16,.d (.fn 75)),(17,.agg (ah a0))] [] ?_)
 refine ab.step (v:=di y3) (ae.callS [] (kM k a0 _ hy3) rfl rfl ⟨⟨rfl,rfl,rfl,rfl,rfl,rfl,rfl,rfl,rfl,trivial⟩,trivial⟩ (by decide) rfl rfl trivial) rfl rfl rfl ?_
 refine ab.ev0n [0] [(6,di y3)] [] ?_
 refine aa.sr (ab.ev0n [0,0] [(20,db (!decide (y3=0)))] [] ?_)
 refine aa.condI h rfl (fun hc4 h=>?_) (fun hc4 h=>?_)
 ·
  refine aa.sr (ab.ev0n [0,0] [(2,di y3)] [] ?_)
  refine aa.ret ?_
  cases h
  exact ⟨_,(GStep.trans (GStep.keep [2]) (GStep.ren [] (by decide) rfl rfl)),.inr rfl,Fin.mk2 (aB.one (.tmp rfl)) [] (by decide) rfl rfl rfl rfl⟩
 refine aa.skip ?_
 refine aa.region (ab.ev0n [0,0] [(12,di 1)] [] ?_)
 refine aM.step ?_
 refine aa.sr (ab.ev0n [0] [(13,db true)] [] ?_)
 refine aa.seq ?_
 refine aa.condT (t:=true) rfl rfl ?_
 refine aa.skip ?_
 refine aa.seq ?_
 refine aa.block ?_
 refine aa.sr ?_
 refine ab.step (v:=.rp (.d (.fn 76))) (ae.indexR (i:=1) rfl rfl rfl ka rfl) rfl rfl rfl ?_
 refine ab.step (v:=.d (.fn 76)) (ae.loadR rfl rfl n8) rfl rfl rfl ?_
 refine ab.ev0n [0] [(5,.d (.fn 76))] [] ?_
 refine aa.seq ?_
 refine ao h fun y5 hy5 h=>?_
 refine aa.region (ab.ev0 [0,0] [(16,.d (.fn 76)),(17,.agg (ah a0))] [] ?_)
 refine ab.step (v:=di y5) (ae.callS [] (kO k a0 _ hy5) rfl rfl ⟨⟨rfl,rfl,rfl,rfl,rfl,rfl,rfl,rfl,rfl,trivial⟩,trivial⟩ (by decide) rfl rfl trivial) rfl rfl rfl ?_
 refine ab.ev0n [0] [(6,di y5)] [] ?_
 refine aa.sr (ab.ev0n [0,0] [(19,di y5),(20,db (!decide (y5=0)))] [] ?_)
 refine aa.condI h rfl (fun hc6 h=>?_) (fun hc6 h=>?_)
 ·
  refine aa.sr (ab.ev0n [0,0] [(2,di y5)] [] ?_)
  refine aa.ret ?_
  cases h
  exact ⟨_,(GStep.trans (GStep.keep [2]) (GStep.ren [] (by decide) rfl rfl)),.inr rfl,Fin.mk2 (aB.one (.tmp rfl)) [] (by decide) rfl rfl rfl rfl⟩
 refine aa.skip ?_
 refine aa.region (ab.ev0n [0,0] [(22,di 2),(12,di 2)] [] ?_)
 refine aM.step ?_
 refine aa.sr (ab.ev0n [0] [(13,db true)] [] ?_)
 refine aa.seq ?_
 refine aa.condT (t:=true) rfl rfl ?_
 refine aa.skip ?_
 refine aa.seq ?_
 refine aa.block ?_
 refine aa.sr ?_
 refine ab.step (v:=.rp (.d (.fn 77))) (ae.indexR (i:=2) rfl rfl rfl ka rfl) rfl rfl rfl ?_
 refine ab.step (v:=.d (.fn 77)) (ae.loadR rfl rfl n8) rfl rfl rfl ?_
 refine ab.ev0n [0] [(5,.d (.fn 77))] [] ?_
 refine aa.seq ?_
 refine ao h fun y7 hy7 h=>?_
 refine aa.region (ab.ev0 [0,0] [(16,.d (.fn 77)),(17,.agg (ah a0))] [] ?_)
 refine ab.step (v:=di y7) (ae.callS [] (iL k a0 _ hy7) rfl rfl ⟨⟨rfl,rfl,rfl,rfl,rfl,rfl,rfl,rfl,rfl,trivial⟩,trivial⟩ (by decide) rfl rfl trivial) rfl rfl rfl ?_
 refine ab.ev0n [0] [(6,di y7)] [] ?_
 refine aa.sr (ab.ev0n [0,0] [(19,di y7),(20,db (!decide (y7=0)))] [] ?_)
 refine aa.condI h rfl (fun hc8 h=>?_) (fun hc8 h=>?_)
 ·
  refine aa.sr (ab.ev0n [0,0] [(2,di y7)] [] ?_)
  refine aa.ret ?_
  cases h
  exact ⟨_,(GStep.trans (GStep.keep [2]) (GStep.ren [] (by decide) rfl rfl)),.inr rfl,Fin.mk2 (aB.one (.tmp rfl)) [] (by decide) rfl rfl rfl rfl⟩
 refine aa.skip ?_
 refine aa.region (ab.ev0n [0,0] [(22,di 3),(12,di 3)] [] ?_)
 refine aM.step ?_
 refine aa.sr (ab.ev0n [0] [(13,db true)] [] ?_)
 refine aa.seq ?_
 refine aa.condT (t:=true) rfl rfl ?_
 refine aa.skip ?_
 refine aa.seq ?_
 refine aa.block ?_
 refine aa.sr ?_
 refine ab.step (v:=.rp (.d (.fn 78))) (ae.indexR (i:=3) rfl rfl rfl ka rfl) rfl rfl rfl ?_
 refine ab.step (v:=.d (.fn 78)) (ae.loadR rfl rfl n8) rfl rfl rfl ?_
 refine ab.ev0n [0] [(5,.d (.fn 78))] [] ?_
 refine aa.seq ?_
 refine ao h fun y9 hy9 h=>?_
 refine aa.region (ab.ev0 [0,0] [(16,.d (.fn 78)),(17,.agg (ah a0))] [] ?_)
 refine ab.step (v:=di y9) (ae.callS [] (i9 k a0 _ hy9) rfl rfl ⟨⟨rfl,rfl,rfl,rfl,rfl,rfl,rfl,rfl,rfl,trivial⟩,trivial⟩ (by decide) rfl rfl trivial) rfl rfl rfl ?_
 refine ab.ev0n [0] [(6,di y9)] [] ?_
 refine aa.sr (ab.ev0n [0,0] [(19,di y9),(20,db (!decide (y9=0)))] [] ?_)
 refine aa.condI h rfl (fun hc10 h=>?_) (fun hc10 h=>?_)
 ·
  refine aa.sr (ab.ev0n [0,0] [(2,di y9)] [] ?_)
  refine aa.ret ?_
  cases h
  exact ⟨_,(GStep.trans (GStep.keep [2]) (GStep.ren [] (by decide) rfl rfl)),.inr rfl,Fin.mk2 (aB.one (.tmp rfl)) [] (by decide) rfl rfl rfl rfl⟩
 refine aa.skip ?_
 refine aa.region (ab.ev0n [0,0] [(22,di 4),(12,di 4)] [] ?_)
 refine aM.step ?_
 refine aa.sr (ab.ev0n [0] [(13,db true)] [] ?_)
 refine aa.seq ?_
 refine aa.condT (t:=true) rfl rfl ?_
 refine aa.skip ?_
 refine aa.seq ?_
 refine aa.block ?_
 refine aa.sr ?_
 refine ab.step (v:=.rp (.d (.fn 79))) (ae.indexR (i:=4) rfl rfl rfl ka rfl) rfl rfl rfl ?_
 refine ab.step (v:=.d (.fn 79)) (ae.loadR rfl rfl n8) rfl rfl rfl ?_
 refine ab.ev0n [0] [(5,.d (.fn 79))] [] ?_
 refine aa.seq ?_
 refine ao h fun y11 hy11 h=>?_
 refine aa.region (ab.ev0 [0,0] [(16,.d (.fn 79)),(17,.agg (ah a0))] [] ?_)
 refine ab.step (v:=di y11) (ae.callS [] (kN k a0 _ hy11) rfl rfl ⟨⟨rfl,rfl,rfl,rfl,rfl,rfl,rfl,rfl,rfl,trivial⟩,trivial⟩ (by decide) rfl rfl trivial) rfl rfl rfl ?_
 refine ab.ev0n [0] [(6,di y11)] [] ?_
 refine aa.sr (ab.ev0n [0,0] [(19,di y11),(20,db (!decide (y11=0)))] [] ?_)
 refine aa.condI h rfl (fun hc12 h=>?_) (fun hc12 h=>?_)
 ·
  refine aa.sr (ab.ev0n [0,0] [(2,di y11)] [] ?_)
  refine aa.ret ?_
  cases h
  exact ⟨_,(GStep.trans (GStep.keep [2]) (GStep.ren [] (by decide) rfl rfl)),.inr rfl,Fin.mk2 (aB.one (.tmp rfl)) [] (by decide) rfl rfl rfl rfl⟩
 refine aa.skip ?_
 refine aa.region (ab.ev0n [0,0] [(22,di 5),(12,di 5)] [] ?_)
 refine aM.step ?_
 refine aa.sr (ab.ev0n [0] [(13,db true)] [] ?_)
 refine aa.seq ?_
 refine aa.condT (t:=true) rfl rfl ?_
 refine aa.skip ?_
 refine aa.seq ?_
 refine aa.block ?_
 refine aa.sr ?_
 refine ab.step (v:=.rp (.d (.fn 80))) (ae.indexR (i:=5) rfl rfl rfl ka rfl) rfl rfl rfl ?_
 refine ab.step (v:=.d (.fn 80)) (ae.loadR rfl rfl n8) rfl rfl rfl ?_
 refine ab.ev0n [0] [(5,.d (.fn 80))] [] ?_
 refine aa.seq ?_
 refine ao h fun y13 hy13 h=>?_
 refine aa.region (ab.ev0 [0,0] [(16,.d (.fn 80)),(17,.agg (ah a0))] [] ?_)
 refine ab.step (v:=di y13) (ae.callS [] (kh k a0 _ hy13) rfl rfl ⟨⟨rfl,rfl,rfl,rfl,rfl,rfl,rfl,rfl,rfl,trivial⟩,trivial⟩ (by decide) rfl rfl trivial) rfl rfl rfl ?_
 refine ab.ev0n [0] [(6,di y13)] [] ?_
 refine aa.sr (ab.ev0n [0,0] [(19,di y13),(20,db (!decide (y13=0)))] [] ?_)
 refine aa.condI h rfl (fun hc14 h=>?_) (fun hc14 h=>?_)
 ·
  refine aa.sr (ab.ev0n [0,0] [(2,di y13)] [] ?_)
  refine aa.ret ?_
  cases h
  exact ⟨_,(GStep.trans (GStep.keep [2]) (GStep.ren [] (by decide) rfl rfl)),.inr rfl,Fin.mk2 (aB.one (.tmp rfl)) [] (by decide) rfl rfl rfl rfl⟩
 refine aa.skip ?_
 refine aa.region (ab.ev0n [0,0] [(22,di 6),(12,di 6)] [] ?_)
 refine aM.step ?_
 refine aa.sr (ab.ev0n [0] [(13,db false)] [] ?_)
 refine aa.seq ?_
 refine aa.condF (t:=false) rfl rfl ?_
 refine aa.exit ?_
 refine aa.sr (ab.ev0n [0] [(2,di 0)] [] ?_)
 refine aa.ret ?_
 cases h
 exact ⟨_,(GStep.trans (GStep.keep [2]) (GStep.ren [] (by decide) rfl rfl)),.inr rfl,Fin.mk2 (aB.one (.tmp rfl)) [] (by decide) rfl rfl rfl rfl⟩
noncomputable def gr (k:Nat)(a0:am)(a1:Int):Option (Int×Int×Int):=((bj k a0).bind fun y1=>(if (!decide (y1=0))=true then some (0,0,y1) else none))
set_option maxRecDepth 100000 in
set_option maxHeartbeats 4000000 in
theorem rO (k:Nat)(a0:am)(a1:Int)(r:Int×Int×Int)(h:gr k a0 a1=some r):SC P 21 [.agg (ah a0),.d (.int .u64 a1)] [] (.tup [.agg [.nsl,.nsl,di r.1,.nsl,.nsl,.nsl,di r.2.1,.nsl,.nsl],di r.2.2]) []:=by
 unfold gr at h
 refine SC.intro3 (N:=133) Tryz.func21 rfl rfl Tryz.ntmps21 rfl ?_
 refine aa.sr (ab.evn (h':=[.live (.var (ah a0)),.live (.var [.d (.int .u64 a1)]),.live (.var [.nsl,.nsl,di 0,.nsl,.nsl,.nsl,di 0,.nsl,.nsl])]) [0,0,0,0] [(2,.ptr 0 0),(3,.ptr 1 0),(4,.ptr 2 0)] [] ?_)
 refine aa.seq ?_
 refine aa.seq ?_
 refine ao h fun y1 hy1 h=>?_
 refine aa.region (ab.ev0 [0] [(17,.agg (ah a0))] [] ?_)
 refine ab.step (v:=di y1) (ae.callS [] (bz k a0 _ hy1) rfl rfl ⟨⟨rfl,rfl,rfl,rfl,rfl,rfl,rfl,rfl,rfl,trivial⟩,trivial⟩ (by decide) rfl rfl trivial) rfl rfl rfl ?_
 refine ab.ev0n [0] [(6,di y1)] [] ?_
 refine aa.sr (ab.ev0n [0,0] [(20,db (!decide (y1=0)))] [] ?_)
 refine aa.condI h rfl (fun hc2 h=>?_) (fun hc2 h=>?_)
 ·
  refine aa.sr (ab.evn (h':=[.live (.var (ah a0)),.live (.var [.d (.int .u64 a1)]),.live (.var [.nsl,.nsl,di 0,.nsl,.nsl,.nsl,di 0,.nsl,.nsl])]) [0,0,0,0] [(5,di y1)] [] ?_)
  refine aa.ret ?_
  cases h
  exact ⟨_,(GStep.trans (GStep.keep [4,5]) (GStep.ren [2] (by decide) rfl rfl)),.inr rfl,Fin.mk2 (aB.two (.cellA rfl en rfl rfl) (.tmp rfl)) [] (by decide) rfl rfl rfl ⟨⟨rfl,rfl,rfl,rfl,rfl,rfl,rfl,rfl,rfl,trivial⟩,rfl,trivial⟩⟩
 refine aa.skip ?_
 refine aa.seq ?_
 refine aa.seq ?_
 cases h
noncomputable def ep (k:Nat)(a0:am):Option Int:=((bj k a0).bind fun y1=>(if (!decide (y1=0))=true then some y1 else none))
set_option maxRecDepth 100000 in
set_option maxHeartbeats 4000000 in
theorem od (k:Nat)(a0:am)(r:Int)(h:ep k a0=some r):SC P 14 [.agg (ah a0)] [] (.tup [.nsl,di r]) []:=by
 unfold ep at h
 refine SC.intro3 (N:=19) Tryz.func14 rfl rfl Tryz.ntmps14 rfl ?_
 refine aa.sr (ab.evn (h':=[.live (.var (ah a0))]) [0,0,0] [(1,.ptr 0 0)] [] ?_)
 refine aa.seq ?_
 refine aa.seq ?_
 refine ao h fun y1 hy1 h=>?_
 refine aa.region (ab.ev0 [0] [(6,.agg (ah a0))] [] ?_)
 refine ab.step (v:=di y1) (ae.callS [] (bz k a0 _ hy1) rfl rfl ⟨⟨rfl,rfl,rfl,rfl,rfl,rfl,rfl,rfl,rfl,trivial⟩,trivial⟩ (by decide) rfl rfl trivial) rfl rfl rfl ?_
 refine ab.ev0n [0] [(4,di y1)] [] ?_
 refine aa.sr (ab.ev0n [0,0] [(9,db (!decide (y1=0)))] [] ?_)
 refine aa.condI h rfl (fun hc2 h=>?_) (fun hc2 h=>?_)
 ·
  refine aa.sr (ab.ev0n [0,0,0] [(2,.nsl),(3,di y1)] [] ?_)
  refine aa.ret ?_
  cases h
  exact ⟨_,(GStep.trans (GStep.keep [2,3]) (GStep.ren [] (by decide) rfl rfl)),.inr rfl,Fin.mk2 (aB.two (.tmp rfl) (.tmp rfl)) [] (by decide) rfl rfl rfl ⟨rfl,rfl,trivial⟩⟩
 refine aa.skip ?_
 refine aa.sr (ab.evn (h':=[.live (.var (ah a0)),.live (.var [di 0,.nsl,di 0,db false])]) [0,0,0] [(5,.ptr 1 0)] [] ?_)
 refine aa.seq ?_
 cases h
noncomputable def dW (k:Nat)(a0:am)(a1:Int):Option Bool:=((((bj k a0).bind fun y1=>(if (!decide (y1=0))=true then some true else some (decide (a1 < 1)))):Option Bool).bind fun x4=>(if x4=true then some false else none))
set_option maxRecDepth 100000 in
set_option maxHeartbeats 4000000 in
theorem mV (k:Nat)(a0:am)(a1:Int)(r:Bool)(h:dW k a0 a1=some r):SC P 23 [.agg (ah a0),di a1] [] (.tup [.nsl,db r]) []:=by
 unfold dW at h
 refine SC.intro3 (N:=26) Tryz.func23 rfl rfl Tryz.ntmps23 rfl ?_
 refine aa.sr (ab.evn (h':=[.live (.var (ah a0)),.live (.var [di a1])]) [0,0,0,0] [(2,.ptr 0 0),(3,.ptr 1 0)] [] ?_)
 refine aa.seq ?_
 refine aa.seq ?_
 refine ao h fun x4 ho3 h=>?_
 refine aa.cut (Q':=fun e s'=>e = .normal∧s'=⟨[(2,.ptr 0 0),(3,.ptr 1 0),(15,db x4)],[.live (.var (ah a0)),.live (.var [di a1])]⟩) ?_ ?_
 ·
  have h:=ho3
  refine ao h fun y1 hy1 h=>?_
  refine au h (fun hc2 h=>?_) (fun hc2 h=>?_)
  ·
   refine aa.region (ab.ev0 [0] [(9,.agg (ah a0))] [] ?_)
   refine ab.step (v:=di y1) (ae.callS [] (bz k a0 _ hy1) rfl rfl ⟨⟨rfl,rfl,rfl,rfl,rfl,rfl,rfl,rfl,rfl,trivial⟩,trivial⟩ (by decide) rfl rfl trivial) rfl rfl rfl ?_
   refine ab.ev0n [0,0,2,0,0] [(15,db true)] [⟨_,hc2⟩] ?_
   cases h
   exact ⟨_,(GStep.keep [2,3,15]),rfl,rfl⟩
  refine aa.region (ab.ev0 [0] [(9,.agg (ah a0))] [] ?_)
  refine ab.step (v:=di y1) (ae.callS [] (bz k a0 _ hy1) rfl rfl ⟨⟨rfl,rfl,rfl,rfl,rfl,rfl,rfl,rfl,rfl,trivial⟩,trivial⟩ (by decide) rfl rfl trivial) rfl rfl rfl ?_
  refine ab.ev0n [0,0,1,0,0] [(15,db (decide (a1 < 1)))] [⟨_,hc2⟩] ?_
  cases h
  exact ⟨_,(GStep.keep [2,3,15]),rfl,rfl⟩
 rintro e s' hq
 obtain ⟨rfl,rfl⟩:=hq
 refine aa.condI h rfl (fun hc5 h=>?_) (fun hc5 h=>?_)
 ·
  refine aa.sr (ab.ev0n [0,0] [(4,.nsl),(5,db false)] [] ?_)
  refine aa.ret ?_
  cases h
  exact ⟨_,(GStep.trans (GStep.keep [4,5]) (GStep.ren [] (by decide) rfl rfl)),.inr rfl,Fin.mk2 (aB.two (.tmp rfl) (.tmp rfl)) [] (by decide) rfl rfl rfl ⟨rfl,rfl,trivial⟩⟩
 refine aa.skip ?_
 refine aa.sr (ab.evn (h':=[.live (.var (ah a0)),.live (.var [di a1]),.live (.var [.nsl])]) [0] [(6,.ptr 2 0)] [] ?_)
 refine aa.sr (ab.evn (h':=[.live (.var (ah a0)),.live (.var [di a1]),.live (.var [.nsl]),.live (.var [.d .nilf])]) [0] [(7,.ptr 3 0)] [] ?_)
 refine aa.sr (ab.evn (h':=[.live (.var (ah a0)),.live (.var [di a1]),.live (.var [.nsl]),.live (.var [.clo 91 [] [.ptr 2 0,.ptr 1 0,.ptr 3 0]])]) [0,0] [] [] ?_)
 refine aa.seq ?_
 cases h
noncomputable def gt (k:Nat)(a0:am)(a1:Int):Option Bool:=((bj k a0).bind fun y1=>(if (decide (y1=0))=true then none else some false))
set_option maxRecDepth 100000 in
set_option maxHeartbeats 4000000 in
theorem mq (k:Nat)(a0:am)(a1:Int)(r:Bool)(h:gt k a0 a1=some r):SC P 25 [.agg (ah a0),.d (.int .u64 a1)] [] (db r) []:=by
 unfold gt at h
 refine SC.intro3 (N:=13) Tryz.func25 rfl rfl Tryz.ntmps25 rfl ?_
 refine aa.sr (ab.evn (h':=[.live (.var (ah a0))]) [0,0] [(2,.ptr 0 0)] [] ?_)
 refine aa.seq ?_
 refine ao h fun y1 hy1 h=>?_
 refine au h (fun hc2 h=>?_) (fun hc2 h=>?_)
 ·
  cases h
 refine aa.region (ab.ev0 [0] [(5,.agg (ah a0))] [] ?_)
 refine ab.step (v:=di y1) (ae.callS [] (bz k a0 _ hy1) rfl rfl ⟨⟨rfl,rfl,rfl,rfl,rfl,rfl,rfl,rfl,rfl,trivial⟩,trivial⟩ (by decide) rfl rfl trivial) rfl rfl rfl ?_
 refine ab.ev0n [0,0,2,0,0,0,0] [(4,db false)] [⟨_,hc2⟩] ?_
 refine aa.ret ?_
 cases h
 exact ⟨_,(GStep.trans (GStep.keep [4]) (GStep.ren [] (by decide) rfl rfl)),.inr rfl,Fin.mk2 (aB.one (.tmp rfl)) [] (by decide) rfl rfl rfl rfl⟩
noncomputable def eF (k:Nat)(a0:Raw)(a1:Int)(a2:Int):Option Bool:=((m3).bind fun y1=>((it k a0).bind fun y2=>(((if (decide (a2≥0))=true then some (decide (a2 < 2000)) else some false):Option Bool).bind fun x5=>(((if x5=true then some (IntKind.wrap .i64 (a2+2000)) else some a2):Option Int).bind fun x8=>(if (([]:List aj).length+y2.productions.length)*160≤140737488355328 then (if (y2.productions.length:Int)≠0 then (((if (decide ((Int.tmod a1 8)=0))=true then some (50,x8,y2.levels,y2.filters,y2.productions) else (((if (decide ((Int.tmod a1 8)=1))=true then (if (0:Int)≤(Int.tmod (IntKind.wrap .i64 (IntKind.wrap .u8 (Int.tdiv a1 8))) (y2.productions.length:Int))∧(Int.tmod (IntKind.wrap .i64 (IntKind.wrap .u8 (Int.tdiv a1 8))) (y2.productions.length:Int)) < (y2.productions.length:Int) then some (50,y2.levels,y2.filters,(y2.productions.set (Int.toNat (Int.tmod (IntKind.wrap .i64 (IntKind.wrap .u8 (Int.tdiv a1 8))) (y2.productions.length:Int))) (⟨(y2.productions.getD (Int.toNat (Int.tmod (IntKind.wrap .i64 (IntKind.wrap .u8 (Int.tdiv a1 8))) (y2.productions.length:Int))) default).name,x8,(y2.productions.getD (Int.toNat (Int.tmod (IntKind.wrap .i64 (IntKind.wrap .u8 (Int.tdiv a1 8))) (y2.productions.length:Int))) default).right,(y2.productions.getD (Int.toNat (Int.tmod (IntKind.wrap .i64 (IntKind.wrap .u8 (Int.tdiv a1 8))) (y2.productions.length:Int))) default).ifF,(y2.productions.getD (Int.toNat (Int.tmod (IntKind.wrap .i64 (IntKind.wrap .u8 (Int.tdiv a1 8))) (y2.productions.length:Int))) default).bracket,(y2.productions.getD (Int.toNat (Int.tmod (IntKind.wrap .i64 (IntKind.wrap .u8 (Int.tdiv a1 8))) (y2.productions.length:Int))) default).rank,(y2.productions.getD (Int.toNat (Int.tmod (IntKind.wrap .i64 (IntKind.wrap .u8 (Int.tdiv a1 8))) (y2.productions.length:Int))) default).layout,(y2.productions.getD (Int.toNat (Int.tmod (IntKind.wrap .i64 (IntKind.wrap .u8 (Int.tdiv a1 8))) (y2.productions.length:Int))) default).scope⟩:aj))) else none) else (((if (decide ((Int.tmod a1 8)=2))=true then (if (0:Int)≤(Int.tmod (IntKind.wrap .i64 (IntKind.wrap .u8 (Int.tdiv a1 8))) (y2.productions.length:Int))∧(Int.tmod (IntKind.wrap .i64 (IntKind.wrap .u8 (Int.tdiv a1 8))) (y2.productions.length:Int)) < (y2.productions.length:Int) then some (50,y2.levels,y2.filters,(y2.productions.set (Int.toNat (Int.tmod (IntKind.wrap .i64 (IntKind.wrap .u8 (Int.tdiv a1 8))) (y2.productions.length:Int))) (⟨(y2.productions.getD (Int.toNat (Int.tmod (IntKind.wrap .i64 (IntKind.wrap .u8 (Int.tdiv a1 8))) (y2.productions.length:Int))) default).name,(y2.productions.getD (Int.toNat (Int.tmod (IntKind.wrap .i64 (IntKind.wrap .u8 (Int.tdiv a1 8))) (y2.productions.length:Int))) default).left,([(⟨true,x8⟩:aw)]:List aw),(y2.productions.getD (Int.toNat (Int.tmod (IntKind.wrap .i64 (IntKind.wrap .u8 (Int.tdiv a1 8))) (y2.productions.length:Int))) default).ifF,(y2.productions.getD (Int.toNat (Int.tmod (IntKind.wrap .i64 (IntKind.wrap .u8 (Int.tdiv a1 8))) (y2.productions.length:Int))) default).bracket,(y2.productions.getD (Int.toNat (Int.tmod (IntKind.wrap .i64 (IntKind.wrap .u8 (Int.tdiv a1 8))) (y2.productions.length:Int))) default).rank,(y2.productions.getD (Int.toNat (Int.tmod (IntKind.wrap .i64 (IntKind.wrap .u8 (Int.tdiv a1 8))) (y2.productions.length:Int))) default).layout,(y2.productions.getD (Int.toNat (Int.tmod (IntKind.wrap .i64 (IntKind.wrap .u8 (Int.tdiv a1 8))) (y2.productions.length:Int))) default).scope⟩:aj))) else none) else (((if (decide ((Int.tmod a1 8)=3))=true then (if (0:Int)≤(Int.tmod (IntKind.wrap .i64 (IntKind.wrap .u8 (Int.tdiv a1 8))) (y2.productions.length:Int))∧(Int.tmod (IntKind.wrap .i64 (IntKind.wrap .u8 (Int.tdiv a1 8))) (y2.productions.length:Int)) < (y2.productions.length:Int) then some (50,y2.levels,y2.filters,(y2.productions.set (Int.toNat (Int.tmod (IntKind.wrap .i64 (IntKind.wrap .u8 (Int.tdiv a1 8))) (y2.productions.length:Int))) (⟨(y2.productions.getD (Int.toNat (Int.tmod (IntKind.wrap .i64 (IntKind.wrap .u8 (Int.tdiv a1 8))) (y2.productions.length:Int))) default).name,(y2.productions.getD (Int.toNat (Int.tmod (IntKind.wrap .i64 (IntKind.wrap .u8 (Int.tdiv a1 8))) (y2.productions.length:Int))) default).left,([(⟨false,x8⟩:aw)]:List aw),(y2.productions.getD (Int.toNat (Int.tmod (IntKind.wrap .i64 (IntKind.wrap .u8 (Int.tdiv a1 8))) (y2.productions.length:Int))) default).ifF,(y2.productions.getD (Int.toNat (Int.tmod (IntKind.wrap .i64 (IntKind.wrap .u8 (Int.tdiv a1 8))) (y2.productions.length:Int))) default).bracket,(y2.productions.getD (Int.toNat (Int.tmod (IntKind.wrap .i64 (IntKind.wrap .u8 (Int.tdiv a1 8))) (y2.productions.length:Int))) default).rank,(y2.productions.getD (Int.toNat (Int.tmod (IntKind.wrap .i64 (IntKind.wrap .u8 (Int.tdiv a1 8))) (y2.productions.length:Int))) default).layout,(y2.productions.getD (Int.toNat (Int.tmod (IntKind.wrap .i64 (IntKind.wrap .u8 (Int.tdiv a1 8))) (y2.productions.length:Int))) default).scope⟩:aj))) else none) else (((if (decide ((Int.tmod a1 8)=4))=true then some (([(⟨([x8]:List Int),0,y2.family⟩:aN)]:List aN),y2.filters) else (((if (decide ((Int.tmod a1 8)=5))=true then some ([(⟨1,x8,0,0,0,0,[],y2.family⟩:aA)]:List aA) else (((if (decide ((Int.tmod a1 8)=6))=true then some ([(⟨3,0,0,0,x8,0,([0]:List Int),y2.family⟩:aA)]:List aA) else some ([(⟨5,0,0,0,0,x8,([5]:List Int),y2.family⟩:aA)]:List aA)):Option (List aA)).bind fun x22=>some x22)):Option (List aA)).bind fun x24=>some (y2.levels,x24))):Option ((List aN)×(List aA))).bind fun x26=>some (53,x26.1,x26.2,y2.productions))):Option (Int×(List aN)×(List aA)×(List aj))).bind fun x28=>some (x28.1,x28.2.1,x28.2.2.1,x28.2.2.2))):Option (Int×(List aN)×(List aA)×(List aj))).bind fun x30=>some (x30.1,x30.2.1,x30.2.2.1,x30.2.2.2))):Option (Int×(List aN)×(List aA)×(List aj))).bind fun x32=>some (x32.1,y2.start,x32.2.1,x32.2.2.1,x32.2.2.2))):Option (Int×Int×(List aN)×(List aA)×(List aj))).bind fun x34=>((gr k (⟨y2.conditions,y2.family,y2.tokens,y2.nonterminals,x34.2.2.2.2,x34.2.1,x34.2.2.1,x34.2.2.2.1⟩:am) 0).bind fun y35=>((ep k (⟨y2.conditions,y2.family,y2.tokens,y2.nonterminals,x34.2.2.2.2,x34.2.1,x34.2.2.1,x34.2.2.2.1⟩:am)).bind fun y36=>((dW k (⟨y2.conditions,y2.family,y2.tokens,y2.nonterminals,x34.2.2.2.2,x34.2.1,x34.2.2.1,x34.2.2.2.1⟩:am) 5).bind fun y37=>((((bj k (⟨y2.conditions,y2.family,y2.tokens,y2.nonterminals,x34.2.2.2.2,x34.2.1,x34.2.2.1,x34.2.2.2.1⟩:am)).bind fun y38=>(if (decide (y38=x34.1))=true then (if (decide (y35.2.2=x34.1))=true then (if (decide (y36=x34.1))=true then (if (!y37)=true then ((gt k (⟨y2.conditions,y2.family,y2.tokens,y2.nonterminals,x34.2.2.2.2,x34.2.1,x34.2.2.1,x34.2.2.2.1⟩:am) 0).bind fun y43=>(if (!y43)=true then some y1 else some false)) else some false) else some false) else some false) else some false)):Option Bool).bind fun x46=>some x46))))) else none) else none)))))
set_option maxRecDepth 100000 in
set_option maxHeartbeats 4000000 in
theorem kP (k:Nat)(a0:Raw)(a1:Int)(a2:Int)(r:Bool)(h:eF k a0 a1 a2=some r):SC P 7 [.agg (eo a0),.d (.int .u8 a1),di a2] [] (db r) []:=by
 unfold eF at h
 refine SC.intro3 (N:=153) Tryz.func7 rfl rfl Tryz.ntmps7 rfl ?_
 refine aa.sr (ab.evn (h':=[.live (.var (eo a0))]) [0,0] [(3,.ptr 0 0)] [] ?_)
 refine aa.seq ?_
 refine ao h fun y1 hy1 h=>?_
 refine aa.region ?_
 refine ab.step (v:=db y1) (ae.callS [] (pA _ hy1) rfl rfl trivial (by decide) rfl rfl trivial) rfl rfl rfl ?_
 refine ab.ev0n [0] [(7,db y1)] [] ?_
 refine aa.seq ?_
 refine ao h fun y2 hy2 h=>?_
 refine aa.region (ab.ev0 [0] [(18,.agg (eo a0))] [] ?_)
 refine ab.step (v:=.agg (ah y2)) (ae.callS [] (rR k a0 _ hy2) rfl rfl ⟨⟨rfl,rfl,rfl,rfl,rfl,trivial⟩,trivial⟩ (by decide) rfl rfl trivial) rfl rfl rfl ?_
 refine ab.evn (h':=[.live (.var (eo a0)),.live (.var (ah y2))]) [0,0] [(8,.ptr 1 0)] [] ?_
 refine aa.seq ?_
 refine aa.seq ?_
 refine ao h fun x5 ho4 h=>?_
 refine aa.cut (Q':=fun e s'=>e = .normal∧s'=⟨[(1,.d (.int .u8 a1)),(2,di a2),(7,db y1),(8,.ptr 0 0),(25,db x5)],[.live (.var (ah y2))]⟩) ?_ ?_
 ·
  have h:=ho4
  refine au h (fun hc3 h=>?_) (fun hc3 h=>?_)
  ·
   refine aa.region (ab.ev0n [0,0,0,1,0,0] [(25,db (decide (a2 < 2000)))] [⟨_,hc3⟩] ?_)
   cases h
   exact ⟨_,(GStep.trans (GStep.keep [1,2,7,8,25]) (GStep.ren [1] (by decide) rfl rfl)),rfl,rfl⟩
  refine aa.region (ab.ev0n [0,0,0,2,0,0] [(25,db false)] [⟨_,hc3⟩] ?_)
  cases h
  exact ⟨_,(GStep.trans (GStep.keep [1,2,7,8,25]) (GStep.ren [1] (by decide) rfl rfl)),rfl,rfl⟩
 rintro e s' hq
 obtain ⟨rfl,rfl⟩:=hq
 refine ao h fun x8 ho7 h=>?_
 refine aa.cut (Q':=fun e s'=>e = .normal∧s'=⟨[(1,.d (.int .u8 a1)),(2,di x8),(7,db y1),(8,.ptr 0 0)],[.live (.var (ah y2))]⟩) ?_ ?_
 ·
  have h:=ho7
  refine aa.condI h rfl (fun hc6 h=>?_) (fun hc6 h=>?_)
  ·
   refine aa.region (ab.ev0n [0,0,0] [(2,di (IntKind.wrap .i64 (a2+2000)))] [] ?_)
   cases h
   exact ⟨_,(GStep.keep [1,2,7,8]),rfl,rfl⟩
  refine aa.skip ?_
  cases h
  exact ⟨_,(GStep.keep [1,2,7,8]),rfl,rfl⟩
 rintro e s' hq
 obtain ⟨rfl,rfl⟩:=hq
 refine aa.seq ?_
 refine aD h fun hz9 h=>?_
 refine aa.region ?_
 refine ab.step (v:=.osl 1 0 (([]:List aj).length) 13) (ae.unex (ae.bsliceOX [] [] (row aq ([]:List aj)) rfl iA ql rfl rfl (by kernel_rfl) trivial (by kernel_rfl) (by kernel_rfl) rfl)) rfl rfl rfl ?_
 refine ab.hp (h':=[.live (.var (ah y2)),.live (.arr 13 (([]:List aj).length) false (row aq ([]:List aj)))]) (by kernel_rfl) ?_
 refine ab.ev0 [0,0] [(30,.d (af 13 aq y2.productions))] [] ?_
 refine ab.step (v:=.osl 2 0 y2.productions.length 13) (ae.appTn aq ([]:List aj) y2.productions rfl rfl rfl rfl rfl iA rV rY rfl hz9) rfl rfl rfl ?_
 refine ab.hp (h':=[.live (.var (ah y2)),.freed,.live (.arr 13 y2.productions.length false (row aq y2.productions))]) (by kernel_rfl) ?_
 refine ab.evn (h':=[.live (.var [.d (af 1 eS y2.conditions),.d (af 3 ag y2.family.nodes),di y2.family.root,.d (af 7 aE y2.tokens),.d (af 1 eS y2.nonterminals),.osl 2 0 y2.productions.length 13,di y2.start,.d (af 4 aH y2.levels),.d (af 9 aC y2.filters)]),.freed,.live (.arr 13 y2.productions.length false (row aq y2.productions))]) [0,0] [] [] ?_
 refine aa.seq ?_
 refine aD h fun hz10 h=>?_
 refine aa.region (ab.ev0 [0,0,0,0,0,0] [(35,di (IntKind.wrap .i64 (IntKind.wrap .u8 (Int.tdiv a1 8)))),(38,di (y2.productions.length:Int))] [] ?_)
 refine ab.step (v:=di (Int.tmod (IntKind.wrap .i64 (IntKind.wrap .u8 (Int.tdiv a1 8))) (y2.productions.length:Int))) (ae.remI rfl rfl rfl hz10) rfl rfl rfl ?_
 refine ab.ev0n [0] [(9,di (Int.tmod (IntKind.wrap .i64 (IntKind.wrap .u8 (Int.tdiv a1 8))) (y2.productions.length:Int)))] [] ?_
 refine aa.sr (ab.ev0n [0] [(10,di 50)] [] ?_)
 refine aa.seq ?_
 refine aa.sr (ab.ev0n [0,0] [(41,.d (.int .u8 (Int.tmod a1 8)))] [] ?_)
 refine aa.block ?_
 refine aa.sr (ab.ev0n [0,0] [(49,db (decide ((Int.tmod a1 8)=0)))] [] ?_)
 refine ao h fun x34 ho33 h=>?_
 refine aa.cut (Q':=fun e s'=>e = .normal∧s'=⟨[(7,db y1),(8,.ptr 0 0),(10,di x34.1)],[.live (.var [.d (af 1 eS y2.conditions),.d (af 3 ag y2.family.nodes),di y2.family.root,.d (af 7 aE y2.tokens),.d (af 1 eS y2.nonterminals),.osl 1 0 x34.2.2.2.2.length 13,di x34.2.1,.d (af 4 aH x34.2.2.1),.d (af 9 aC x34.2.2.2.1)]),.live (.arr 13 x34.2.2.2.2.length false (row aq x34.2.2.2.2))]⟩) ?_ ?_
 ·
  have h:=ho33
  refine aa.condI h rfl (fun hc11 h=>?_) (fun hc11 h=>?_)
  ·
   refine aa.region (ab.evn (h':=[.live (.var [.d (af 1 eS y2.conditions),.d (af 3 ag y2.family.nodes),di y2.family.root,.d (af 7 aE y2.tokens),.d (af 1 eS y2.nonterminals),.osl 2 0 y2.productions.length 13,di x8,.d (af 4 aH y2.levels),.d (af 9 aC y2.filters)]),.freed,.live (.arr 13 y2.productions.length false (row aq y2.productions))]) [0,0,0] [] [] ?_)
   cases h
   exact ⟨_,(GStep.trans (GStep.keep [7,8,10]) (GStep.ren [0,2] (by decide) rfl rfl)),rfl,rfl⟩
  refine aa.sr (ab.ev0n [0,0] [(53,db (decide ((Int.tmod a1 8)=1)))] [] ?_)
  refine ao h fun x32 ho31 h=>?_
  refine aa.cut (Q':=fun e s'=>e = .normal∧s'=⟨[(7,db y1),(8,.ptr 0 0),(10,di x32.1)],[.live (.var [.d (af 1 eS y2.conditions),.d (af 3 ag y2.family.nodes),di y2.family.root,.d (af 7 aE y2.tokens),.d (af 1 eS y2.nonterminals),.osl 1 0 x32.2.2.2.length 13,di y2.start,.d (af 4 aH x32.2.1),.d (af 9 aC x32.2.2.1)]),.live (.arr 13 x32.2.2.2.length false (row aq x32.2.2.2))]⟩) ?_ ?_
  ·
   have h:=ho31
   refine aa.condI h rfl (fun hc12 h=>?_) (fun hc12 h=>?_)
   ·
    refine aD h fun hb13 h=>?_
    refine aa.region (ab.ev0 [0,0,0,0,0,0] [(58,di x8),(60,.eptr 2 (Int.toNat (Int.tmod (IntKind.wrap .i64 (IntKind.wrap .u8 (Int.tdiv a1 8))) (y2.productions.length:Int))) 1 13)] [⟨_,hb13.1⟩,⟨_,hb13.2⟩] ?_)
    refine ab.step0 (ae.storeN aq y2.productions (⟨(y2.productions.getD (Int.toNat (Int.tmod (IntKind.wrap .i64 (IntKind.wrap .u8 (Int.tdiv a1 8))) (y2.productions.length:Int))) default).name,x8,(y2.productions.getD (Int.toNat (Int.tmod (IntKind.wrap .i64 (IntKind.wrap .u8 (Int.tdiv a1 8))) (y2.productions.length:Int))) default).right,(y2.productions.getD (Int.toNat (Int.tmod (IntKind.wrap .i64 (IntKind.wrap .u8 (Int.tdiv a1 8))) (y2.productions.length:Int))) default).ifF,(y2.productions.getD (Int.toNat (Int.tmod (IntKind.wrap .i64 (IntKind.wrap .u8 (Int.tdiv a1 8))) (y2.productions.length:Int))) default).bracket,(y2.productions.getD (Int.toNat (Int.tmod (IntKind.wrap .i64 (IntKind.wrap .u8 (Int.tdiv a1 8))) (y2.productions.length:Int))) default).rank,(y2.productions.getD (Int.toNat (Int.tmod (IntKind.wrap .i64 (IntKind.wrap .u8 (Int.tdiv a1 8))) (y2.productions.length:Int))) default).layout,(y2.productions.getD (Int.toNat (Int.tmod (IntKind.wrap .i64 (IntKind.wrap .u8 (Int.tdiv a1 8))) (y2.productions.length:Int))) default).scope⟩:aj) rfl rfl rfl rfl aX rfl (by have:=hb13; omega) rfl rfl rfl rfl rfl rfl ⟨rfl,rfl,rfl,rfl,rfl,rfl,rfl,rfl,rfl,rfl,rfl,rfl,rfl,trivial⟩) rfl rfl ?_
    refine ab.hp (h':=[.live (.var [.d (af 1 eS y2.conditions),.d (af 3 ag y2.family.nodes),di y2.family.root,.d (af 7 aE y2.tokens),.d (af 1 eS y2.nonterminals),.osl 2 0 y2.productions.length 13,di y2.start,.d (af 4 aH y2.levels),.d (af 9 aC y2.filters)]),.freed,.live (.arr 13 y2.productions.length false (row aq (y2.productions.set (Int.toNat (Int.tmod (IntKind.wrap .i64 (IntKind.wrap .u8 (Int.tdiv a1 8))) (y2.productions.length:Int))) (⟨(y2.productions.getD (Int.toNat (Int.tmod (IntKind.wrap .i64 (IntKind.wrap .u8 (Int.tdiv a1 8))) (y2.productions.length:Int))) default).name,x8,(y2.productions.getD (Int.toNat (Int.tmod (IntKind.wrap .i64 (IntKind.wrap .u8 (Int.tdiv a1 8))) (y2.productions.length:Int))) default).right,(y2.productions.getD (Int.toNat (Int.tmod (IntKind.wrap .i64 (IntKind.wrap .u8 (Int.tdiv a1 8))) (y2.productions.length:Int))) default).ifF,(y2.productions.getD (Int.toNat (Int.tmod (IntKind.wrap .i64 (IntKind.wrap .u8 (Int.tdiv a1 8))) (y2.productions.length:Int))) default).bracket,(y2.productions.getD (Int.toNat (Int.tmod (IntKind.wrap .i64 (IntKind.wrap .u8 (Int.tdiv a1 8))) (y2.productions.length:Int))) default).rank,(y2.productions.getD (Int.toNat (Int.tmod (IntKind.wrap .i64 (IntKind.wrap .u8 (Int.tdiv a1 8))) (y2.productions.length:Int))) default).layout,(y2.productions.getD (Int.toNat (Int.tmod (IntKind.wrap .i64 (IntKind.wrap .u8 (Int.tdiv a1 8))) (y2.productions.length:Int))) default).scope⟩:aj))))]) (by kernel_rfl) ?_
    refine ab.nil ?_
    cases h
    exact ⟨_,(GStep.trans (GStep.keep [7,8,10]) (GStep.trans (GStep.ren [0,2] (by decide) rfl rfl) (GStep.eqv (s1:=⟨[(7,db y1),(8,.ptr 0 0),(10,di 50)],[.live (.var [.d (af 1 eS y2.conditions),.d (af 3 ag y2.family.nodes),di y2.family.root,.d (af 7 aE y2.tokens),.d (af 1 eS y2.nonterminals),.osl 1 0 y2.productions.length 13,di y2.start,.d (af 4 aH y2.levels),.d (af 9 aC y2.filters)]),.live (.arr 13 y2.productions.length false (row aq (y2.productions.set (Int.toNat (Int.tmod (IntKind.wrap .i64 (IntKind.wrap .u8 (Int.tdiv a1 8))) (y2.productions.length:Int))) (⟨(y2.productions.getD (Int.toNat (Int.tmod (IntKind.wrap .i64 (IntKind.wrap .u8 (Int.tdiv a1 8))) (y2.productions.length:Int))) default).name,x8,(y2.productions.getD (Int.toNat (Int.tmod (IntKind.wrap .i64 (IntKind.wrap .u8 (Int.tdiv a1 8))) (y2.productions.length:Int))) default).right,(y2.productions.getD (Int.toNat (Int.tmod (IntKind.wrap .i64 (IntKind.wrap .u8 (Int.tdiv a1 8))) (y2.productions.length:Int))) default).ifF,(y2.productions.getD (Int.toNat (Int.tmod (IntKind.wrap .i64 (IntKind.wrap .u8 (Int.tdiv a1 8))) (y2.productions.length:Int))) default).bracket,(y2.productions.getD (Int.toNat (Int.tmod (IntKind.wrap .i64 (IntKind.wrap .u8 (Int.tdiv a1 8))) (y2.productions.length:Int))) default).rank,(y2.productions.getD (Int.toNat (Int.tmod (IntKind.wrap .i64 (IntKind.wrap .u8 (Int.tdiv a1 8))) (y2.productions.length:Int))) default).layout,(y2.productions.getD (Int.toNat (Int.tmod (IntKind.wrap .i64 (IntKind.wrap .u8 (Int.tdiv a1 8))) (y2.productions.length:Int))) default).scope⟩:aj))))]⟩) (s':=⟨[(7,db y1),(8,.ptr 0 0),(10,di 50)],[.live (.var [.d (af 1 eS y2.conditions),.d (af 3 ag y2.family.nodes),di y2.family.root,.d (af 7 aE y2.tokens),.d (af 1 eS y2.nonterminals),.osl 1 0 ((y2.productions.set (Int.toNat (Int.tmod (IntKind.wrap .i64 (IntKind.wrap .u8 (Int.tdiv a1 8))) (y2.productions.length:Int))) (⟨(y2.productions.getD (Int.toNat (Int.tmod (IntKind.wrap .i64 (IntKind.wrap .u8 (Int.tdiv a1 8))) (y2.productions.length:Int))) default).name,x8,(y2.productions.getD (Int.toNat (Int.tmod (IntKind.wrap .i64 (IntKind.wrap .u8 (Int.tdiv a1 8))) (y2.productions.length:Int))) default).right,(y2.productions.getD (Int.toNat (Int.tmod (IntKind.wrap .i64 (IntKind.wrap .u8 (Int.tdiv a1 8))) (y2.productions.length:Int))) default).ifF,(y2.productions.getD (Int.toNat (Int.tmod (IntKind.wrap .i64 (IntKind.wrap .u8 (Int.tdiv a1 8))) (y2.productions.length:Int))) default).bracket,(y2.productions.getD (Int.toNat (Int.tmod (IntKind.wrap .i64 (IntKind.wrap .u8 (Int.tdiv a1 8))) (y2.productions.length:Int))) default).rank,(y2.productions.getD (Int.toNat (Int.tmod (IntKind.wrap .i64 (IntKind.wrap .u8 (Int.tdiv a1 8))) (y2.productions.length:Int))) default).layout,(y2.productions.getD (Int.toNat (Int.tmod (IntKind.wrap .i64 (IntKind.wrap .u8 (Int.tdiv a1 8))) (y2.productions.length:Int))) default).scope⟩:aj)).length) 13,di y2.start,.d (af 4 aH y2.levels),.d (af 9 aC y2.filters)]),.live (.arr 13 ((y2.productions.set (Int.toNat (Int.tmod (IntKind.wrap .i64 (IntKind.wrap .u8 (Int.tdiv a1 8))) (y2.productions.length:Int))) (⟨(y2.productions.getD (Int.toNat (Int.tmod (IntKind.wrap .i64 (IntKind.wrap .u8 (Int.tdiv a1 8))) (y2.productions.length:Int))) default).name,x8,(y2.productions.getD (Int.toNat (Int.tmod (IntKind.wrap .i64 (IntKind.wrap .u8 (Int.tdiv a1 8))) (y2.productions.length:Int))) default).right,(y2.productions.getD (Int.toNat (Int.tmod (IntKind.wrap .i64 (IntKind.wrap .u8 (Int.tdiv a1 8))) (y2.productions.length:Int))) default).ifF,(y2.productions.getD (Int.toNat (Int.tmod (IntKind.wrap .i64 (IntKind.wrap .u8 (Int.tdiv a1 8))) (y2.productions.length:Int))) default).bracket,(y2.productions.getD (Int.toNat (Int.tmod (IntKind.wrap .i64 (IntKind.wrap .u8 (Int.tdiv a1 8))) (y2.productions.length:Int))) default).rank,(y2.productions.getD (Int.toNat (Int.tmod (IntKind.wrap .i64 (IntKind.wrap .u8 (Int.tdiv a1 8))) (y2.productions.length:Int))) default).layout,(y2.productions.getD (Int.toNat (Int.tmod (IntKind.wrap .i64 (IntKind.wrap .u8 (Int.tdiv a1 8))) (y2.productions.length:Int))) default).scope⟩:aj)).length) false (row aq (y2.productions.set (Int.toNat (Int.tmod (IntKind.wrap .i64 (IntKind.wrap .u8 (Int.tdiv a1 8))) (y2.productions.length:Int))) (⟨(y2.productions.getD (Int.toNat (Int.tmod (IntKind.wrap .i64 (IntKind.wrap .u8 (Int.tdiv a1 8))) (y2.productions.length:Int))) default).name,x8,(y2.productions.getD (Int.toNat (Int.tmod (IntKind.wrap .i64 (IntKind.wrap .u8 (Int.tdiv a1 8))) (y2.productions.length:Int))) default).right,(y2.productions.getD (Int.toNat (Int.tmod (IntKind.wrap .i64 (IntKind.wrap .u8 (Int.tdiv a1 8))) (y2.productions.length:Int))) default).ifF,(y2.productions.getD (Int.toNat (Int.tmod (IntKind.wrap .i64 (IntKind.wrap .u8 (Int.tdiv a1 8))) (y2.productions.length:Int))) default).bracket,(y2.productions.getD (Int.toNat (Int.tmod (IntKind.wrap .i64 (IntKind.wrap .u8 (Int.tdiv a1 8))) (y2.productions.length:Int))) default).rank,(y2.productions.getD (Int.toNat (Int.tmod (IntKind.wrap .i64 (IntKind.wrap .u8 (Int.tdiv a1 8))) (y2.productions.length:Int))) default).layout,(y2.productions.getD (Int.toNat (Int.tmod (IntKind.wrap .i64 (IntKind.wrap .u8 (Int.tdiv a1 8))) (y2.productions.length:Int))) default).scope⟩:aj))))]⟩) rfl (by simp only [List.length_set])))),rfl,rfl⟩
   refine aa.sr (ab.ev0n [0,0] [(61,db (decide ((Int.tmod a1 8)=2)))] [] ?_)
   refine ao h fun x30 ho29 h=>?_
   refine aa.cut (Q':=fun e s'=>e = .normal∧s'=⟨[(7,db y1),(8,.ptr 0 0),(10,di x30.1)],[.live (.var [.d (af 1 eS y2.conditions),.d (af 3 ag y2.family.nodes),di y2.family.root,.d (af 7 aE y2.tokens),.d (af 1 eS y2.nonterminals),.osl 1 0 x30.2.2.2.length 13,di y2.start,.d (af 4 aH x30.2.1),.d (af 9 aC x30.2.2.1)]),.live (.arr 13 x30.2.2.2.length false (row aq x30.2.2.2))]⟩) ?_ ?_
   ·
    have h:=ho29
    refine aa.condI h rfl (fun hc14 h=>?_) (fun hc14 h=>?_)
    ·
     refine aD h fun hb15 h=>?_
     refine aa.region (ab.ev0 [0,0,0,0,0] [(64,.osl 2 0 y2.productions.length 13),(65,di (Int.tmod (IntKind.wrap .i64 (IntKind.wrap .u8 (Int.tdiv a1 8))) (y2.productions.length:Int))),(67,.agg (bW (⟨true,x8⟩:aw)))] [] ?_)
     refine ab.step (v:=.d (af 2 ay ([(⟨true,x8⟩:aw)]:List aw))) (ae.bsliceX [db true,di x8] [.d (.bool true),.d (.int .i64 x8)] (row ay ([(⟨true,x8⟩:aw)]:List aw)) rfl bL kD rfl rfl (by kernel_rfl) ⟨rfl,rfl,trivial⟩ (by kernel_rfl) (by kernel_rfl)) rfl rfl rfl ?_
     refine ab.ev0 [0,0] [(70,.eptr 2 (Int.toNat (Int.tmod (IntKind.wrap .i64 (IntKind.wrap .u8 (Int.tdiv a1 8))) (y2.productions.length:Int))) 2 13)] [⟨_,hb15.1⟩,⟨_,hb15.2⟩] ?_
     refine ab.step0 (ae.storeN aq y2.productions (⟨(y2.productions.getD (Int.toNat (Int.tmod (IntKind.wrap .i64 (IntKind.wrap .u8 (Int.tdiv a1 8))) (y2.productions.length:Int))) default).name,(y2.productions.getD (Int.toNat (Int.tmod (IntKind.wrap .i64 (IntKind.wrap .u8 (Int.tdiv a1 8))) (y2.productions.length:Int))) default).left,([(⟨true,x8⟩:aw)]:List aw),(y2.productions.getD (Int.toNat (Int.tmod (IntKind.wrap .i64 (IntKind.wrap .u8 (Int.tdiv a1 8))) (y2.productions.length:Int))) default).ifF,(y2.productions.getD (Int.toNat (Int.tmod (IntKind.wrap .i64 (IntKind.wrap .u8 (Int.tdiv a1 8))) (y2.productions.length:Int))) default).bracket,(y2.productions.getD (Int.toNat (Int.tmod (IntKind.wrap .i64 (IntKind.wrap .u8 (Int.tdiv a1 8))) (y2.productions.length:Int))) default).rank,(y2.productions.getD (Int.toNat (Int.tmod (IntKind.wrap .i64 (IntKind.wrap .u8 (Int.tdiv a1 8))) (y2.productions.length:Int))) default).layout,(y2.productions.getD (Int.toNat (Int.tmod (IntKind.wrap .i64 (IntKind.wrap .u8 (Int.tdiv a1 8))) (y2.productions.length:Int))) default).scope⟩:aj) rfl rfl rfl rfl cV rfl (by have:=hb15; omega) rfl rfl rfl rfl rfl rfl ⟨rfl,rfl,rfl,rfl,rfl,rfl,rfl,rfl,rfl,rfl,rfl,rfl,rfl,trivial⟩) rfl rfl ?_
     refine ab.hp (h':=[.live (.var [.d (af 1 eS y2.conditions),.d (af 3 ag y2.family.nodes),di y2.family.root,.d (af 7 aE y2.tokens),.d (af 1 eS y2.nonterminals),.osl 2 0 y2.productions.length 13,di y2.start,.d (af 4 aH y2.levels),.d (af 9 aC y2.filters)]),.freed,.live (.arr 13 y2.productions.length false (row aq (y2.productions.set (Int.toNat (Int.tmod (IntKind.wrap .i64 (IntKind.wrap .u8 (Int.tdiv a1 8))) (y2.productions.length:Int))) (⟨(y2.productions.getD (Int.toNat (Int.tmod (IntKind.wrap .i64 (IntKind.wrap .u8 (Int.tdiv a1 8))) (y2.productions.length:Int))) default).name,(y2.productions.getD (Int.toNat (Int.tmod (IntKind.wrap .i64 (IntKind.wrap .u8 (Int.tdiv a1 8))) (y2.productions.length:Int))) default).left,([(⟨true,x8⟩:aw)]:List aw),(y2.productions.getD (Int.toNat (Int.tmod (IntKind.wrap .i64 (IntKind.wrap .u8 (Int.tdiv a1 8))) (y2.productions.length:Int))) default).ifF,(y2.productions.getD (Int.toNat (Int.tmod (IntKind.wrap .i64 (IntKind.wrap .u8 (Int.tdiv a1 8))) (y2.productions.length:Int))) default).bracket,(y2.productions.getD (Int.toNat (Int.tmod (IntKind.wrap .i64 (IntKind.wrap .u8 (Int.tdiv a1 8))) (y2.productions.length:Int))) default).rank,(y2.productions.getD (Int.toNat (Int.tmod (IntKind.wrap .i64 (IntKind.wrap .u8 (Int.tdiv a1 8))) (y2.productions.length:Int))) default).layout,(y2.productions.getD (Int.toNat (Int.tmod (IntKind.wrap .i64 (IntKind.wrap .u8 (Int.tdiv a1 8))) (y2.productions.length:Int))) default).scope⟩:aj))))]) (by kernel_rfl) ?_
     refine ab.nil ?_
     cases h
     exact ⟨_,(GStep.trans (GStep.keep [7,8,10]) (GStep.trans (GStep.ren [0,2] (by decide) rfl rfl) (GStep.eqv (s1:=⟨[(7,db y1),(8,.ptr 0 0),(10,di 50)],[.live (.var [.d (af 1 eS y2.conditions),.d (af 3 ag y2.family.nodes),di y2.family.root,.d (af 7 aE y2.tokens),.d (af 1 eS y2.nonterminals),.osl 1 0 y2.productions.length 13,di y2.start,.d (af 4 aH y2.levels),.d (af 9 aC y2.filters)]),.live (.arr 13 y2.productions.length false (row aq (y2.productions.set (Int.toNat (Int.tmod (IntKind.wrap .i64 (IntKind.wrap .u8 (Int.tdiv a1 8))) (y2.productions.length:Int))) (⟨(y2.productions.getD (Int.toNat (Int.tmod (IntKind.wrap .i64 (IntKind.wrap .u8 (Int.tdiv a1 8))) (y2.productions.length:Int))) default).name,(y2.productions.getD (Int.toNat (Int.tmod (IntKind.wrap .i64 (IntKind.wrap .u8 (Int.tdiv a1 8))) (y2.productions.length:Int))) default).left,([(⟨true,x8⟩:aw)]:List aw),(y2.productions.getD (Int.toNat (Int.tmod (IntKind.wrap .i64 (IntKind.wrap .u8 (Int.tdiv a1 8))) (y2.productions.length:Int))) default).ifF,(y2.productions.getD (Int.toNat (Int.tmod (IntKind.wrap .i64 (IntKind.wrap .u8 (Int.tdiv a1 8))) (y2.productions.length:Int))) default).bracket,(y2.productions.getD (Int.toNat (Int.tmod (IntKind.wrap .i64 (IntKind.wrap .u8 (Int.tdiv a1 8))) (y2.productions.length:Int))) default).rank,(y2.productions.getD (Int.toNat (Int.tmod (IntKind.wrap .i64 (IntKind.wrap .u8 (Int.tdiv a1 8))) (y2.productions.length:Int))) default).layout,(y2.productions.getD (Int.toNat (Int.tmod (IntKind.wrap .i64 (IntKind.wrap .u8 (Int.tdiv a1 8))) (y2.productions.length:Int))) default).scope⟩:aj))))]⟩) (s':=⟨[(7,db y1),(8,.ptr 0 0),(10,di 50)],[.live (.var [.d (af 1 eS y2.conditions),.d (af 3 ag y2.family.nodes),di y2.family.root,.d (af 7 aE y2.tokens),.d (af 1 eS y2.nonterminals),.osl 1 0 ((y2.productions.set (Int.toNat (Int.tmod (IntKind.wrap .i64 (IntKind.wrap .u8 (Int.tdiv a1 8))) (y2.productions.length:Int))) (⟨(y2.productions.getD (Int.toNat (Int.tmod (IntKind.wrap .i64 (IntKind.wrap .u8 (Int.tdiv a1 8))) (y2.productions.length:Int))) default).name,(y2.productions.getD (Int.toNat (Int.tmod (IntKind.wrap .i64 (IntKind.wrap .u8 (Int.tdiv a1 8))) (y2.productions.length:Int))) default).left,([(⟨true,x8⟩:aw)]:List aw),(y2.productions.getD (Int.toNat (Int.tmod (IntKind.wrap .i64 (IntKind.wrap .u8 (Int.tdiv a1 8))) (y2.productions.length:Int))) default).ifF,(y2.productions.getD (Int.toNat (Int.tmod (IntKind.wrap .i64 (IntKind.wrap .u8 (Int.tdiv a1 8))) (y2.productions.length:Int))) default).bracket,(y2.productions.getD (Int.toNat (Int.tmod (IntKind.wrap .i64 (IntKind.wrap .u8 (Int.tdiv a1 8))) (y2.productions.length:Int))) default).rank,(y2.productions.getD (Int.toNat (Int.tmod (IntKind.wrap .i64 (IntKind.wrap .u8 (Int.tdiv a1 8))) (y2.productions.length:Int))) default).layout,(y2.productions.getD (Int.toNat (Int.tmod (IntKind.wrap .i64 (IntKind.wrap .u8 (Int.tdiv a1 8))) (y2.productions.length:Int))) default).scope⟩:aj)).length) 13,di y2.start,.d (af 4 aH y2.levels),.d (af 9 aC y2.filters)]),.live (.arr 13 ((y2.productions.set (Int.toNat (Int.tmod (IntKind.wrap .i64 (IntKind.wrap .u8 (Int.tdiv a1 8))) (y2.productions.length:Int))) (⟨(y2.productions.getD (Int.toNat (Int.tmod (IntKind.wrap .i64 (IntKind.wrap .u8 (Int.tdiv a1 8))) (y2.productions.length:Int))) default).name,(y2.productions.getD (Int.toNat (Int.tmod (IntKind.wrap .i64 (IntKind.wrap .u8 (Int.tdiv a1 8))) (y2.productions.length:Int))) default).left,([(⟨true,x8⟩:aw)]:List aw),(y2.productions.getD (Int.toNat (Int.tmod (IntKind.wrap .i64 (IntKind.wrap .u8 (Int.tdiv a1 8))) (y2.productions.length:Int))) default).ifF,(y2.productions.getD (Int.toNat (Int.tmod (IntKind.wrap .i64 (IntKind.wrap .u8 (Int.tdiv a1 8))) (y2.productions.length:Int))) default).bracket,(y2.productions.getD (Int.toNat (Int.tmod (IntKind.wrap .i64 (IntKind.wrap .u8 (Int.tdiv a1 8))) (y2.productions.length:Int))) default).rank,(y2.productions.getD (Int.toNat (Int.tmod (IntKind.wrap .i64 (IntKind.wrap .u8 (Int.tdiv a1 8))) (y2.productions.length:Int))) default).layout,(y2.productions.getD (Int.toNat (Int.tmod (IntKind.wrap .i64 (IntKind.wrap .u8 (Int.tdiv a1 8))) (y2.productions.length:Int))) default).scope⟩:aj)).length) false (row aq (y2.productions.set (Int.toNat (Int.tmod (IntKind.wrap .i64 (IntKind.wrap .u8 (Int.tdiv a1 8))) (y2.productions.length:Int))) (⟨(y2.productions.getD (Int.toNat (Int.tmod (IntKind.wrap .i64 (IntKind.wrap .u8 (Int.tdiv a1 8))) (y2.productions.length:Int))) default).name,(y2.productions.getD (Int.toNat (Int.tmod (IntKind.wrap .i64 (IntKind.wrap .u8 (Int.tdiv a1 8))) (y2.productions.length:Int))) default).left,([(⟨true,x8⟩:aw)]:List aw),(y2.productions.getD (Int.toNat (Int.tmod (IntKind.wrap .i64 (IntKind.wrap .u8 (Int.tdiv a1 8))) (y2.productions.length:Int))) default).ifF,(y2.productions.getD (Int.toNat (Int.tmod (IntKind.wrap .i64 (IntKind.wrap .u8 (Int.tdiv a1 8))) (y2.productions.length:Int))) default).bracket,(y2.productions.getD (Int.toNat (Int.tmod (IntKind.wrap .i64 (IntKind.wrap .u8 (Int.tdiv a1 8))) (y2.productions.length:Int))) default).rank,(y2.productions.getD (Int.toNat (Int.tmod (IntKind.wrap .i64 (IntKind.wrap .u8 (Int.tdiv a1 8))) (y2.productions.length:Int))) default).layout,(y2.productions.getD (Int.toNat (Int.tmod (IntKind.wrap .i64 (IntKind.wrap .u8 (Int.tdiv a1 8))) (y2.productions.length:Int))) default).scope⟩:aj))))]⟩) rfl (by simp only [List.length_set])))),rfl,rfl⟩
    refine aa.sr (ab.ev0n [0,0] [(71,db (decide ((Int.tmod a1 8)=3)))] [] ?_)
    refine ao h fun x28 ho27 h=>?_
    refine aa.cut (Q':=fun e s'=>e = .normal∧s'=⟨[(7,db y1),(8,.ptr 0 0),(10,di x28.1)],[.live (.var [.d (af 1 eS y2.conditions),.d (af 3 ag y2.family.nodes),di y2.family.root,.d (af 7 aE y2.tokens),.d (af 1 eS y2.nonterminals),.osl 1 0 x28.2.2.2.length 13,di y2.start,.d (af 4 aH x28.2.1),.d (af 9 aC x28.2.2.1)]),.live (.arr 13 x28.2.2.2.length false (row aq x28.2.2.2))]⟩) ?_ ?_
    ·
     have h:=ho27
     refine aa.condI h rfl (fun hc16 h=>?_) (fun hc16 h=>?_)
     ·
      refine aD h fun hb17 h=>?_
      refine aa.region (ab.ev0 [0,0,0,0,0] [(74,.osl 2 0 y2.productions.length 13),(75,di (Int.tmod (IntKind.wrap .i64 (IntKind.wrap .u8 (Int.tdiv a1 8))) (y2.productions.length:Int))),(77,.agg (bW (⟨false,x8⟩:aw)))] [] ?_)
      refine ab.step (v:=.d (af 2 ay ([(⟨false,x8⟩:aw)]:List aw))) (ae.bsliceX [db false,di x8] [.d (.bool false),.d (.int .i64 x8)] (row ay ([(⟨false,x8⟩:aw)]:List aw)) rfl bL kD rfl rfl (by kernel_rfl) ⟨rfl,rfl,trivial⟩ (by kernel_rfl) (by kernel_rfl)) rfl rfl rfl ?_
      refine ab.ev0 [0,0] [(80,.eptr 2 (Int.toNat (Int.tmod (IntKind.wrap .i64 (IntKind.wrap .u8 (Int.tdiv a1 8))) (y2.productions.length:Int))) 2 13)] [⟨_,hb17.1⟩,⟨_,hb17.2⟩] ?_
      refine ab.step0 (ae.storeN aq y2.productions (⟨(y2.productions.getD (Int.toNat (Int.tmod (IntKind.wrap .i64 (IntKind.wrap .u8 (Int.tdiv a1 8))) (y2.productions.length:Int))) default).name,(y2.productions.getD (Int.toNat (Int.tmod (IntKind.wrap .i64 (IntKind.wrap .u8 (Int.tdiv a1 8))) (y2.productions.length:Int))) default).left,([(⟨false,x8⟩:aw)]:List aw),(y2.productions.getD (Int.toNat (Int.tmod (IntKind.wrap .i64 (IntKind.wrap .u8 (Int.tdiv a1 8))) (y2.productions.length:Int))) default).ifF,(y2.productions.getD (Int.toNat (Int.tmod (IntKind.wrap .i64 (IntKind.wrap .u8 (Int.tdiv a1 8))) (y2.productions.length:Int))) default).bracket,(y2.productions.getD (Int.toNat (Int.tmod (IntKind.wrap .i64 (IntKind.wrap .u8 (Int.tdiv a1 8))) (y2.productions.length:Int))) default).rank,(y2.productions.getD (Int.toNat (Int.tmod (IntKind.wrap .i64 (IntKind.wrap .u8 (Int.tdiv a1 8))) (y2.productions.length:Int))) default).layout,(y2.productions.getD (Int.toNat (Int.tmod (IntKind.wrap .i64 (IntKind.wrap .u8 (Int.tdiv a1 8))) (y2.productions.length:Int))) default).scope⟩:aj) rfl rfl rfl rfl cV rfl (by have:=hb17; omega) rfl rfl rfl rfl rfl rfl ⟨rfl,rfl,rfl,rfl,rfl,rfl,rfl,rfl,rfl,rfl,rfl,rfl,rfl,trivial⟩) rfl rfl ?_
      refine ab.hp (h':=[.live (.var [.d (af 1 eS y2.conditions),.d (af 3 ag y2.family.nodes),di y2.family.root,.d (af 7 aE y2.tokens),.d (af 1 eS y2.nonterminals),.osl 2 0 y2.productions.length 13,di y2.start,.d (af 4 aH y2.levels),.d (af 9 aC y2.filters)]),.freed,.live (.arr 13 y2.productions.length false (row aq (y2.productions.set (Int.toNat (Int.tmod (IntKind.wrap .i64 (IntKind.wrap .u8 (Int.tdiv a1 8))) (y2.productions.length:Int))) (⟨(y2.productions.getD (Int.toNat (Int.tmod (IntKind.wrap .i64 (IntKind.wrap .u8 (Int.tdiv a1 8))) (y2.productions.length:Int))) default).name,(y2.productions.getD (Int.toNat (Int.tmod (IntKind.wrap .i64 (IntKind.wrap .u8 (Int.tdiv a1 8))) (y2.productions.length:Int))) default).left,([(⟨false,x8⟩:aw)]:List aw),(y2.productions.getD (Int.toNat (Int.tmod (IntKind.wrap .i64 (IntKind.wrap .u8 (Int.tdiv a1 8))) (y2.productions.length:Int))) default).ifF,(y2.productions.getD (Int.toNat (Int.tmod (IntKind.wrap .i64 (IntKind.wrap .u8 (Int.tdiv a1 8))) (y2.productions.length:Int))) default).bracket,(y2.productions.getD (Int.toNat (Int.tmod (IntKind.wrap .i64 (IntKind.wrap .u8 (Int.tdiv a1 8))) (y2.productions.length:Int))) default).rank,(y2.productions.getD (Int.toNat (Int.tmod (IntKind.wrap .i64 (IntKind.wrap .u8 (Int.tdiv a1 8))) (y2.productions.length:Int))) default).layout,(y2.productions.getD (Int.toNat (Int.tmod (IntKind.wrap .i64 (IntKind.wrap .u8 (Int.tdiv a1 8))) (y2.productions.length:Int))) default).scope⟩:aj))))]) (by kernel_rfl) ?_
      refine ab.nil ?_
      cases h
      exact ⟨_,(GStep.trans (GStep.keep [7,8,10]) (GStep.trans (GStep.ren [0,2] (by decide) rfl rfl) (GStep.eqv (s1:=⟨[(7,db y1),(8,.ptr 0 0),(10,di 50)],[.live (.var [.d (af 1 eS y2.conditions),.d (af 3 ag y2.family.nodes),di y2.family.root,.d (af 7 aE y2.tokens),.d (af 1 eS y2.nonterminals),.osl 1 0 y2.productions.length 13,di y2.start,.d (af 4 aH y2.levels),.d (af 9 aC y2.filters)]),.live (.arr 13 y2.productions.length false (row aq (y2.productions.set (Int.toNat (Int.tmod (IntKind.wrap .i64 (IntKind.wrap .u8 (Int.tdiv a1 8))) (y2.productions.length:Int))) (⟨(y2.productions.getD (Int.toNat (Int.tmod (IntKind.wrap .i64 (IntKind.wrap .u8 (Int.tdiv a1 8))) (y2.productions.length:Int))) default).name,(y2.productions.getD (Int.toNat (Int.tmod (IntKind.wrap .i64 (IntKind.wrap .u8 (Int.tdiv a1 8))) (y2.productions.length:Int))) default).left,([(⟨false,x8⟩:aw)]:List aw),(y2.productions.getD (Int.toNat (Int.tmod (IntKind.wrap .i64 (IntKind.wrap .u8 (Int.tdiv a1 8))) (y2.productions.length:Int))) default).ifF,(y2.productions.getD (Int.toNat (Int.tmod (IntKind.wrap .i64 (IntKind.wrap .u8 (Int.tdiv a1 8))) (y2.productions.length:Int))) default).bracket,(y2.productions.getD (Int.toNat (Int.tmod (IntKind.wrap .i64 (IntKind.wrap .u8 (Int.tdiv a1 8))) (y2.productions.length:Int))) default).rank,(y2.productions.getD (Int.toNat (Int.tmod (IntKind.wrap .i64 (IntKind.wrap .u8 (Int.tdiv a1 8))) (y2.productions.length:Int))) default).layout,(y2.productions.getD (Int.toNat (Int.tmod (IntKind.wrap .i64 (IntKind.wrap .u8 (Int.tdiv a1 8))) (y2.productions.length:Int))) default).scope⟩:aj))))]⟩) (s':=⟨[(7,db y1),(8,.ptr 0 0),(10,di 50)],[.live (.var [.d (af 1 eS y2.conditions),.d (af 3 ag y2.family.nodes),di y2.family.root,.d (af 7 aE y2.tokens),.d (af 1 eS y2.nonterminals),.osl 1 0 ((y2.productions.set (Int.toNat (Int.tmod (IntKind.wrap .i64 (IntKind.wrap .u8 (Int.tdiv a1 8))) (y2.productions.length:Int))) (⟨(y2.productions.getD (Int.toNat (Int.tmod (IntKind.wrap .i64 (IntKind.wrap .u8 (Int.tdiv a1 8))) (y2.productions.length:Int))) default).name,(y2.productions.getD (Int.toNat (Int.tmod (IntKind.wrap .i64 (IntKind.wrap .u8 (Int.tdiv a1 8))) (y2.productions.length:Int))) default).left,([(⟨false,x8⟩:aw)]:List aw),(y2.productions.getD (Int.toNat (Int.tmod (IntKind.wrap .i64 (IntKind.wrap .u8 (Int.tdiv a1 8))) (y2.productions.length:Int))) default).ifF,(y2.productions.getD (Int.toNat (Int.tmod (IntKind.wrap .i64 (IntKind.wrap .u8 (Int.tdiv a1 8))) (y2.productions.length:Int))) default).bracket,(y2.productions.getD (Int.toNat (Int.tmod (IntKind.wrap .i64 (IntKind.wrap .u8 (Int.tdiv a1 8))) (y2.productions.length:Int))) default).rank,(y2.productions.getD (Int.toNat (Int.tmod (IntKind.wrap .i64 (IntKind.wrap .u8 (Int.tdiv a1 8))) (y2.productions.length:Int))) default).layout,(y2.productions.getD (Int.toNat (Int.tmod (IntKind.wrap .i64 (IntKind.wrap .u8 (Int.tdiv a1 8))) (y2.productions.length:Int))) default).scope⟩:aj)).length) 13,di y2.start,.d (af 4 aH y2.levels),.d (af 9 aC y2.filters)]),.live (.arr 13 ((y2.productions.set (Int.toNat (Int.tmod (IntKind.wrap .i64 (IntKind.wrap .u8 (Int.tdiv a1 8))) (y2.productions.length:Int))) (⟨(y2.productions.getD (Int.toNat (Int.tmod (IntKind.wrap .i64 (IntKind.wrap .u8 (Int.tdiv a1 8))) (y2.productions.length:Int))) default).name,(y2.productions.getD (Int.toNat (Int.tmod (IntKind.wrap .i64 (IntKind.wrap .u8 (Int.tdiv a1 8))) (y2.productions.length:Int))) default).left,([(⟨false,x8⟩:aw)]:List aw),(y2.productions.getD (Int.toNat (Int.tmod (IntKind.wrap .i64 (IntKind.wrap .u8 (Int.tdiv a1 8))) (y2.productions.length:Int))) default).ifF,(y2.productions.getD (Int.toNat (Int.tmod (IntKind.wrap .i64 (IntKind.wrap .u8 (Int.tdiv a1 8))) (y2.productions.length:Int))) default).bracket,(y2.productions.getD (Int.toNat (Int.tmod (IntKind.wrap .i64 (IntKind.wrap .u8 (Int.tdiv a1 8))) (y2.productions.length:Int))) default).rank,(y2.productions.getD (Int.toNat (Int.tmod (IntKind.wrap .i64 (IntKind.wrap .u8 (Int.tdiv a1 8))) (y2.productions.length:Int))) default).layout,(y2.productions.getD (Int.toNat (Int.tmod (IntKind.wrap .i64 (IntKind.wrap .u8 (Int.tdiv a1 8))) (y2.productions.length:Int))) default).scope⟩:aj)).length) false (row aq (y2.productions.set (Int.toNat (Int.tmod (IntKind.wrap .i64 (IntKind.wrap .u8 (Int.tdiv a1 8))) (y2.productions.length:Int))) (⟨(y2.productions.getD (Int.toNat (Int.tmod (IntKind.wrap .i64 (IntKind.wrap .u8 (Int.tdiv a1 8))) (y2.productions.length:Int))) default).name,(y2.productions.getD (Int.toNat (Int.tmod (IntKind.wrap .i64 (IntKind.wrap .u8 (Int.tdiv a1 8))) (y2.productions.length:Int))) default).left,([(⟨false,x8⟩:aw)]:List aw),(y2.productions.getD (Int.toNat (Int.tmod (IntKind.wrap .i64 (IntKind.wrap .u8 (Int.tdiv a1 8))) (y2.productions.length:Int))) default).ifF,(y2.productions.getD (Int.toNat (Int.tmod (IntKind.wrap .i64 (IntKind.wrap .u8 (Int.tdiv a1 8))) (y2.productions.length:Int))) default).bracket,(y2.productions.getD (Int.toNat (Int.tmod (IntKind.wrap .i64 (IntKind.wrap .u8 (Int.tdiv a1 8))) (y2.productions.length:Int))) default).rank,(y2.productions.getD (Int.toNat (Int.tmod (IntKind.wrap .i64 (IntKind.wrap .u8 (Int.tdiv a1 8))) (y2.productions.length:Int))) default).layout,(y2.productions.getD (Int.toNat (Int.tmod (IntKind.wrap .i64 (IntKind.wrap .u8 (Int.tdiv a1 8))) (y2.productions.length:Int))) default).scope⟩:aj))))]⟩) rfl (by simp only [List.length_set])))),rfl,rfl⟩
     refine aa.sr (ab.ev0n [0,0] [(81,db (decide ((Int.tmod a1 8)=4)))] [] ?_)
     refine ao h fun x26 ho25 h=>?_
     refine aa.cut (Q':=fun e s'=>e = .normal∧s'=⟨[(7,db y1),(8,.ptr 0 0),(10,di 53)],[.live (.var [.d (af 1 eS y2.conditions),.d (af 3 ag y2.family.nodes),di y2.family.root,.d (af 7 aE y2.tokens),.d (af 1 eS y2.nonterminals),.osl 1 0 y2.productions.length 13,di y2.start,.d (af 4 aH x26.1),.d (af 9 aC x26.2)]),.live (.arr 13 y2.productions.length false (row aq y2.productions))]⟩) ?_ ?_
     ·
      have h:=ho25
      refine aa.condI h rfl (fun hc18 h=>?_) (fun hc18 h=>?_)
      ·
       refine aa.sr (ab.ev0 [0] [(83,di x8)] [] ?_)
       refine ab.step (v:=.d (af 1 (eI .i64) ([x8]:List Int))) (ae.bsliceX [di x8] [.d (.int .i64 x8)] (row (eI .i64) ([x8]:List Int)) rfl dQ nI rfl rfl (by kernel_rfl) ⟨rfl,trivial⟩ (by kernel_rfl) (by kernel_rfl)) rfl rfl rfl ?_
       refine ab.ev0 [0,0,0] [(87,.agg (lE (⟨([x8]:List Int),0,y2.family⟩:aN)))] [] ?_
       refine ab.step (v:=.d (af 4 aH ([(⟨([x8]:List Int),0,y2.family⟩:aN)]:List aN))) (ae.bsliceX [.d (af 1 (eI .i64) ([x8]:List Int)),di 0,.d (af 3 ag y2.family.nodes),di y2.family.root] [.d (af 1 (eI .i64) ([x8]:List Int)),.d (.int .i64 0),.d (af 3 ag y2.family.nodes),.d (.int .i64 y2.family.root)] (row aH ([(⟨([x8]:List Int),0,y2.family⟩:aN)]:List aN)) rfl qg vO rfl rfl (by kernel_rfl) ⟨rfl,rfl,rfl,rfl,trivial⟩ (by kernel_rfl) (by kernel_rfl)) rfl rfl rfl ?_
       refine ab.evn (h':=[.live (.var [.d (af 1 eS y2.conditions),.d (af 3 ag y2.family.nodes),di y2.family.root,.d (af 7 aE y2.tokens),.d (af 1 eS y2.nonterminals),.osl 2 0 y2.productions.length 13,di y2.start,.d (af 4 aH ([(⟨([x8]:List Int),0,y2.family⟩:aN)]:List aN)),.d (af 9 aC y2.filters)]),.freed,.live (.arr 13 y2.productions.length false (row aq y2.productions))]) [0,0] [] [] ?_
       refine aa.region (ab.ev0n [0] [(10,di 53)] [] ?_)
       cases h
       exact ⟨_,(GStep.trans (GStep.keep [7,8,10]) (GStep.ren [0,2] (by decide) rfl rfl)),rfl,rfl⟩
      refine aa.sr (ab.ev0n [0,0] [(90,db (decide ((Int.tmod a1 8)=5)))] [] ?_)
      refine ao h fun x24 ho23 h=>?_
      refine aa.cut (Q':=fun e s'=>e = .normal∧s'=⟨[(7,db y1),(8,.ptr 0 0),(10,di 53)],[.live (.var [.d (af 1 eS y2.conditions),.d (af 3 ag y2.family.nodes),di y2.family.root,.d (af 7 aE y2.tokens),.d (af 1 eS y2.nonterminals),.osl 1 0 y2.productions.length 13,di y2.start,.d (af 4 aH y2.levels),.d (af 9 aC x24)]),.live (.arr 13 y2.productions.length false (row aq y2.productions))]⟩) ?_ ?_
      ·
       have h:=ho23
       refine aa.condI h rfl (fun hc19 h=>?_) (fun hc19 h=>?_)
       ·
        refine aa.sr (ab.ev0 [0,0,0,0] [(95,.agg [di 1,di x8,di 0,di 0,di 0,di 0,.nsl,.d (af 3 ag y2.family.nodes),di y2.family.root])] [] ?_)
        refine ab.step (v:=.d (af 9 aC ([(⟨1,x8,0,0,0,0,[],y2.family⟩:aA)]:List aA))) (ae.bsliceX [di 1,di x8,di 0,di 0,di 0,di 0,.nsl,.d (af 3 ag y2.family.nodes),di y2.family.root] [.d (.int .i64 1),.d (.int .i64 x8),.d (.int .i64 0),.d (.int .i64 0),.d (.int .i64 0),.d (.int .i64 0),.d (af 1 (eI .i64) []),.d (af 3 ag y2.family.nodes),.d (.int .i64 y2.family.root)] (row aC ([(⟨1,x8,0,0,0,0,[],y2.family⟩:aA)]:List aA)) rfl mf qm rfl rfl (by kernel_rfl) ⟨rfl,rfl,rfl,rfl,rfl,rfl,trivial,rfl,rfl,trivial⟩ (by kernel_rfl) (by kernel_rfl)) rfl rfl rfl ?_
        refine ab.evn (h':=[.live (.var [.d (af 1 eS y2.conditions),.d (af 3 ag y2.family.nodes),di y2.family.root,.d (af 7 aE y2.tokens),.d (af 1 eS y2.nonterminals),.osl 2 0 y2.productions.length 13,di y2.start,.d (af 4 aH y2.levels),.d (af 9 aC ([(⟨1,x8,0,0,0,0,[],y2.family⟩:aA)]:List aA))]),.freed,.live (.arr 13 y2.productions.length false (row aq y2.productions))]) [0,0] [] [] ?_
        refine aa.region (ab.ev0n [0] [(10,di 53)] [] ?_)
        cases h
        exact ⟨_,(GStep.trans (GStep.keep [7,8,10]) (GStep.ren [0,2] (by decide) rfl rfl)),rfl,rfl⟩
       refine aa.sr (ab.ev0n [0,0] [(98,db (decide ((Int.tmod a1 8)=6)))] [] ?_)
       refine ao h fun x22 ho21 h=>?_
       refine aa.cut (Q':=fun e s'=>e = .normal∧s'=⟨[(7,db y1),(8,.ptr 0 0),(10,di 53)],[.live (.var [.d (af 1 eS y2.conditions),.d (af 3 ag y2.family.nodes),di y2.family.root,.d (af 7 aE y2.tokens),.d (af 1 eS y2.nonterminals),.osl 1 0 y2.productions.length 13,di y2.start,.d (af 4 aH y2.levels),.d (af 9 aC x22)]),.live (.arr 13 y2.productions.length false (row aq y2.productions))]⟩) ?_ ?_
       ·
        have h:=ho21
        refine aa.condI h rfl (fun hc20 h=>?_) (fun hc20 h=>?_)
        ·
         refine aa.sr (ab.ev0 [0] [(100,di x8)] [] ?_)
         refine ab.step (v:=.d (af 1 (eI .i64) ([0]:List Int))) (ae.bsliceX [di 0] [.d (.int .i64 0)] (row (eI .i64) ([0]:List Int)) rfl dQ nI rfl rfl (by kernel_rfl) ⟨rfl,trivial⟩ (by kernel_rfl) (by kernel_rfl)) rfl rfl rfl ?_
         refine ab.ev0 [0,0,0] [(104,.agg (aW (⟨3,0,0,0,x8,0,([0]:List Int),y2.family⟩:aA)))] [] ?_
         refine ab.step (v:=.d (af 9 aC ([(⟨3,0,0,0,x8,0,([0]:List Int),y2.family⟩:aA)]:List aA))) (ae.bsliceX [di 3,di 0,di 0,di 0,di x8,di 0,.d (af 1 (eI .i64) ([0]:List Int)),.d (af 3 ag y2.family.nodes),di y2.family.root] [.d (.int .i64 3),.d (.int .i64 0),.d (.int .i64 0),.d (.int .i64 0),.d (.int .i64 x8),.d (.int .i64 0),.d (af 1 (eI .i64) ([0]:List Int)),.d (af 3 ag y2.family.nodes),.d (.int .i64 y2.family.root)] (row aC ([(⟨3,0,0,0,x8,0,([0]:List Int),y2.family⟩:aA)]:List aA)) rfl mf qm rfl rfl (by kernel_rfl) ⟨rfl,rfl,rfl,rfl,rfl,rfl,rfl,rfl,rfl,trivial⟩ (by kernel_rfl) (by kernel_rfl)) rfl rfl rfl ?_
         refine ab.evn (h':=[.live (.var [.d (af 1 eS y2.conditions),.d (af 3 ag y2.family.nodes),di y2.family.root,.d (af 7 aE y2.tokens),.d (af 1 eS y2.nonterminals),.osl 2 0 y2.productions.length 13,di y2.start,.d (af 4 aH y2.levels),.d (af 9 aC ([(⟨3,0,0,0,x8,0,([0]:List Int),y2.family⟩:aA)]:List aA))]),.freed,.live (.arr 13 y2.productions.length false (row aq y2.productions))]) [0,0] [] [] ?_
         refine aa.region (ab.ev0n [0] [(10,di 53)] [] ?_)
         cases h
         exact ⟨_,(GStep.trans (GStep.keep [7,8,10]) (GStep.ren [0,2] (by decide) rfl rfl)),rfl,rfl⟩
        refine aa.sr (ab.ev0 [0] [(42,di x8)] [] ?_)
        refine ab.step (v:=.d (af 1 (eI .i64) ([5]:List Int))) (ae.bsliceX [di 5] [.d (.int .i64 5)] (row (eI .i64) ([5]:List Int)) rfl dQ nI rfl rfl (by kernel_rfl) ⟨rfl,trivial⟩ (by kernel_rfl) (by kernel_rfl)) rfl rfl rfl ?_
        refine ab.ev0 [0,0,0] [(46,.agg (aW (⟨5,0,0,0,0,x8,([5]:List Int),y2.family⟩:aA)))] [] ?_
        refine ab.step (v:=.d (af 9 aC ([(⟨5,0,0,0,0,x8,([5]:List Int),y2.family⟩:aA)]:List aA))) (ae.bsliceX [di 5,di 0,di 0,di 0,di 0,di x8,.d (af 1 (eI .i64) ([5]:List Int)),.d (af 3 ag y2.family.nodes),di y2.family.root] [.d (.int .i64 5),.d (.int .i64 0),.d (.int .i64 0),.d (.int .i64 0),.d (.int .i64 0),.d (.int .i64 x8),.d (af 1 (eI .i64) ([5]:List Int)),.d (af 3 ag y2.family.nodes),.d (.int .i64 y2.family.root)] (row aC ([(⟨5,0,0,0,0,x8,([5]:List Int),y2.family⟩:aA)]:List aA)) rfl mf qm rfl rfl (by kernel_rfl) ⟨rfl,rfl,rfl,rfl,rfl,rfl,rfl,rfl,rfl,trivial⟩ (by kernel_rfl) (by kernel_rfl)) rfl rfl rfl ?_
        refine ab.evn (h':=[.live (.var [.d (af 1 eS y2.conditions),.d (af 3 ag y2.family.nodes),di y2.family.root,.d (af 7 aE y2.tokens),.d (af 1 eS y2.nonterminals),.osl 2 0 y2.productions.length 13,di y2.start,.d (af 4 aH y2.levels),.d (af 9 aC ([(⟨5,0,0,0,0,x8,([5]:List Int),y2.family⟩:aA)]:List aA))]),.freed,.live (.arr 13 y2.productions.length false (row aq y2.productions))]) [0,0] [] [] ?_
        refine aa.region (ab.ev0n [0] [(10,di 53)] [] ?_)
        cases h
        exact ⟨_,(GStep.trans (GStep.keep [7,8,10]) (GStep.ren [0,2] (by decide) rfl rfl)),rfl,rfl⟩
       rintro e s' hq
       obtain ⟨rfl,rfl⟩:=hq
       cases h
       exact ⟨_,(GStep.keep [7,8,10]),rfl,rfl⟩
      rintro e s' hq
      obtain ⟨rfl,rfl⟩:=hq
      cases h
      exact ⟨_,(GStep.keep [7,8,10]),rfl,rfl⟩
     rintro e s' hq
     obtain ⟨rfl,rfl⟩:=hq
     cases h
     exact ⟨_,(GStep.keep [7,8,10]),rfl,rfl⟩
    rintro e s' hq
    obtain ⟨rfl,rfl⟩:=hq
    cases h
    exact ⟨_,(GStep.keep [7,8,10]),rfl,rfl⟩
   rintro e s' hq
   obtain ⟨rfl,rfl⟩:=hq
   cases h
   exact ⟨_,(GStep.keep [7,8,10]),rfl,rfl⟩
  rintro e s' hq
  obtain ⟨rfl,rfl⟩:=hq
  cases h
  exact ⟨_,(GStep.keep [7,8,10]),rfl,rfl⟩
 rintro e s' hq
 obtain ⟨rfl,rfl⟩:=hq
 refine aa.seq ?_
 refine ao h fun y35 hy35 h=>?_
 refine aa.region (ab.ev0 [0] [(108,.agg [.d (af 1 eS y2.conditions),.d (af 3 ag y2.family.nodes),di y2.family.root,.d (af 7 aE y2.tokens),.d (af 1 eS y2.nonterminals),.osl 1 0 x34.2.2.2.2.length 13,di x34.2.1,.d (af 4 aH x34.2.2.1),.d (af 9 aC x34.2.2.2.1)])] [] ?_)
 refine ab.ghost (GStep.trans (GStep.keep [7,8,10,108]) (GStep.shutG 1 rfl ⟨trivial,trivial,trivial,⟨trivial,trivial,trivial,trivial,trivial,(fun _=>⟨Nat.le_of_eq (Nat.zero_add _),rfl⟩),trivial,trivial,trivial,trivial⟩,trivial⟩ ⟨⟨trivial,trivial,trivial,trivial,trivial,(fun _=>⟨Nat.le_of_eq (Nat.zero_add _),rfl⟩),trivial,trivial,trivial,trivial⟩,trivial,trivial⟩)) ?_
 refine ab.step (v:=.tup [.agg [.nsl,.nsl,di y35.1,.nsl,.nsl,.nsl,di y35.2.1,.nsl,.nsl],di y35.2.2]) (ae.callS [] (rO k (⟨y2.conditions,y2.family,y2.tokens,y2.nonterminals,x34.2.2.2.2,x34.2.1,x34.2.2.1,x34.2.2.2.1⟩:am) 0 _ hy35) rfl rfl ⟨⟨rfl,rfl,rfl,rfl,rfl,rfl,rfl,rfl,rfl,trivial⟩,rfl,trivial⟩ (by decide) rfl rfl trivial) rfl rfl rfl ?_
 refine ab.evn (h':=[.live (.var (ah (⟨y2.conditions,y2.family,y2.tokens,y2.nonterminals,x34.2.2.2.2,x34.2.1,x34.2.2.1,x34.2.2.2.1⟩:am))),.freed,.live (.var [.nsl,.nsl,di y35.1,.nsl,.nsl,.nsl,di y35.2.1,.nsl,.nsl])]) [0,0,0,0,0,0] [(12,di y35.2.2)] [] ?_
 refine aa.seq ?_
 refine ao h fun y36 hy36 h=>?_
 refine aa.region (ab.ev0 [0] [(113,.agg (ah (⟨y2.conditions,y2.family,y2.tokens,y2.nonterminals,x34.2.2.2.2,x34.2.1,x34.2.2.1,x34.2.2.2.1⟩:am)))] [] ?_)
 refine ab.step (v:=.tup [.nsl,di y36]) (ae.callS [] (od k (⟨y2.conditions,y2.family,y2.tokens,y2.nonterminals,x34.2.2.2.2,x34.2.1,x34.2.2.1,x34.2.2.2.1⟩:am) _ hy36) rfl rfl ⟨⟨rfl,rfl,rfl,rfl,rfl,rfl,rfl,rfl,rfl,trivial⟩,trivial⟩ (by decide) rfl rfl trivial) rfl rfl rfl ?_
 refine ab.ev0n [0,0,0,0,0] [(14,di y36)] [] ?_
 refine aa.seq ?_
 refine ao h fun y37 hy37 h=>?_
 refine aa.region (ab.ev0 [0] [(118,.agg (ah (⟨y2.conditions,y2.family,y2.tokens,y2.nonterminals,x34.2.2.2.2,x34.2.1,x34.2.2.1,x34.2.2.2.1⟩:am)))] [] ?_)
 refine ab.step (v:=.tup [.nsl,db y37]) (ae.callS [] (mV k (⟨y2.conditions,y2.family,y2.tokens,y2.nonterminals,x34.2.2.2.2,x34.2.1,x34.2.2.1,x34.2.2.2.1⟩:am) 5 _ hy37) rfl rfl ⟨⟨rfl,rfl,rfl,rfl,rfl,rfl,rfl,rfl,rfl,trivial⟩,rfl,trivial⟩ (by decide) rfl rfl trivial) rfl rfl rfl ?_
 refine ab.ev0n [0,0,0,0,0] [(15,.nsl),(16,db y37)] [] ?_
 refine aa.seq ?_
 refine ao h fun x46 ho45 h=>?_
 refine aa.cut (Q':=fun e s'=>e = .normal∧s'=⟨[(6,db x46)],[]⟩) ?_ ?_
 ·
  have h:=ho45
  refine ao h fun y38 hy38 h=>?_
  refine au h (fun hc39 h=>?_) (fun hc39 h=>?_)
  ·
   refine au h (fun hc40 h=>?_) (fun hc40 h=>?_)
   ·
    refine au h (fun hc41 h=>?_) (fun hc41 h=>?_)
    ·
     refine au h (fun hc42 h=>?_) (fun hc42 h=>?_)
     ·
      refine ao h fun y43 hy43 h=>?_
      refine au h (fun hc44 h=>?_) (fun hc44 h=>?_)
      ·
       refine aa.region (ab.ev0 [0] [(122,.agg (ah (⟨y2.conditions,y2.family,y2.tokens,y2.nonterminals,x34.2.2.2.2,x34.2.1,x34.2.2.1,x34.2.2.2.1⟩:am)))] [] ?_)
       refine ab.step (v:=di y38) (ae.callS [] (bz k (⟨y2.conditions,y2.family,y2.tokens,y2.nonterminals,x34.2.2.2.2,x34.2.1,x34.2.2.1,x34.2.2.2.1⟩:am) _ hy38) rfl rfl ⟨⟨rfl,rfl,rfl,rfl,rfl,rfl,rfl,rfl,rfl,trivial⟩,trivial⟩ (by decide) rfl rfl trivial) rfl rfl rfl ?_
       refine ab.ev0 [0,0,0,1,0,0,0,0,1,0,0,0,0,1,0,0,0,0,0,0,0,0,3] [(145,db (!y37)),(146,.agg (ah (⟨y2.conditions,y2.family,y2.tokens,y2.nonterminals,x34.2.2.2.2,x34.2.1,x34.2.2.1,x34.2.2.2.1⟩:am)))] [⟨_,hc39⟩,⟨_,hc40⟩,⟨_,hc41⟩,⟨_,hc42⟩] ?_
       refine ab.gstep (v:=db y43) (ae.callS [] (mq k (⟨y2.conditions,y2.family,y2.tokens,y2.nonterminals,x34.2.2.2.2,x34.2.1,x34.2.2.1,x34.2.2.2.1⟩:am) 0 _ hy43) rfl rfl ⟨⟨rfl,rfl,rfl,rfl,rfl,rfl,rfl,rfl,rfl,trivial⟩,rfl,trivial⟩ (by decide) rfl rfl trivial) rfl rfl rfl hc42 rfl rfl ?_
       refine ab.ev0n [3,10,0,1,0,0] [(6,db y1)] [⟨_,hc42⟩,⟨_,hc42⟩,⟨_,hc44⟩] ?_
       cases h
       exact ⟨_,(GStep.trans (GStep.keep [6]) (GStep.ren [] (by decide) rfl rfl)),rfl,rfl⟩
      refine aa.region (ab.ev0 [0] [(122,.agg (ah (⟨y2.conditions,y2.family,y2.tokens,y2.nonterminals,x34.2.2.2.2,x34.2.1,x34.2.2.1,x34.2.2.2.1⟩:am)))] [] ?_)
      refine ab.step (v:=di y38) (ae.callS [] (bz k (⟨y2.conditions,y2.family,y2.tokens,y2.nonterminals,x34.2.2.2.2,x34.2.1,x34.2.2.1,x34.2.2.2.1⟩:am) _ hy38) rfl rfl ⟨⟨rfl,rfl,rfl,rfl,rfl,rfl,rfl,rfl,rfl,trivial⟩,trivial⟩ (by decide) rfl rfl trivial) rfl rfl rfl ?_
      refine ab.ev0 [0,0,0,1,0,0,0,0,1,0,0,0,0,1,0,0,0,0,0,0,0,0,3] [(145,db (!y37)),(146,.agg (ah (⟨y2.conditions,y2.family,y2.tokens,y2.nonterminals,x34.2.2.2.2,x34.2.1,x34.2.2.1,x34.2.2.2.1⟩:am)))] [⟨_,hc39⟩,⟨_,hc40⟩,⟨_,hc41⟩,⟨_,hc42⟩] ?_
      refine ab.gstep (v:=db y43) (ae.callS [] (mq k (⟨y2.conditions,y2.family,y2.tokens,y2.nonterminals,x34.2.2.2.2,x34.2.1,x34.2.2.1,x34.2.2.2.1⟩:am) 0 _ hy43) rfl rfl ⟨⟨rfl,rfl,rfl,rfl,rfl,rfl,rfl,rfl,rfl,trivial⟩,rfl,trivial⟩ (by decide) rfl rfl trivial) rfl rfl rfl hc42 rfl rfl ?_
      refine ab.ev0n [3,10,0,2,0,0] [(6,db false)] [⟨_,hc42⟩,⟨_,hc42⟩,⟨_,hc44⟩] ?_
      cases h
      exact ⟨_,(GStep.trans (GStep.keep [6]) (GStep.ren [] (by decide) rfl rfl)),rfl,rfl⟩
     refine aa.region (ab.ev0 [0] [(122,.agg (ah (⟨y2.conditions,y2.family,y2.tokens,y2.nonterminals,x34.2.2.2.2,x34.2.1,x34.2.2.1,x34.2.2.2.1⟩:am)))] [] ?_)
     refine ab.step (v:=di y38) (ae.callS [] (bz k (⟨y2.conditions,y2.family,y2.tokens,y2.nonterminals,x34.2.2.2.2,x34.2.1,x34.2.2.1,x34.2.2.2.1⟩:am) _ hy38) rfl rfl ⟨⟨rfl,rfl,rfl,rfl,rfl,rfl,rfl,rfl,rfl,trivial⟩,trivial⟩ (by decide) rfl rfl trivial) rfl rfl rfl ?_
     refine ab.ev0n [0,0,0,1,0,0,0,0,1,0,0,0,0,1,0,0,0,0,0,0,0,0,2,0,0,0,0,0,0,0] [(6,db false)] [⟨_,hc39⟩,⟨_,hc40⟩,⟨_,hc41⟩,⟨_,hc42⟩] ?_
     cases h
     exact ⟨_,(GStep.trans (GStep.keep [6]) (GStep.ren [] (by decide) rfl rfl)),rfl,rfl⟩
    refine aa.region (ab.ev0 [0] [(122,.agg (ah (⟨y2.conditions,y2.family,y2.tokens,y2.nonterminals,x34.2.2.2.2,x34.2.1,x34.2.2.1,x34.2.2.2.1⟩:am)))] [] ?_)
    refine ab.step (v:=di y38) (ae.callS [] (bz k (⟨y2.conditions,y2.family,y2.tokens,y2.nonterminals,x34.2.2.2.2,x34.2.1,x34.2.2.1,x34.2.2.2.1⟩:am) _ hy38) rfl rfl ⟨⟨rfl,rfl,rfl,rfl,rfl,rfl,rfl,rfl,rfl,trivial⟩,trivial⟩ (by decide) rfl rfl trivial) rfl rfl rfl ?_
    refine ab.ev0n [0,0,0,1,0,0,0,0,1,0,0,0,0,2,0,0,0,0,0,0,0,0,0,0,0,0,0,0,0,0] [(6,db false)] [⟨_,hc39⟩,⟨_,hc40⟩,⟨_,hc41⟩] ?_
    cases h
    exact ⟨_,(GStep.trans (GStep.keep [6]) (GStep.ren [] (by decide) rfl rfl)),rfl,rfl⟩
   refine aa.region (ab.ev0 [0] [(122,.agg (ah (⟨y2.conditions,y2.family,y2.tokens,y2.nonterminals,x34.2.2.2.2,x34.2.1,x34.2.2.1,x34.2.2.2.1⟩:am)))] [] ?_)
   refine ab.step (v:=di y38) (ae.callS [] (bz k (⟨y2.conditions,y2.family,y2.tokens,y2.nonterminals,x34.2.2.2.2,x34.2.1,x34.2.2.1,x34.2.2.2.1⟩:am) _ hy38) rfl rfl ⟨⟨rfl,rfl,rfl,rfl,rfl,rfl,rfl,rfl,rfl,trivial⟩,trivial⟩ (by decide) rfl rfl trivial) rfl rfl rfl ?_
   refine ab.ev0n [0,0,0,1,0,0,0,0,2,0,0,0,0,0,0,0,0,0,0,0,0,0,0,0,0,0,0,0,0,0] [(6,db false)] [⟨_,hc39⟩,⟨_,hc40⟩] ?_
   cases h
   exact ⟨_,(GStep.trans (GStep.keep [6]) (GStep.ren [] (by decide) rfl rfl)),rfl,rfl⟩
  refine aa.region (ab.ev0 [0] [(122,.agg (ah (⟨y2.conditions,y2.family,y2.tokens,y2.nonterminals,x34.2.2.2.2,x34.2.1,x34.2.2.1,x34.2.2.2.1⟩:am)))] [] ?_)
  refine ab.step (v:=di y38) (ae.callS [] (bz k (⟨y2.conditions,y2.family,y2.tokens,y2.nonterminals,x34.2.2.2.2,x34.2.1,x34.2.2.1,x34.2.2.2.1⟩:am) _ hy38) rfl rfl ⟨⟨rfl,rfl,rfl,rfl,rfl,rfl,rfl,rfl,rfl,trivial⟩,trivial⟩ (by decide) rfl rfl trivial) rfl rfl rfl ?_
  refine ab.ev0n [0,0,0,2,0,0,0,0,0,0,0,0,0,0,0,0,0,0,0,0,0,0,0,0,0,0,0,0,0,0] [(6,db false)] [⟨_,hc39⟩] ?_
  cases h
  exact ⟨_,(GStep.trans (GStep.keep [6]) (GStep.ren [] (by decide) rfl rfl)),rfl,rfl⟩
 rintro e s' hq
 obtain ⟨rfl,rfl⟩:=hq
 refine aa.ret ?_
 cases h
 exact ⟨_,(GStep.keep [6]),.inr rfl,Fin.mk2 (aB.one (.tmp rfl)) [] (by decide) rfl rfl rfl rfl⟩

end
end Go.Abs
namespace Go.Abs
noncomputable section
theorem cn {x:Int}(h1 : -9223372036854775808≤x)(h2:x≤9223372036854775807):IntKind.wrap .i64 x=x:=by
  simp only [IntKind.wrap,IntKind.signed,IntKind.bits]
  simp
  omega
theorem ym {x:Int}(h1:0≤x)(h2:x≤255):IntKind.wrap .u8 x=x:=by
  simp only [IntKind.wrap,IntKind.signed,IntKind.bits]
  simp
  omega
noncomputable def Ev {α:Type}(F:Nat→Option α)(a:α):Prop:=∃ K,∀ k,K≤k→F k=some a
section
variable {α β:Type}{F G:Nat→Option α}{a:α}{b:β}
theorem Ev.const (a:α):Ev (fun _=>some a) a:=⟨0,fun _ _=>rfl⟩
theorem Ev.of {n:Nat}(h:∀ k,F (k+n)=some a):Ev F a:=⟨n,fun k hk=>by obtain ⟨j,rfl⟩:∃ j,k=j+n:=⟨k - n,by omega⟩; exact h j⟩
theorem Ev.bind {H:Nat→α→Option β}(h:Ev F a)(g:Ev (fun k=>H k a) b):Ev (fun k=>(F k).bind (H k)) b:=by
  obtain ⟨K,hK⟩:=h
  obtain ⟨L,hL⟩:=g
  exact ⟨K+L,fun k hk=>by simp only [hK k (by omega),Option.bind_some]; exact hL k (by omega)⟩
theorem Ev.bindc {x:Option α}{H:Nat→α→Option β}(h:x=some a)(g:Ev (fun k=>H k a) b):Ev (fun k=>x.bind (H k)) b:=by
  subst h; exact g
theorem Ev.pos {c:Prop}[Decidable c](hc:c)(h:Ev F a):Ev (fun k=>if c then F k else G k) a:=by
  simpa only [if_pos hc] using h
theorem Ev.neg {c:Prop}[Decidable c](hc:¬ c)(h:Ev G a):Ev (fun k=>if c then F k else G k) a:=by
  simpa only [if_neg hc] using h
theorem Ev.succ (h:Ev (fun k=>F (k+1)) a):Ev F a:=by
  obtain ⟨K,hK⟩:=h
  exact ⟨K+1,fun k hk=>by obtain ⟨j,rfl⟩:∃ j,k=j+1:=⟨k - 1,by omega⟩; exact hK j (by omega)⟩
theorem Ev.congr (e:∀ k,F k=G k)(h:Ev G a):Ev F a:=by
  obtain ⟨K,hK⟩:=h
  exact ⟨K,fun k hk=>by rw [e k]; exact hK k hk⟩
theorem Ev.ex (h:Ev F a):∃ k,F k=some a:=let ⟨K,hK⟩:=h; ⟨K,hK K (Nat.le_refl _)⟩
end
theorem yX {α:Type}[Inhabited α](pre:List α)(x:α)(suf:List α):nth (pre++x::suf) (pre.length:Int)=x:=by
  simp [nth]
theorem gJ {α ω σ τ:Type}(xs:List α)(mk:Int→σ→τ)(L:Nat→τ→Option ω)(R:List α→List α→σ→ω→Prop)
    (hnil:∀ s w,R xs [] s w→Ev (fun k=>L k (mk xs.length s)) w)
    (hcons:∀ pre x suf s w,xs=pre++x::suf→R pre (x::suf) s w→(∃ s',R (pre++[x]) suf s' w∧(Ev (fun k=>L k (mk ((pre.length:Int)+1) s')) w→Ev (fun k=>L k (mk pre.length s)) w))∨Ev (fun k=>L k (mk pre.length s)) w) :
    ∀ suf pre s w,xs=pre++suf→R pre suf s w→Ev (fun k=>L k (mk pre.length s)) w:=by
  intro suf
  induction suf with
  | nil=>
    intro pre s w hx hr
    simp at hx
    subst hx
    exact hnil s w hr
  | cons x suf ih=>
    intro pre s w hx hr
    rcases hcons pre x suf s w hx hr with ⟨s',h1,h2⟩ | h
    · refine h2 ?_
      have:=ih (pre++[x]) s' w (by simp [hx]) h1
      simpa using this
    · exact h
theorem ww {K V:Type}[DecidableEq K](m:List (K×V))(a b:K)(x:V):bu (aP m a x) b=if a=b then some x else bu m b:=by
  induction m with
  | nil=>simp [aP,bu]
  | cons p r ih=>
    obtain ⟨k,v⟩:=p
    simp only [aP]
    by_cases h:k=a
    · subst h
      rw [if_pos rfl]
      simp only [bu]
      split <;> rfl
    · simp only [if_neg h,bu,ih]
      by_cases h2:k=b
      · subst h2
        simp [Ne.symm h]
      · simp [h2]
noncomputable def Kn {K:Type}[DecidableEq K](m:List (K×Bool))(l:List K):Prop:=∀ s,(bu m s).getD false=decide (s∈l)
theorem Kn.nil {K:Type}[DecidableEq K]:Kn ([]:List (K×Bool)) []:=fun s=>by simp [bu]
theorem Kn.set {K:Type}[DecidableEq K]{m:List (K×Bool)}{l:List K}(h:Kn m l)(a:K):Kn (aP m a true) (a::l):=fun s=>by
  rw [ww]
  by_cases e:a=s
  · subst e; simp
  · simp [e,h s,Ne.symm e]
end
end Go.Abs
namespace Go.Abs
noncomputable section
noncomputable def yt (x:Option ap)(d:ap):Bool:=match x with | some e=>decide (e=d) | none=>false
noncomputable def yq (x:Option Bool):Bool:=match x with | some b=>b | none=>false
theorem uj {x:Option ap}{d:ap}(h:yt x d=true):x=some d:=by
  cases x with
  | none=>cases h
  | some e=>simp [yt] at h; rw [h]
theorem ui {x:Option Bool}(h:yq x=true):x=some true:=by
  cases x with
  | none=>cases h
  | some e=>simp [yq] at h; rw [h]
noncomputable def okD (n:Int)(d:ap):Prop:=∀ k,dg (k+60) d n=some true∧gx (k+60) d n=some true
noncomputable def mM (k:Nat)(d:ap)(n:Int):Bool:=yq (dg (k+60) d n)&&yq (gx (k+60) d n)
theorem fd {d:ap}{n:Int}(h:∀ k,mM k d n=true):okD n d:=fun k=>by
  have:=h k
  simp only [mM,Bool.and_eq_true] at this
  exact ⟨ui this.1,ui this.2⟩
noncomputable def d0 (b:Int)(n:Int):ap:=(fI 60 b n).getD default
noncomputable def d1 (b:Int)(n:Int):ap:=(dN 60 [b] n).getD default
noncomputable def ig (k:Nat)(b n:Int):Bool:=yt (fI (k+60) b n) (d0 b n)&&(mM k (d0 b n) n&&(yt (dN (k+60) [b] n) (d1 b n)&&mM k (d1 b n) n))
noncomputable def oG (f:Int→Bool):Nat→Bool:=fun n=>Nat.rec true (fun i ih=>Bool.rec false ih (f i)) n
theorem jI {f:Int→Bool}:∀ {n:Nat},oG f n=true→∀ i:Int,0≤i→i < n→f i=true
  | 0,h,i,h0,h1=>absurd h1 (by omega)
  | n+1,h,i,h0,h1=>by
    have e:oG f (n+1)=Bool.rec false (oG f n) (f n):=rfl
    rw [e] at h
    cases hf:f n with
    | false=>rw [hf] at h; cases h
    | true=>
      rw [hf] at h
      rcases (by omega:i < n∨i=n) with c | c
      · exact jI h i h0 c
      · subst c
        exact hf
theorem set0 (k:Nat):oG (ig k · 0) 256=true:=by kernel_rfl
theorem set1 (k:Nat):oG (ig k · 1) 256=true:=by kernel_rfl
theorem set2 (k:Nat):oG (ig k · 2) 256=true:=by kernel_rfl
theorem AC (k:Nat):oG (ig k · 3) 256=true:=by kernel_rfl
theorem vE (k:Nat){n:Nat}(hn:n≤3){b:Int}(h0:0≤b)(h1:b≤255):ig k b n=true:=by
  match n,hn with
  | 0,_=>exact jI (set0 k) b h0 (by omega)
  | 1,_=>exact jI (set1 k) b h0 (by omega)
  | 2,_=>exact jI (set2 k) b h0 (by omega)
  | 3,_=>exact jI (AC k) b h0 (by omega)
theorem vQ {n:Nat}(hn:n≤3){b:Int}(h0:0≤b)(h1:b≤255):∃ d,Ev (fun k=>fI k b n) d∧okD n d:=by
  refine ⟨d0 b n,Ev.of (n:=60) fun k=>?_,fd fun k=>?_⟩
  · have:=vE k hn h0 h1
    simp only [ig,Bool.and_eq_true] at this
    exact uj this.1
  · have:=vE k hn h0 h1
    simp only [ig,Bool.and_eq_true] at this
    exact this.2.1
theorem xi {n:Nat}(hn:n≤3){b:Int}(h0:0≤b)(h1:b≤255):∃ d,(∀ k,dN (k+60) [b] n=some d)∧okD n d:=by
  refine ⟨d1 b n,fun k=>?_,fd fun k=>?_⟩
  · have:=vE k hn h0 h1
    simp only [ig,Bool.and_eq_true] at this
    exact uj this.2.2.1
  · have:=vE k hn h0 h1
    simp only [ig,Bool.and_eq_true] at this
    exact this.2.2.2
end
end Go.Abs
namespace Go.Abs
noncomputable section
theorem yg (l:List Int)(k:Nat)(n:Int)(kk:Nat)(h:kk < 8):ck (k+1) l n n kk=ck (k+1) [l.headD 0] n n kk:=by
  have e:IntKind.wrap .i64 (Int.tdiv (kk:Int) 8)=0:=by
    have:Int.tdiv (kk:Int) 8=0:=by rw [Int.tdiv_eq_ediv_of_nonneg (by omega)]; omega
    rw [this]; rfl
  cases l with
  | nil=>
    simp only [ck,e,decide_true,if_true,List.headD,List.length_nil,List.length_cons]
    match kk,h with
    | 0,_=>rfl
    | 1,_=>rfl
    | 2,_=>rfl
    | 3,_=>rfl
    | 4,_=>rfl
    | 5,_=>rfl
    | 6,_=>rfl
    | 7,_=>rfl
  | cons b r=>
    have h1:(0:Int) < ((b::r).length:Int):=by simp only [List.length_cons]; omega
    have h2:(0:Int) < (([b]:List Int).length:Int):=by simp
    have e1:nth (b::r) 0=b:=rfl
    have e2:nth [b] 0=b:=rfl
    simp only [ck,e,decide_true,if_true,List.headD,h1,h2,e1,e2,and_true,Int.le_refl]
theorem vG (l:List Int)(n:Nat)(hn:n≤3):∀ (k v kk:Nat),v≤n→kk < 2 ^ v→ck k l n v kk=ck k [l.headD 0] n v kk:=by
  intro k
  induction k with
  | zero=>intro v kk _ _; rfl
  | succ k ih=>
    intro v kk hv hk
    by_cases hvn:v=n
    · subst hvn
      exact yg l k v kk (by have:2 ^ v≤2 ^ 3:=Nat.pow_le_pow_right (by omega) hn; omega)
    · have hp:∃ p:Nat,IntKind.wrap .i64 (1*2 ^ (min (Int.toNat (IntKind.wrap .u64 (v:Int))) (IntKind.bits .i64)))=(p:Int)∧p=2 ^ v:=by
        match v,(by omega:v < 3) with
        | 0,_=>exact ⟨1,rfl,rfl⟩
        | 1,_=>exact ⟨2,rfl,rfl⟩
        | 2,_=>exact ⟨4,rfl,rfl⟩
      obtain ⟨p,hp1,hp2⟩:=hp
      have h8:(2:Nat) ^ v≤2 ^ 3:=Nat.pow_le_pow_right (by omega) (by omega)
      have hne:¬ (v:Int)=n:=by omega
      have e1:IntKind.wrap .i64 ((v:Int)+1)=((v+1:Nat):Int):=by rw [cn (by omega) (by omega)]; rfl
      have e2:IntKind.wrap .i64 ((kk:Int)+p)=((kk+p:Nat):Int):=by rw [cn (by omega) (by omega)]; simp
      simp only [ck,hp1,e1,e2,hne,decide_false,Bool.false_eq_true,if_false]
      rw [ih (v+1) (kk+p) (by omega) (by rw [Nat.pow_succ]; omega),ih (v+1) kk (by omega) (by rw [Nat.pow_succ]; omega)]
theorem yL {n:Nat}(hn:n≤3)(l:List Int)(hl:∀ b∈l,0≤b∧b≤255):∃ d,Ev (fun k=>dN k l n) d∧okD n d:=by
  have hb:0≤l.headD 0∧l.headD 0≤255:=by
    cases l with
    | nil=>simp
    | cons b r=>exact hl b (by simp)
  obtain ⟨d,h1,h2⟩:=xi hn hb.1 hb.2
  refine ⟨d,Ev.of (n:=60) fun k=>?_,h2⟩
  rw [← h1 k]
  have e:(if (if (6:Int) < n then 6 else (n:Int)) > 0 then (if (6:Int) < n then 6 else (n:Int)) else 0)=(n:Int):=by
    have h6:¬ (6:Int) < n:=by omega
    simp only [h6,if_false]
    by_cases h:(n:Int) > 0
    · rw [if_pos h]
    · rw [if_neg h]; omega
  simp only [dN,e]
  have:=vG l n hn (k+60) 0 0 (by omega) (by simp)
  simp only [Int.natCast_zero] at this
  rw [this]
end
end Go.Abs
namespace Go.Abs
noncomputable section
noncomputable def mt (nn:Nat)(s:aw):Bool:=decide (0≤s.index)&&(if s.token then decide (s.index < 9) else decide (s.index < nn))
noncomputable def gK (r:Nat)(x:ar):Bool:=decide (1≤x.kind)&&decide (x.kind≤4)&&decide (0≤x.a)&&decide (x.a < r)&&decide (0≤x.b)&&decide (x.b < r)&&(!decide (x.kind=1)||decide (x.b=0))
noncomputable def ku (right:List aw)(d v lo hi:Int):Bool:=if d=0 then decide (v=0) else decide (0 < d)&&decide (d≤right.length)&&(nth right (d - 1)).token&&decide (lo≤v)&&decide (v≤hi)
noncomputable def ip (p:aj):Bool:=decide (p.right.length=3)&&decide (p.rank=0)&&decide (p.layout=[])&&decide (p.scope=⟨false,0,0,0,0⟩)&&(nth p.right 0).token && !(nth p.right 1).token&&decide ((nth p.right 1).index=p.left)&&(nth p.right 2).token
structure sn (nn:Nat)(p:aj):Prop where
  left:0≤p.left∧p.left < nn
  right:∀ s∈p.right,mt nn s=true
  rlen:p.right.length≤16
  rank : -1≤p.rank∧p.rank≤1
  layout:∀ x∈p.layout,gK p.right.length x=true
  llen:p.layout.length≤16
  decl:ku p.right p.scope.declares p.scope.kind 1 7=true
  uses:ku p.right p.scope.uses p.scope.allowed 0 255=true
  br:p.bracket=true→ip p=true
noncomputable def xL (nn:Nat)(p:aj):Bool:=decide (0≤p.left∧p.left < nn)&&(p.right.all (mt nn)&&(decide (p.right.length≤16)&&(decide (-1≤p.rank∧p.rank≤1)&&(p.layout.all (gK p.right.length)&&(decide (p.layout.length≤16)&&(ku p.right p.scope.declares p.scope.kind 1 7&&(ku p.right p.scope.uses p.scope.allowed 0 255&&(!p.bracket||ip p))))))))
theorem xM {nn:Nat}{p:aj}(h:xL nn p=true):sn nn p:=by
  simp only [xL,Bool.and_eq_true,decide_eq_true_eq,List.all_eq_true,Bool.or_eq_true,Bool.not_eq_true'] at h
  obtain ⟨h1,h2,h3,h4,h5,h6,h7,h8,h9⟩:=h
  exact ⟨h1,h2,h3,h4,h5,h6,h7,h8,fun hb=>by rcases h9 with h | h; rw [h] at hb; cases hb; exact h⟩
structure xg (p:aj):Prop where
  br:p.bracket=false
  rank:p.rank=0
  layout:p.layout=[]
  scope:p.scope=⟨false,0,0,0,0⟩
theorem xg.ok {nn:Nat}{p:aj}(h:xg p)(hl:0≤p.left∧p.left < nn)(hr:∀ s∈p.right,mt nn s=true)(hn:p.right.length≤16):sn nn p:=
  ⟨hl,hr,hn,(by rw [h.rank]; decide),(by rw [h.layout]; intro x hx; cases hx),(by rw [h.layout]; exact Nat.zero_le _),(by rw [h.scope]; rfl),(by rw [h.scope]; rfl),(by rw [h.br]; intro x; cases x)⟩
theorem w9 {m:Int}(h0:0≤m)(h1:m≤255):∃ q:Nat,q≤31∧IntKind.wrap .i64 (IntKind.wrap .u8 (Int.tdiv m 8))=(q:Int):=by
  have e:Int.tdiv m 8=m / 8:=Int.tdiv_eq_ediv_of_nonneg h0
  refine ⟨(m / 8).toNat,by omega,?_⟩
  rw [e,ym (by omega) (by omega),cn (by omega) (by omega)]
  omega
theorem gi (a b:Nat):Int.tmod (a:Int) (b:Int)=((a % b:Nat):Int):=by
  rw [Int.tmod_eq_emod_of_nonneg (by omega)]; simp
theorem yh (a b:Nat):Int.tdiv (a:Int) (b:Int)=((a / b:Nat):Int):=by
  rw [Int.tdiv_eq_ediv_of_nonneg (by omega)]; simp
theorem u6 {p:aj}:dx p=some (ip p):=by
  obtain ⟨nm,lf,rt,d,br,rk,ly,sc⟩:=p
  obtain ⟨o,de,ki,us,al⟩:=sc
  by_cases h:rt.length=3
  · match rt,h with
    | [a,b,c],_=>
      have e0:nth [a,b,c] 0=a:=rfl
      have e1:nth [a,b,c] 1=b:=rfl
      have e2:nth [a,b,c] 2=c:=rfl
      by_cases hr:rk=0
      · cases ly with
        | cons x y=>simp [dx,ip,hr]
        | nil=>
          simp only [dx,ip,hr,e0,e1,e2]
          obtain ⟨ta,ia⟩:=a
          obtain ⟨tb,ib⟩:=b
          obtain ⟨tc,ic⟩:=c
          cases ta <;> cases tb <;> cases tc <;> cases o <;> by_cases h1:de=0 <;> by_cases h2:ki=0 <;> by_cases h3:us=0 <;> by_cases h4:al=0 <;> simp [h1,h2,h3,h4]
      · simp [dx,ip,hr]
  · simp only [dx,ip]
    have:¬ ((rt.length:Int)=3):=by omega
    simp [this,h]
theorem wt {nn:Nat}{p:aj}{m:Int}(hb:xg p)(hl:0≤p.left∧p.left < nn)(hr:∀ s∈p.right,mt nn s=true)(hn:p.right.length≤4)(h0:0≤m)(h1:m≤255) :
    ∃ q,bn p m=some q∧sn nn q∧q.name=p.name∧q.ifF=p.ifF:=by
  have hp:=hb.ok hl hr (by omega)
  obtain ⟨q,hq,hw⟩:=w9 h0 h1
  obtain ⟨nm,lf,rt,d,br,rk,ly,sc⟩:=p
  obtain ⟨b1,b2,b3,b4⟩:=hb
  simp only at b1 b2 b3 b4 hl hr hn
  subst b1 b2 b3 b4
  by_cases hz:rt.length=0
  · exact ⟨_,by simp only [bn,hz]; rfl,hp,rfl,rfl⟩
  have hz':¬ ((rt.length:Int)=0):=by omega
  have hne:¬ rt=[]:=fun h=>hz (by rw [h]; rfl)
  have hj:∃ j:Nat,j < 8∧Int.tmod m 8=(j:Int):=⟨(m % 8).toNat,by omega,by rw [Int.tmod_eq_emod_of_nonneg h0]; omega⟩
  obtain ⟨j,hj,hm⟩:=hj
  obtain ⟨c4,e4,b4⟩:∃ c:Nat,Int.tmod (q:Int) 4=(c:Int)∧c < 4:=⟨q % 4,gi q 4,Nat.mod_lt _ (by omega)⟩
  obtain ⟨s4,e5,b5⟩:∃ c:Nat,Int.tdiv (q:Int) 4=(c:Int)∧c≤31:=⟨q / 4,yh q 4,by omega⟩
  obtain ⟨a4,e6,b6⟩:∃ c:Nat,Int.tmod (s4:Int) (rt.length:Int)=(c:Int)∧c < rt.length:=⟨s4 % rt.length,gi _ _,Nat.mod_lt _ (by omega)⟩
  obtain ⟨r4,e7,b7⟩:∃ c:Nat,Int.tmod (q:Int) (rt.length:Int)=(c:Int)∧c < rt.length:=⟨q % rt.length,gi _ _,Nat.mod_lt _ (by omega)⟩
  obtain ⟨c2,e8,b8⟩:∃ c:Nat,Int.tmod (q:Int) 2=(c:Int)∧c < 2:=⟨q % 2,gi q 2,Nat.mod_lt _ (by omega)⟩
  obtain ⟨c7,e9,b9⟩:∃ c:Nat,Int.tmod (q:Int) 7=(c:Int)∧c < 7:=⟨q % 7,gi q 7,Nat.mod_lt _ (by omega)⟩
  have w1:IntKind.wrap .i64 (1+(c4:Int))=1+(c4:Int):=cn (by omega) (by omega)
  have w2:IntKind.wrap .i64 (s4:Int)=(s4:Int):=cn (by omega) (by omega)
  have w3:IntKind.wrap .i64 ((rt.length:Int) - 1)=(rt.length:Int) - 1:=cn (by omega) (by omega)
  have w4:IntKind.wrap .i64 ((r4:Int)+1)=(r4:Int)+1:=cn (by omega) (by omega)
  have w5:IntKind.wrap .i64 (1+(c2:Int))=1+(c2:Int):=cn (by omega) (by omega)
  have w6:IntKind.wrap .i64 (1+(c7:Int))=1+(c7:Int):=cn (by omega) (by omega)
  have c1:(r4:Int) < (rt.length:Int):=by omega
  match j,hj with
  | 0,_=>exact ⟨⟨nm,lf,rt,d,false,0,[],⟨false,0,0,0,0⟩⟩,by simp [bn,hne,hm],hp,rfl,rfl⟩
  | 1,_=>exact ⟨⟨nm,lf,rt,d,false,1,[],⟨false,0,0,0,0⟩⟩,by simp [bn,hne,hm],{ hp with rank:=by simp,br:=fun h=>by cases h },rfl,rfl⟩
  | 2,_=>exact ⟨⟨nm,lf,rt,d,false,-1,[],⟨false,0,0,0,0⟩⟩,by simp [bn,hne,hm],{ hp with rank:=by simp,br:=fun h=>by cases h },rfl,rfl⟩
  | 3,_=>exact ⟨⟨nm,lf,rt,d,ip ⟨nm,lf,rt,d,true,0,[],⟨false,0,0,0,0⟩⟩,0,[],⟨false,0,0,0,0⟩⟩,by simp [bn,hne,hm,u6],{ hp with br:=fun h=>h },rfl,rfl⟩
  | 4,_=>
    by_cases hk:c4=0
    · refine ⟨⟨nm,lf,rt,d,false,0,[⟨1,(a4:Int),0⟩],⟨false,0,0,0,0⟩⟩,by simp [bn,hne,hm,hw,e4,e5,e6,w1,w2,w3,hk]; try rfl,{ hp with layout:=?_,llen:=by simp,br:=fun h=>by cases h },rfl,rfl⟩
      intro x hx
      simp only [List.mem_singleton] at hx
      subst hx
      simp only [gK,Bool.and_eq_true,decide_eq_true_eq,Bool.or_eq_true,Bool.not_eq_true']
      simp
      omega
    · refine ⟨⟨nm,lf,rt,d,false,0,[⟨1+(c4:Int),(a4:Int),(rt.length:Int) - 1⟩],⟨false,0,0,0,0⟩⟩,by simp [bn,hne,hm,hw,e4,e5,e6,w1,w2,w3,hk]; try omega,{ hp with layout:=?_,llen:=by simp,br:=fun h=>by cases h },rfl,rfl⟩
      intro x hx
      simp only [List.mem_singleton] at hx
      subst hx
      have:¬ 1+(c4:Int)=1:=by omega
      simp only [gK,Bool.and_eq_true,decide_eq_true_eq,Bool.or_eq_true,Bool.not_eq_true',this,decide_false,true_or,and_true]
      omega
  | 5,_=>exact ⟨⟨nm,lf,rt,d,false,0,[],⟨true,0,0,0,0⟩⟩,by simp [bn,hne,hm],{ hp with br:=fun h=>by cases h },rfl,rfl⟩
  | 6,_=>
    by_cases ht:(rt[r4]?.getD default).token=true
    · refine ⟨⟨nm,lf,rt,d,false,0,[],⟨false,(r4:Int)+1,1+(c2:Int),0,0⟩⟩,by simp [bn,hne,hm,hw,e7,e8,w4,w5,c1,ht],{ hp with decl:=?_,br:=fun h=>by cases h },rfl,rfl⟩
      have:¬ (r4:Int)+1=0:=by omega
      have ht':(nth rt (r4:Int)).token=true:=by simpa [nth] using ht
      simp only [ku,this,if_false,Int.add_sub_cancel,Bool.and_eq_true,decide_eq_true_eq]
      exact ⟨⟨⟨⟨by omega,by omega⟩,ht'⟩,by omega⟩,by omega⟩
    · exact ⟨⟨nm,lf,rt,d,false,0,[],⟨false,0,0,0,0⟩⟩,by simp [bn,hne,hm,hw,e7,e8,w4,w5,c1,ht],hp,rfl,rfl⟩
  | 7,_=>
    by_cases ht:(rt[r4]?.getD default).token=true
    · refine ⟨⟨nm,lf,rt,d,false,0,[],⟨false,0,0,(r4:Int)+1,1+(c7:Int)⟩⟩,by simp [bn,hne,hm,hw,e7,e9,w4,w6,c1,ht],{ hp with uses:=?_,br:=fun h=>by cases h },rfl,rfl⟩
      have:¬ (r4:Int)+1=0:=by omega
      have ht':(nth rt (r4:Int)).token=true:=by simpa [nth] using ht
      simp only [ku,this,if_false,Int.add_sub_cancel,Bool.and_eq_true,decide_eq_true_eq]
      exact ⟨⟨⟨⟨by omega,by omega⟩,ht'⟩,by omega⟩,by omega⟩
    · exact ⟨⟨nm,lf,rt,d,false,0,[],⟨false,0,0,0,0⟩⟩,by simp [bn,hne,hm,hw,e7,e9,w4,w6,c1,ht],hp,rfl,rfl⟩
end
end Go.Abs
namespace Go.Abs
noncomputable section
theorem nW {α ω σ τ:Type}(xs:List α)(mk:Int→σ→τ)(L:Nat→τ→Option ω)(I:List α→σ→Prop)(Q:ω→Prop)
    (hnil:∀ s,I xs s→∃ w,Ev (fun k=>L k (mk xs.length s)) w∧Q w)
    (hcons:∀ pre x suf s,xs=pre++x::suf→I pre s→(∃ s',I (pre++[x]) s'∧∀ w,Ev (fun k=>L k (mk ((pre.length:Int)+1) s')) w→Ev (fun k=>L k (mk pre.length s)) w)∨∃ w,Ev (fun k=>L k (mk pre.length s)) w∧Q w) :
    ∀ suf pre s,xs=pre++suf→I pre s→∃ w,Ev (fun k=>L k (mk pre.length s)) w∧Q w:=by
  intro suf
  induction suf with
  | nil=>
    intro pre s hx hi
    simp at hx
    subst hx
    exact hnil s hi
  | cons x suf ih=>
    intro pre s hx hi
    rcases hcons pre x suf s hx hi with ⟨s',h1,h2⟩ | h
    · obtain ⟨w,k1,k2⟩:=ih (pre++[x]) s' (by simp [hx]) h1
      refine ⟨w,h2 w ?_,k2⟩
      simpa using k1
    · exact h
theorem Ev.step {α:Type}{F G:Nat→Option α}{a:α}(e:∀ k,F (k+1)=G k)(h:Ev G a):Ev F a:=Ev.succ (Ev.congr e h)
theorem bS {α:Type}[Inhabited α]{xs pre suf:List α}{x:α}(h:xs=pre++x::suf):nth xs (pre.length:Int)=x:=by
  subst h; exact yX _ _ _
theorem cM {α:Type}{xs pre suf:List α}{x:α}(h:xs=pre++x::suf):(pre.length:Int) < (xs.length:Int):=by
  subst h; simp; omega
theorem dK {α:Type}{xs pre suf:List α}{x:α}(h:xs=pre++x::suf):x∈xs:=by
  subst h; simp
theorem hU {b:Int}(h0:0≤b)(h1:b≤255)(n:Nat)(hn:0 < n):∃ c:Nat,Int.tmod (IntKind.wrap .i64 b) (n:Int)=(c:Int)∧c < n:=by
  rw [cn (by omega) (by omega)]
  refine ⟨b.toNat % n,?_,Nat.mod_lt _ hn⟩
  have:b=(b.toNat:Int):=by omega
  rw [this,gi]
  simp
theorem wk (g:am)(ln:kF)(kn:Bool)(y3:ByteArray×Int×Int×Bool×Int×Bool×Int×Int×Int×Int)(h0:0 < g.nonterminals.length)(h3:g.nonterminals.length≤3)(hr:∀ b∈ln.right,0≤b∧b≤255) :
    ∃ w,Ev (fun k=>cc k g ln kn y3 (0,true,0,[])) w∧w.2.2.length≤4∧∀ s∈w.2.2,mt g.nonterminals.length s=true:=by
  refine nW (σ:=Int×Bool×List aw) (ln.right.take 4) (fun i s=>(s.1,s.2.1,i,s.2.2)) (fun k v=>cc k g ln kn y3 v)
    (fun pre s=>s.2.2.length=pre.length∧(0≤s.1∧s.1≤pre.length)∧∀ x∈s.2.2,mt g.nonterminals.length x=true) (fun w=>w.2.2.length≤4∧∀ s∈w.2.2,mt g.nonterminals.length s=true) ?_ ?_ _ [] (0,true,[]) rfl ?_
  · intro s ⟨i1,i2,i3⟩
    have hl:(ln.right.take 4).length≤4:=by rw [List.length_take]; omega
    refine ⟨(s.1,s.2.1,s.2.2),Ev.step (fun k=>?_) (Ev.const _),by simp only; omega,i3⟩
    rw [cw]
    have hc:¬ (((ln.right.take 4).length:Nat):Int) < 4∨¬ (((ln.right.take 4).length:Nat):Int) < (ln.right.length:Int):=by
      rw [List.length_take]; omega
    by_cases h:(((ln.right.take 4).length:Nat):Int) < (ln.right.length:Int)
    · rcases hc with hc | hc
      · simp only [h,hc,decide_true,decide_false,if_true,Bool.false_eq_true,if_false,Option.bind_some]
      · exact absurd h hc
    · simp only [h,decide_false,if_true,Bool.false_eq_true,if_false,Option.bind_some]
  · intro pre x suf s hx ⟨i1,i2,i3⟩
    have hl:(ln.right.take 4).length≤4:=by rw [List.length_take]; omega
    have hp:pre.length < 4:=by rw [hx] at hl; simp at hl; omega
    have hx':ln.right=pre++x::(suf++ln.right.drop 4):=by
      rw [show pre++x::(suf++ln.right.drop 4)=(pre++x::suf)++ln.right.drop 4 by simp,← hx,List.take_append_drop]
    have e1:=bS hx'
    have e2:=cM hx'
    have hb:=hr x (dK hx')
    obtain ⟨c,hc,hc9⟩:=hU hb.1 hb.2 14 (by omega)
    have e14:Int.tmod (IntKind.wrap .i64 x) 14=(c:Int):=hc
    have e4:(pre.length:Int) < 4:=by omega
    have w1:IntKind.wrap .i64 ((pre.length:Int)+1)=(pre.length:Int)+1:=cn (by omega) (by omega)
    have hm:(s.2.2.length+1)*16≤140737488355328:=by omega
    left
    by_cases hc':(c:Int) < 9
    · refine ⟨(s.1+1,s.2.1,s.2.2++[⟨true,c⟩]),⟨by simp [i1],⟨by simp only; omega,by simp; omega⟩,fun y hy=>?_⟩,fun w hw=>Ev.step (fun k=>?_) hw⟩
      · rcases List.mem_append.1 hy with h | h
        · exact i3 y h
        · simp only [List.mem_singleton] at h
          subst h
          simp only [mt,Bool.and_eq_true,decide_eq_true_eq,if_true]
          omega
      · have w2:IntKind.wrap .i64 (s.1+1)=s.1+1:=cn (by omega) (by omega)
        simp only [cw,e1,e2,e4,e14,hc',w1,w2,lx,List.length_cons,List.length_nil,hm,decide_true,if_true,Option.bind_some,Int.natCast_nonneg,and_self,Nat.zero_add]
    · obtain ⟨d,hd,hd2⟩:∃ d:Nat,Int.tmod (IntKind.wrap .i64 ((c:Int) - 9)) (g.nonterminals.length:Int)=(d:Int)∧d < g.nonterminals.length:=hU (by omega) (by omega) _ h0
      have hnz:(g.nonterminals.length:Int)≠0:=by omega
      refine ⟨(s.1,if s.2.1=true then decide ((d:Int) > y3.2.1) else false,s.2.2++[⟨false,d⟩]),⟨by simp [i1],⟨by simp only; omega,by simp; omega⟩,fun y hy=>?_⟩,fun w hw=>Ev.step (fun k=>?_) hw⟩
      · rcases List.mem_append.1 hy with h | h
        · exact i3 y h
        · simp only [List.mem_singleton] at h
          subst h
          simp only [mt,Bool.and_eq_true,decide_eq_true_eq,Bool.false_eq_true,if_false]
          omega
      · cases hs:s.2.1 with
        | true=>simp only [cw,e1,e2,e4,e14,hc',w1,hd,hnz,hs,lw,List.length_cons,List.length_nil,hm,decide_true,decide_false,if_true,Bool.false_eq_true,if_false,Option.bind_some,Int.natCast_nonneg,and_self,Nat.zero_add,ne_eq,not_false_eq_true]
        | false=>simp only [cw,e1,e2,e4,e14,hc',w1,hd,hnz,hs,lw,List.length_cons,List.length_nil,hm,decide_true,decide_false,if_true,Bool.false_eq_true,if_false,Option.bind_some,Int.natCast_nonneg,and_self,Nat.zero_add,ne_eq,not_false_eq_true]
  · exact ⟨rfl,⟨by simp,by simp⟩,by intro x hx; cases hx⟩
end
end Go.Abs
namespace Go.Abs
noncomputable section
noncomputable def pR (i:Nat):ByteArray:=(⟨#[112]⟩:ByteArray)++strOf [IntKind.wrap .u8 (IntKind.wrap .i64 (97+(i:Int)))]
theorem vt (i:Nat):((⟨#[112]⟩:ByteArray).size+(strOf ([IntKind.wrap .u8 (IntKind.wrap .i64 (97+(i:Int)))]:List Int)).size:Nat)=2:=rfl
structure pM (ln:kF):Prop where
  left:0≤ln.left∧ln.left≤255
  right:∀ b∈ln.right,0≤b∧b≤255
  ifF:0≤ln.ifF∧ln.ifF≤255
  mark:0≤ln.mark∧ln.mark≤255
noncomputable def hY (g:am)(q:aj):am:=⟨g.conditions,g.family,g.tokens,g.nonterminals,g.productions++[q],g.start,g.levels,g.filters⟩
theorem t3 {g:am}{ln:kF}{kn:Bool}(hl:pM ln)(h0:0 < g.nonterminals.length)(h3:g.nonterminals.length≤3)(hc:g.conditions.length≤3)(hp:g.productions.length≤20) :
    ∃ g',Ev (fun k=>dL k g ln kn) g'∧(g'=g∨∃ q,g'=hY g q∧sn g.nonterminals.length q∧okD g.conditions.length q.ifF∧q.name=pR g.productions.length):=by
  obtain ⟨lf,hlf,hlf2⟩:=hU hl.left.1 hl.left.2 g.nonterminals.length h0
  have hnz:(g.nonterminals.length:Int)≠0:=by omega
  have hs:¬ (((⟨#[112]⟩:ByteArray).size+(strOf ([IntKind.wrap .u8 (IntKind.wrap .i64 (97+(g.productions.length:Int)))]:List Int)).size:Nat):Int) > IntKind.max .i64:=by rw [vt]; decide
  let y3:ByteArray×Int×Int×Bool×Int×Bool×Int×Int×Int×Int:=(pR g.productions.length,(lf:Int),1,false,0,false,0,0,0,0)
  obtain ⟨w,hw,hw1,hw2⟩:=wk g ln kn y3 h0 h3 hl.right
  obtain ⟨d,hd1,hd2⟩:=vQ hc hl.ifF.1 hl.ifF.2
  obtain ⟨q,hq,hq1,hq2,hq3⟩:=wt (nn:=g.nonterminals.length) (p:=⟨pR g.productions.length,lf,w.2.2,d,false,0,[],⟨false,0,0,0,0⟩⟩) ⟨rfl,rfl,rfl,rfl⟩ ⟨by simp,by simp; omega⟩ hw2 hw1 hl.mark.1 hl.mark.2
  have hrule:gL ((⟨#[112]⟩:ByteArray)++(strOf ([IntKind.wrap .u8 (IntKind.wrap .i64 (97+(g.productions.length:Int)))]:List Int))) (Int.tmod (IntKind.wrap .i64 ln.left) (g.nonterminals.length:Int))=some y3:=by
    rw [hlf]; rfl
  have m1:(([]:List aj).length+g.productions.length)*160≤140737488355328:=by simp; omega
  have m2:(g.productions.length+([q]:List aj).length)*160≤140737488355328:=by simp; omega
  have tail:∀ b:Bool,Ev (fun k=>if b=true then some g else ((fI k ln.ifF (g.conditions.length:Int)).bind fun y31=>((bn (⟨y3.1,y3.2.1,w.2.2,y31,y3.2.2.2.1,y3.2.2.2.2.1,[],(⟨y3.2.2.2.2.2.1,y3.2.2.2.2.2.2.1,y3.2.2.2.2.2.2.2.1,y3.2.2.2.2.2.2.2.2.1,y3.2.2.2.2.2.2.2.2.2⟩:cY)⟩:aj) ln.mark).bind fun y32=>(if (([]:List aj).length+g.productions.length)*160≤140737488355328 then (if (g.productions.length+([y32]:List aj).length)*160≤140737488355328 then some (hY g y32) else none) else none)))) (if b=true then g else hY g q):=fun b=>by
    cases b with
    | true=>exact Ev.const _
    | false=>
      refine Ev.neg (by simp) ?_
      refine Ev.bind hd1 ?_
      refine Ev.bindc hq ?_
      rw [if_pos m1,if_pos m2]
      exact Ev.const _
  refine ⟨if (if w.1=0 then (if kn=true then true else !w.2.1) else false)=true then g else hY g q,?_,?_⟩
  · unfold dL
    refine Ev.pos hs (Ev.pos hnz (Ev.bindc hrule (Ev.bind hw ?_)))
    refine Ev.bindc (a:=(if w.1=0 then (if kn=true then true else !w.2.1) else false)) ?_ (tail _)
    by_cases hz:w.1=0 <;> cases kn <;> simp [hz]
  · generalize (if w.1=0 then (if kn=true then true else !w.2.1) else false)=bb
    cases bb with
    | true=>exact .inl rfl
    | false=>exact .inr ⟨q,rfl,hq1,hq3▸hd2,hq2⟩
end
end Go.Abs
namespace Go.Abs
noncomputable section
noncomputable def fM (ls:List aN)(a:Int):Bool:=ls.any fun l=>decide (a∈l.productions)
theorem Az {g:am}{a:Int}{pre suf:List aN}{l:aN}(hx:g.levels=pre++l::suf)(hn:l.productions.length≤1000000) :
    Ev (fun k=>bB k g a pre.length 0) (if a∈l.productions then .inl true else .inr ()):=by
  have e1:=bS hx
  have e2:=cM hx
  have key:=gJ l.productions (fun i (_:Unit)=>i) (fun k v=>bB k g a pre.length v) (fun p s _ w=>w=if a∈s then .inl true else .inr ()) ?_ ?_ l.productions [] () (if a∈l.productions then .inl true else .inr ()) rfl rfl
  · simpa using key
  · intro _ w hw
    subst hw
    refine Ev.step (fun k=>?_) (Ev.const _)
    simp only [dk,e1,e2,decide_true,decide_false,if_true,if_false,Bool.false_eq_true,Option.bind_some,Int.natCast_nonneg,true_and,and_self,Int.lt_irrefl,List.not_mem_nil]
  · intro p x s _ w hp hw
    subst hw
    have f1:=bS hp
    have f2:=cM hp
    have w1:IntKind.wrap .i64 ((p.length:Int)+1)=(p.length:Int)+1:=cn (by omega) (by omega)
    by_cases h:x=a
    · right
      refine Ev.step (fun k=>?_) (Ev.const _)
      simp only [dk,e1,e2,f1,f2,h,List.mem_cons,true_or,decide_true,decide_false,if_true,if_false,Bool.false_eq_true,Option.bind_some,Int.natCast_nonneg,true_and,and_self,Int.lt_irrefl]
    · left
      refine ⟨(),by simp [Ne.symm h],fun hw=>Ev.step (fun k=>?_) hw⟩
      simp only [dk,e1,e2,f1,f2,h,w1,decide_true,decide_false,if_true,if_false,Bool.false_eq_true,Option.bind_some,Int.natCast_nonneg,true_and,and_self,Int.lt_irrefl]
theorem vm {g:am}{a:Int}(hl:g.levels.length≤1000000)(hn:∀ l∈g.levels,l.productions.length≤1000000):Ev (fun k=>cO k g a) (fM g.levels a):=by
  have key:=gJ g.levels (fun i (_:Unit)=>i) (fun k v=>bO k g a v) (fun p s _ w=>w=if fM s a=true then .inl true else .inr ()) ?_ ?_ g.levels [] () (if fM g.levels a=true then .inl true else .inr ()) rfl rfl
  · unfold cO
    refine Ev.bind (a:=if fM g.levels a=true then .inl true else .inr ()) (by simpa using key) ?_
    cases fM g.levels a with
    | true=>exact Ev.const _
    | false=>exact Ev.const _
  · intro _ w hw
    subst hw
    refine Ev.step (fun k=>?_) (Ev.const _)
    simp [dh,fM]
  · intro p x s _ w hp hw
    subst hw
    have f2:=cM hp
    have w1:IntKind.wrap .i64 ((p.length:Int)+1)=(p.length:Int)+1:=cn (by omega) (by omega)
    have h2:=Az (a:=a) hp (hn x (dK hp))
    by_cases h:a∈x.productions
    · right
      refine Ev.step (G:=fun k=>(bB k g a p.length 0).bind fun o9=>match o9 with | .inl r7=>(some (.inl r7)) | .inr x8=>(bO k g a (IntKind.wrap .i64 ((p.length:Int)+1)))) (fun k=>by simp only [dh,f2,decide_true,if_true]; rfl) ?_
      rw [if_pos h] at h2
      refine Ev.bind h2 ?_
      simpa [fM,h] using Ev.const _
    · left
      refine ⟨(),by simp [fM,h],fun hw=>?_⟩
      refine Ev.step (G:=fun k=>(bB k g a p.length 0).bind fun o9=>match o9 with | .inl r7=>(some (.inl r7)) | .inr x8=>(bO k g a (IntKind.wrap .i64 ((p.length:Int)+1)))) (fun k=>by simp only [dh,f2,decide_true,if_true]; rfl) ?_
      rw [if_neg h] at h2
      refine Ev.bind h2 ?_
      simpa [fM,h,w1] using hw
noncomputable def fj (toks:List aL)(lit:Bool)(n:Int):Bool:=decide (0≤n)&&decide (n < toks.length)&&(if lit=true then !decide ((nth toks n).literal=(⟨#[]⟩:ByteArray)) else decide ((nth toks n).classF=0))
noncomputable def fp (toks:List aL)(lit:Bool):Option Int→List Int→Bool
  | _,[]=>true
  | p,x::xs=>fj toks lit x&&(match p with | none=>true | some y=>decide (y < x))&&fp toks lit (some x) xs
noncomputable def cp (toks:List aL)(lit:Bool)(l:List Int):Bool:=fp toks lit none l&&decide ((l.length:Int) > 0)
theorem uW {g:am}{l:List Int}{lit:Bool}(hl:l.length≤1000000):Ev (fun k=>bP k g l lit 0) (if fp g.tokens lit none l=true then .inr () else .inl false):=by
  have key:=gJ l (fun i (_:Unit)=>i) (fun k v=>bP k g l lit v) (fun p s _ w=>w=if fp g.tokens lit p.getLast? s=true then .inr () else .inl false) ?_ ?_ l [] () (if fp g.tokens lit none l=true then .inr () else .inl false) rfl rfl
  · simpa using key
  · intro _ w hw
    subst hw
    refine Ev.step (fun k=>?_) (Ev.const _)
    simp [fh,fp]
  · intro p x s _ w hp hw
    subst hw
    have f1:=bS hp
    have f2:=cM hp
    have w1:IntKind.wrap .i64 ((p.length:Int)+1)=(p.length:Int)+1:=cn (by omega) (by omega)
    have c0:(0:Int)≤p.length∧(p.length:Int) < l.length:=⟨by omega,f2⟩
    have hb:∃ b:Bool,(if decide ((p.length:Int) > 0)=true then (if (0:Int)≤p.length∧(p.length:Int) < l.length then (if 0≤IntKind.wrap .i64 ((p.length:Int) - 1)∧IntKind.wrap .i64 ((p.length:Int) - 1) < l.length then some (decide (nth l (p.length:Int)≤nth l (IntKind.wrap .i64 ((p.length:Int) - 1)))) else none) else none) else some false)=some (!b)∧(match p.getLast? with | none=>true | some y=>decide (y < x))=b:=by
      rcases List.eq_nil_or_concat p with h | ⟨q,y,h⟩
      · subst h
        exact ⟨true,by simp,rfl⟩
      · rw [List.concat_eq_append] at h
        subst h
        have e3:nth l (q.length:Int)=y:=bS (suf:=x::s) (by rw [hp]; simp)
        have w2:IntKind.wrap .i64 (((q++[y]).length:Int) - 1)=(q.length:Int):=by have h9:=f2; rw [List.length_append,List.length_singleton] at h9 ⊢; rw [cn (by omega) (by omega)]; simp
        have c1:(0:Int)≤q.length∧(q.length:Int) < l.length:=⟨by omega,by have h9:=f2; rw [List.length_append,List.length_singleton] at h9; omega⟩
        refine ⟨decide (y < x),?_,by simp⟩
        have hpos:((q++[y]).length:Int) > 0:=by simp only [List.length_append,List.length_singleton]; omega
        rw [w2,if_pos (by simpa using hpos),if_pos c0,if_pos c1,f1,e3]
        congr 1
        by_cases h:y < x
        · simp [h]
        · simp [h]; omega
    obtain ⟨b,hb1,hb2⟩:=hb
    have hstep:∀ k,bP (k+1) g l lit p.length=if (fj g.tokens lit x&&b)=true then bP k g l lit ((p.length:Int)+1) else some (.inl false):=fun k=>by
      rw [fh,if_pos (by simpa using f2),if_pos c0,f1]
      by_cases h1:x < 0
      · simp [h1,fj,show ¬ 0≤x by omega]
      · by_cases h2:x≥(g.tokens.length:Int)
        · simp [h1,h2,c0,fj,show ¬ x < (g.tokens.length:Int) by omega]
        · have c2:0≤x∧x < (g.tokens.length:Int):=⟨by omega,by omega⟩
          rw [f1,if_pos c0] at hb1
          rw [if_pos c0,if_neg (by simpa using h1),if_pos c0,if_neg (by simpa using h2),hb1]
          simp only [Option.bind_some,if_pos c2,w1]
          cases b with
          | false=>simp only [Bool.not_false,if_true,Bool.and_false,Bool.false_eq_true,if_false]
          | true=>
            simp only [Bool.not_true,Bool.false_eq_true,if_false,Bool.and_true,fj,c2.1,c2.2,decide_true,Bool.true_and]
            cases lit with
            | true=>by_cases h3:(nth g.tokens x).literal=(⟨#[]⟩:ByteArray) <;> simp only [h3,if_pos c0,if_true,if_false,decide_true,decide_false,Option.bind_some,Bool.not_true,Bool.not_false,Bool.false_eq_true]
            | false=>by_cases h3:(nth g.tokens x).classF=0 <;> simp only [h3,if_pos c0,if_true,if_false,decide_true,decide_false,Option.bind_some,Bool.not_true,Bool.not_false,Bool.false_eq_true]
    have hR:fp g.tokens lit p.getLast? (x::s)=(fj g.tokens lit x&&b&&fp g.tokens lit (some x) s):=by
      rw [← hb2]; cases p.getLast? <;> rfl
    rw [hR]
    cases ht:(fj g.tokens lit x&&b) with
    | false=>
      right
      exact Ev.step hstep (by rw [ht]; simpa using Ev.const _)
    | true=>
      left
      refine ⟨(),by simp,fun hw=>Ev.step hstep ?_⟩
      rw [ht]
      simpa using hw
theorem xm {g:am}{l:List Int}{lit:Bool}(hl:l.length≤1000000):Ev (fun k=>fY k g l lit) (cp g.tokens lit l):=by
  unfold fY
  refine Ev.bind (uW hl) ?_
  unfold cp
  cases fp g.tokens lit none l with
  | true=>simpa using Ev.const _
  | false=>exact Ev.const _
end
end Go.Abs
namespace Go.Abs
noncomputable section
noncomputable def okF (g:am)(f:aA):Bool:=
  if f.kind=1∨f.kind=2 then decide (f.tokens=[]∧f.left=0∧f.token=0∧0≤f.parent∧f.parent < g.productions.length∧0≤f.child∧f.child < g.productions.length∧0≤f.atF∧f.atF < (nth g.productions f.parent).right.length∧
    (nth (nth g.productions f.parent).right f.atF).token=false∧(nth (nth g.productions f.parent).right f.atF).index=(nth g.productions f.child).left)
  else if f.kind=3∨f.kind=4 then decide (f.parent=0∧f.atF=0∧f.child=0∧f.token=0∧0≤f.left∧f.left < g.nonterminals.length)&&cp g.tokens false f.tokens
  else if f.kind=5 then decide (f.parent=0∧f.atF=0∧f.child=0∧f.left=0∧0≤f.token∧f.token < g.tokens.length∧(nth g.tokens f.token).classF=0∧(nth g.tokens f.token).literal=(⟨#[]⟩:ByteArray))&&cp g.tokens true f.tokens
  else false
noncomputable def lq (f:aA):Bool:=decide ((f.kind=1∨f.kind=2→f.tokens=[])∧(¬ (f.kind=1∨f.kind=2)→f.parent=0∧f.atF=0∧f.child=0)∧(¬ (f.kind=3∨f.kind=4)→f.left=0)∧(f.kind≠5→f.token=0))
theorem xP (f:aA):gF f=some (lq f):=by
  obtain ⟨ki,pa,at',ch,le,to,ts,d⟩:=f
  have hl:decide ((ts.length:Int) > 0) = !decide (ts=[]):=by cases ts <;> simp
  simp only [gF,lq,hl]
  by_cases h1:ki=1
  · subst h1; by_cases e4:le=0 <;> by_cases e5:to=0 <;> by_cases e6:ts=[] <;> simp [e4,e5,e6]
  by_cases h2:ki=2
  · subst h2; by_cases e4:le=0 <;> by_cases e5:to=0 <;> by_cases e6:ts=[] <;> simp [e4,e5,e6]
  by_cases h3:ki=3
  · subst h3; by_cases e1:pa=0 <;> by_cases e2:at'=0 <;> by_cases e3:ch=0 <;> by_cases e5:to=0 <;> simp [e1,e2,e3,e5]
  by_cases h4:ki=4
  · subst h4; by_cases e1:pa=0 <;> by_cases e2:at'=0 <;> by_cases e3:ch=0 <;> by_cases e5:to=0 <;> simp [e1,e2,e3,e5]
  by_cases h5:ki=5
  · subst h5; by_cases e1:pa=0 <;> by_cases e2:at'=0 <;> by_cases e3:ch=0 <;> by_cases e4:le=0 <;> simp [e1,e2,e3,e4]
  by_cases e1:pa=0 <;> by_cases e2:at'=0 <;> by_cases e3:ch=0 <;> by_cases e4:le=0 <;> by_cases e5:to=0 <;> simp [h1,h2,h3,h4,h5,e1,e2,e3,e4,e5]
theorem v9 {g:am}{f:aA}(hd:okD g.conditions.length f.ifF)(hl:f.tokens.length≤1000000):Ev (fun k=>eC k g f) (okF g f):=by
  have hfit:Ev (fun k=>gx k f.ifF (g.conditions.length:Int)) true:=Ev.of (n:=60) fun k=>(hd k).2
  have ham:=fun lit=>xm (g:=g) (lit:=lit) hl
  by_cases hk:f.kind < 1∨f.kind > 5
  · have e:okF g f=false:=by
      unfold okF
      rw [if_neg (by omega),if_neg (by omega),if_neg (by omega)]
    rw [e]
    unfold eC
    refine Ev.bind (a:=true) ?_ (Ev.pos rfl (Ev.const _))
    rcases hk with h | h
    · exact Ev.pos (by simpa using h) (Ev.const _)
    · exact Ev.neg (by simp; omega) (Ev.pos (by simpa using h) (Ev.const _))
  unfold eC
  refine Ev.bind (a:=!lq f) ?_ ?_
  · refine Ev.neg (by simp; omega) (Ev.neg (by simp; omega) (Ev.bind hfit (Ev.neg (by simp) ?_)))
    rw [xP]
    exact Ev.const _
  cases hp:lq f with
  | false=>
    refine Ev.pos rfl ?_
    have e:okF g f=false:=by
      unfold okF
      simp only [lq,decide_eq_false_iff_not] at hp
      split
      · simp; intro a b c; exact absurd ⟨fun _=>a,fun h=>absurd (by assumption) h,fun _=>b,fun _=>c⟩ hp
      · split
        · rename_i h1 h2
          simp; intro a b c d; exact absurd ⟨fun h=>absurd h h1,fun _=>⟨a,b,c⟩,fun h=>absurd h2 h,fun _=>d⟩ hp
        · split
          · rename_i h1 h2 h3
            simp; intro a b c d; exact absurd ⟨fun h=>absurd h h1,fun _=>⟨a,b,c⟩,fun _=>d,fun h=>absurd h3 h⟩ hp
          · rfl
    rw [e]
    exact Ev.const _
  | true=>
    refine Ev.neg (by simp) ?_
    simp only [lq,decide_eq_true_eq] at hp
    obtain ⟨p1,p2,p3,p4⟩:=hp
    by_cases hA:f.kind=1∨f.kind=2
    · have a1:=p1 hA
      have a2:=p3 (by omega)
      have a3:=p4 (by omega)
      refine Ev.bindc (a:=true) ?_ (Ev.pos rfl ?_)
      · rcases hA with h | h <;> simp [h]
      by_cases hb:f.parent < 0∨f.parent≥g.productions.length∨f.child < 0∨f.child≥g.productions.length
      · have e:okF g f=false:=by
          unfold okF
          rw [if_pos hA]
          simp only [decide_eq_false_iff_not]
          intro h
          omega
        rw [e]
        refine Ev.bindc (a:=true) ?_ (Ev.pos rfl (Ev.const _))
        by_cases b1:f.parent < 0
        · simp [b1]
        by_cases b2:f.parent≥g.productions.length
        · simp [b1,b2]
        by_cases b3:f.child < 0
        · simp [b1,b2,b3]
        simp [b1,b2,b3]; omega
      refine Ev.bindc (a:=false) ?_ (Ev.neg (by simp) ?_)
      · have b1:¬ f.parent < 0:=by omega
        have b2:¬ f.parent≥g.productions.length:=by omega
        have b3:¬ f.child < 0:=by omega
        have b4:¬ f.child≥g.productions.length:=by omega
        simp only [b1,b2,b3,b4,decide_false,Bool.false_eq_true,if_false]
      have c1:0≤f.parent∧f.parent < (g.productions.length:Int):=by omega
      have c2:0≤f.child∧f.child < (g.productions.length:Int):=by omega
      refine Ev.pos c1 (Ev.bindc (a:=okF g f) ?_ (Ev.const _))
      unfold okF
      rw [if_pos hA]
      by_cases b1:0≤f.atF∧f.atF < ((nth g.productions f.parent).right.length:Int)
      · rw [if_pos (by simpa using b1.1),if_pos (by simpa using b1.2),if_pos b1]
        cases ht:(nth (nth g.productions f.parent).right f.atF).token with
        | true=>simp
        | false=>
          simp only [Bool.not_false,if_true,if_pos b1,if_pos c2,a1,a2,a3,c1,c2,b1,true_and]
      · by_cases b2:0≤f.atF
        · have b3:¬ f.atF < ((nth g.productions f.parent).right.length:Int):=fun h=>b1 ⟨b2,h⟩
          rw [if_pos (by simpa using b2),if_neg (by simpa using b3)]
          simp only [b3,false_and,and_false,decide_false]
        · rw [if_neg (by simpa using b2)]
          simp only [b2,false_and,and_false,decide_false]
    · have hA':¬ f.kind=1∧¬ f.kind=2:=⟨fun h=>hA (.inl h),fun h=>hA (.inr h)⟩
      obtain ⟨q1,q2,q3⟩:=p2 hA
      refine Ev.bindc (a:=false) (by simp [hA']) (Ev.neg (by simp) ?_)
      by_cases hB:f.kind=3∨f.kind=4
      · have a3:=p4 (by omega)
        refine Ev.bindc (a:=true) ?_ (Ev.pos rfl ?_)
        · rcases hB with h | h <;> simp [h]
        refine Ev.bind (a:=okF g f) ?_ (Ev.const _)
        have e:okF g f=(decide (0≤f.left∧f.left < g.nonterminals.length)&&cp g.tokens false f.tokens):=by
          unfold okF
          rw [if_neg hA,if_pos hB]
          simp only [q1,q2,q3,a3,true_and]
        rw [e]
        by_cases b1:0≤f.left
        · by_cases b2:f.left < g.nonterminals.length
          · refine Ev.pos (by simpa using b1) (Ev.pos (by simpa using b2) (Ev.bind (ham false) ?_))
            simp only [b1,b2,and_self,decide_true,Bool.true_and]
            exact Ev.const _
          · refine Ev.pos (by simpa using b1) (Ev.neg (by simpa using b2) ?_)
            simp only [b2,and_false,decide_false,Bool.false_and]
            exact Ev.const _
        · refine Ev.neg (by simpa using b1) ?_
          simp only [b1,false_and,decide_false,Bool.false_and]
          exact Ev.const _
      · have hk5:f.kind=5:=by omega
        have a2:=p3 hB
        have hB':¬ f.kind=3∧¬ f.kind=4:=⟨fun h=>hB (.inl h),fun h=>hB (.inr h)⟩
        refine Ev.bindc (a:=false) (by simp [hB']) (Ev.neg (by simp) ?_)
        have e:okF g f=(decide (0≤f.token∧f.token < g.tokens.length∧(nth g.tokens f.token).classF=0∧(nth g.tokens f.token).literal=(⟨#[]⟩:ByteArray))&&cp g.tokens true f.tokens):=by
          unfold okF
          rw [if_neg hA,if_neg hB,if_pos hk5]
          simp only [q1,q2,q3,a2,true_and]
        rw [e]
        by_cases b1:f.token < 0∨f.token≥g.tokens.length
        · have:¬ (0≤f.token∧f.token < g.tokens.length∧(nth g.tokens f.token).classF=0∧(nth g.tokens f.token).literal=(⟨#[]⟩:ByteArray)):=fun h=>by omega
          simp only [this,decide_false,Bool.false_and]
          by_cases h0:f.token < 0
          · exact Ev.bind (a:=true) (Ev.pos (by simpa using h0) (Ev.const _)) (Ev.pos rfl (Ev.const _))
          · exact Ev.bind (a:=true) (Ev.neg (by simpa using h0) (Ev.pos (by simp; omega) (Ev.const _))) (Ev.pos rfl (Ev.const _))
        have c1:0≤f.token∧f.token < (g.tokens.length:Int):=by omega
        refine Ev.bind (a:=!cp g.tokens true f.tokens) (Ev.neg (by simp; omega) (Ev.neg (by simp; omega) (Ev.bind (ham true) (Ev.const _)))) ?_
        cases cp g.tokens true f.tokens with
        | false=>simpa using Ev.const _
        | true=>
          refine Ev.neg (by simp) (Ev.pos c1 (Ev.bindc ?_ (Ev.const _)))
          by_cases b2:(nth g.tokens f.token).classF=0
          · simp only [b2,decide_true,if_true,c1,true_and,Bool.and_true]
          · simp only [b2,decide_false,Bool.false_eq_true,if_false,false_and,and_false,Bool.false_and]
end
end Go.Abs
namespace Go.Abs
noncomputable section
noncomputable def i5 (t:aL)(d:ap):aL:=⟨t.name,t.classF,t.literal,t.pattern,t.sample,d⟩
noncomputable def fa (ts:List aL)(ds:List ap):List aL:=List.zipWith i5 ts ds
noncomputable def jK:List (List ByteArray):=[[],[⟨#[65]⟩],[⟨#[65]⟩,⟨#[66]⟩],[⟨#[65]⟩,⟨#[66]⟩,⟨#[67]⟩]]
noncomputable def oW:List (List ByteArray):=[m5.nonterminals,m6.nonterminals,m7.nonterminals,m8.nonterminals,m9.nonterminals,na.nonterminals,[⟨#[83]⟩],[⟨#[83]⟩,⟨#[80]⟩],[⟨#[83]⟩,⟨#[80]⟩,⟨#[81]⟩]]
noncomputable def nr (g:am):List ByteArray:=g.productions.map (·.name)
noncomputable def nO:List (List ByteArray):=[nr m5,nr m6,nr m7,nr m8,nr m9,nr na,[⟨#[102,105,114,115,116]⟩]]
noncomputable def more (b m:Nat):List ByteArray:=(List.range m).map fun i=>pR (b+i)
structure zm (n np:Nat)(l:aN):Prop where
  assoc:0≤l.assoc∧l.assoc≤3
  ifF:okD n l.ifF
  prods:∀ x∈l.productions,0≤x∧x < np
  len:l.productions.length≤2
structure zl (g:am)(f:aA):Prop where
  ok:okF g f=true
  ifF:okD g.conditions.length f.ifF
  len:f.tokens.length≤2
structure Mk (j i:Nat)(g:am):Prop where
  conds:g.conditions∈jK
  fam:okD g.conditions.length g.family
  root:g.family.root≠0
  toks:∃ ds,ds.length=11∧(∀ d∈ds,okD g.conditions.length d)∧g.tokens=fa cC ds
  nts:g.nonterminals∈oW
  start:g.start=0
  prods:∀ p∈g.productions,sn g.nonterminals.length p∧okD g.conditions.length p.ifF
  pnames:∃ b∈nO,∃ m,m≤j∧nr g=b++more b.length m
  levels:∀ l∈g.levels,zm g.conditions.length g.productions.length l
  nodup:(g.levels.flatMap (·.productions)).Nodup
  llen:g.levels.length≤3+i
  filters:∀ f∈g.filters,zl g f
  flen:g.filters.length≤2+i
theorem gq {c:List ByteArray}(h:c∈jK):c.length≤3:=by
  have:∀ c∈jK,c.length≤3:=by decide
  exact this c h
theorem fN {c:List ByteArray}(h:c∈oW):0 < c.length∧c.length≤3:=by
  have:∀ c∈oW,0 < c.length∧c.length≤3:=by decide
  exact this c h
theorem vT {c:List ByteArray}(h:c∈nO):0 < c.length∧c.length≤7:=by
  have:∀ c∈nO,0 < c.length∧c.length≤7:=by decide
  exact this c h
section
variable {i j:Nat}{g:am}
theorem Mk.np (h:Mk j i g):0 < g.productions.length∧g.productions.length≤7+j:=by
  obtain ⟨b,hb,m,hm,he⟩:=h.pnames
  have h1:=vT hb
  have h2:=congrArg List.length he
  simp [nr,more] at h2
  omega
theorem Mk.up {j' i':Nat}(h:Mk j i g)(hj:j≤j')(hi:i≤i'):Mk j' i' g:=
  { h with pnames:=(let ⟨b,hb,m,hm,he⟩:=h.pnames; ⟨b,hb,m,by omega,he⟩),llen:=by have:=h.llen; omega,flen:=by have:=h.flen; omega }
theorem pH {α:Type}[Inhabited α](xs ys:List α)(a:Int)(h0:0≤a)(h1:a < xs.length):nth (xs++ys) a=nth xs a:=by
  have:a.toNat < xs.length:=by omega
  simp [nth,List.getElem?_append,this]
theorem xI {f:aA}{q:aj}(h:okF g f=true):okF (hY g q) f=true:=by
  unfold okF at h ⊢
  split at h
  · rename_i hk
    rw [if_pos hk]
    simp only [decide_eq_true_eq] at h ⊢
    obtain ⟨h1,h2,h3,h4,h5,h6,h7,h8⟩:=h
    have e1:nth (hY g q).productions f.parent=nth g.productions f.parent:=pH _ _ _ h4 h5
    have e2:nth (hY g q).productions f.child=nth g.productions f.child:=pH _ _ _ h6 h7
    have e3:((hY g q).productions.length:Int)=g.productions.length+1:=by simp [hY]
    rw [e1,e2,e3]
    exact ⟨h1,h2,h3,h4,by omega,h6,by omega,h8⟩
  · rename_i hk
    rw [if_neg hk]
    exact h
theorem Mk.addP {q:aj}(h:Mk j i g)(h1:sn g.nonterminals.length q)(h2:okD g.conditions.length q.ifF)(h3:q.name=pR g.productions.length):Mk (j+1) i (hY g q):=by
  refine ⟨h.conds,h.fam,h.root,h.toks,h.nts,h.start,fun p hp=>?_,?_,fun l hl=>?_,h.nodup,h.llen,fun f hf=>?_,h.flen⟩
  · rcases List.mem_append.1 hp with hp | hp
    · exact h.prods p hp
    · simp only [List.mem_singleton] at hp
      subst hp
      exact ⟨h1,h2⟩
  · obtain ⟨b,hb,m,hm,he⟩:=h.pnames
    have hl:=congrArg List.length he
    simp [nr,more] at hl
    refine ⟨b,hb,m+1,by omega,?_⟩
    simp only [nr,Go.Abs.hY,List.map_append,List.map_cons,List.map_nil,more,List.range_succ,h3,hl] at he ⊢
    rw [he]
    simp
  · have:=h.levels l hl
    exact ⟨this.assoc,this.ifF,fun x hx=>⟨(this.prods x hx).1,by have:=(this.prods x hx).2; simp [Go.Abs.hY]; omega⟩,this.len⟩
  · have:=h.filters f hf
    exact ⟨xI this.ok,this.ifF,this.len⟩
end
end
end Go.Abs
namespace Go.Abs
noncomputable section
noncomputable def strip (t:aL):aL:=i5 t default
theorem kB (ts:List aL)(i:Int):strip (nth ts i)=nth (ts.map strip) i:=by
  simp only [nth,List.getD_eq_getElem?_getD,List.getElem?_map]
  cases ts[i.toNat]? <;> rfl
theorem kH {ts ts':List aL}(h:ts.map strip=ts'.map strip)(i:Int):(nth ts i).classF=(nth ts' i).classF:=by
  have:=congrArg aL.classF ((kB ts i).trans ((congrArg (nth · i) h).trans (kB ts' i).symm))
  exact this
theorem q6 {ts ts':List aL}(h:ts.map strip=ts'.map strip)(i:Int):(nth ts i).literal=(nth ts' i).literal:=by
  have:=congrArg aL.literal ((kB ts i).trans ((congrArg (nth · i) h).trans (kB ts' i).symm))
  exact this
theorem m4 {ts ts':List aL}(h:ts.map strip=ts'.map strip):ts.length=ts'.length:=by
  have:=congrArg List.length h
  simpa using this
theorem vH {ts ts':List aL}(h:ts.map strip=ts'.map strip)(lit:Bool)(i:Int):fj ts lit i=fj ts' lit i:=by
  simp only [fj,kH h,q6 h,m4 h]
theorem uY {ts ts':List aL}(h:ts.map strip=ts'.map strip)(lit:Bool):∀ (l:List Int) (p:Option Int),fp ts lit p l=fp ts' lit p l:=by
  intro l
  induction l with
  | nil=>intro p; rfl
  | cons x l ih=>intro p; cases p <;> simp only [fp,vH h,ih]
theorem sA {ts ts':List aL}(h:ts.map strip=ts'.map strip)(lit:Bool)(l:List Int):cp ts lit l=cp ts' lit l:=by
  simp only [cp,uY h]
noncomputable def oa (g:am)(ts:List aL):am:=⟨g.conditions,g.family,ts,g.nonterminals,g.productions,g.start,g.levels,g.filters⟩
theorem wF {g:am}{ts:List aL}(h:ts.map strip=g.tokens.map strip)(f:aA):okF (oa g ts) f=okF g f:=by
  have e:(oa g ts).tokens=ts:=rfl
  simp only [okF,e,sA h,kH h,q6 h,m4 h]
  rfl
theorem kb (ds:List ap)(h:ds.length=11):(fa cC ds).map strip=cC.map strip:=by
  match ds,h with
  | [a0,a1,a2,a3,a4,a5,a6,a7,a8,a9,a10],_=>rfl
theorem qc:∀ (ts:List aL) (ds:List ap) (i:Nat) (d:ap),i < ts.length→i < ds.length→(fa ts ds).set i (i5 ((fa ts ds).getD i default) d)=fa ts (ds.set i d)
  | [],_,i,d,h,_=>by simp at h
  | _::_,[],i,d,_,h=>by simp at h
  | t::ts,e::ds,0,d,_,_=>rfl
  | t::ts,e::ds,i+1,d,h,h'=>by
    have:=qc ts ds i d (by simpa using h) (by simpa using h')
    simp only [fa,List.zipWith_cons_cons,List.set_cons_succ,List.getD_cons_succ] at this ⊢
    rw [this]
structure tg (x:oz):Prop where
  kind:0≤x.kind∧x.kind≤255
  a:0≤x.a∧x.a≤255
  b:0≤x.b∧x.b≤255
  c:0≤x.c∧x.c≤255
  ifF:0≤x.ifF∧x.ifF≤255
noncomputable def iB (g:am)(ls:List aN):am:=⟨g.conditions,g.family,g.tokens,g.nonterminals,g.productions,g.start,ls,g.filters⟩
noncomputable def sj (g:am)(fs:List aA):am:=⟨g.conditions,g.family,g.tokens,g.nonterminals,g.productions,g.start,g.levels,fs⟩
section
variable {i j:Nat}{g:am}
theorem wi {ls:List aN}{a:Int}:fM ls a=true↔a∈ls.flatMap (·.productions):=by
  simp [fM]
theorem Mk.addL {ps:List Int}{ac:Int}{d:ap}(h:Mk j i g)(h1:0≤ac∧ac≤3)(h2:okD g.conditions.length d)(h3:∀ x∈ps,0≤x∧x < g.productions.length)(h4:ps.length≤2)(h5:ps.Nodup)(h6:∀ x∈ps,fM g.levels x=false):Mk j (i+1) (iB g (g.levels++[⟨ps,ac,d⟩])):=by
  refine ⟨h.conds,h.fam,h.root,h.toks,h.nts,h.start,h.prods,h.pnames,fun l hl=>?_,?_,?_,fun f hf=>?_,by have:=h.flen; simp only [iB]; omega⟩
  · rcases List.mem_append.1 hl with hl | hl
    · exact h.levels l hl
    · simp only [List.mem_singleton] at hl
      subst hl
      exact ⟨h1,h2,h3,h4⟩
  · simp only [iB,List.flatMap_append,List.flatMap_cons,List.flatMap_nil,List.append_nil]
    refine List.nodup_append.2 ⟨h.nodup,h5,fun a ha b hb he=>?_⟩
    subst he
    have:=h6 a hb
    rw [wi.2 ha] at this
    cases this
  · have:=h.llen; simp [iB]; omega
  · have:=h.filters f hf
    exact ⟨this.ok,this.ifF,this.len⟩
theorem Mk.addF {f:aA}(h:Mk j i g)(h1:okF g f=true)(h2:okD g.conditions.length f.ifF)(h3:f.tokens.length≤2):Mk j (i+1) (sj g (g.filters++[f])):=by
  refine ⟨h.conds,h.fam,h.root,h.toks,h.nts,h.start,h.prods,h.pnames,h.levels,h.nodup,by have:=h.llen; simp only [sj]; omega,fun f' hf=>?_,by have:=h.flen; simp [sj]; omega⟩
  rcases List.mem_append.1 hf with hf | hf
  · have:=h.filters f' hf
    exact ⟨this.ok,this.ifF,this.len⟩
  · simp only [List.mem_singleton] at hf
    subst hf
    exact ⟨h1,h2,h3⟩
theorem Mk.setT {a:Nat}{d:ap}(h:Mk j i g)(ha:a < 9)(hd:okD g.conditions.length d):Mk j i (oa g (g.tokens.set a (i5 (g.tokens.getD a default) d))):=by
  obtain ⟨ds,h1,h2,h3⟩:=h.toks
  have e:g.tokens.set a (i5 (g.tokens.getD a default) d)=fa cC (ds.set a d):=by
    rw [h3]; exact qc cC ds a d (Nat.lt_of_lt_of_le ha (by decide)) (by omega)
  have hs:(fa cC (ds.set a d)).map strip=g.tokens.map strip:=by
    rw [h3,kb _ h1,kb _ (by simpa using h1)]
  rw [e]
  refine ⟨h.conds,h.fam,h.root,⟨ds.set a d,by simpa using h1,fun x hx=>?_,rfl⟩,h.nts,h.start,h.prods,h.pnames,h.levels,h.nodup,h.llen,fun f hf=>?_,h.flen⟩
  · rcases List.mem_or_eq_of_mem_set hx with hx | hx
    · exact h2 x hx
    · subst hx; exact hd
  · have:=h.filters f hf
    exact ⟨by rw [wF hs]; exact this.ok,this.ifF,this.len⟩
theorem Mk.ntok (h:Mk j i g):g.tokens.length=11:=by
  obtain ⟨ds,h1,h2,h3⟩:=h.toks
  rw [h3,fa,List.length_zipWith,h1]
  rfl
end
end
end Go.Abs
namespace Go.Abs
noncomputable section
section
variable {i j:Nat}{g:am}
theorem i7 {f:aA}(h:Mk j i g)(hj:j≤10)(hi:i≤6)(h2:okD g.conditions.length f.ifF)(h3:f.tokens.length≤2) :
    ∃ g',Ev (fun k=>((eC k g f).bind fun y41=>(((if y41=true then (if (([]:List aA).length+g.filters.length)*104≤140737488355328 then (if (g.filters.length+([f]:List aA).length)*104≤140737488355328 then some (sj g (g.filters++([f]:List aA))) else none) else none) else some g):Option am).bind fun x47=>some x47))) g'∧Mk j (i+1) g':=by
  have hf:=v9 (g:=g) (f:=f) h2 (by omega)
  have hl:=h.flen
  have m1:(([]:List aA).length+g.filters.length)*104≤140737488355328:=by simp; omega
  have m2:(g.filters.length+([f]:List aA).length)*104≤140737488355328:=by simp; omega
  cases hb:okF g f with
  | true=>
    rw [hb] at hf
    exact ⟨_,Ev.bind hf (Ev.bindc (by rw [if_pos rfl,if_pos m1,if_pos m2]) (Ev.const _)),h.addF hb h2 h3⟩
  | false=>
    rw [hb] at hf
    exact ⟨_,Ev.bind hf (Ev.bindc (by rw [if_neg (by simp)]) (Ev.const _)),h.up (by omega) (by omega)⟩
theorem t4 {x:oz}(h:Mk j i g)(hj:j≤10)(hi:i≤6)(hx:tg x):∃ g',Ev (fun k=>dM k g x) g'∧Mk j (i+1) g':=by
  obtain ⟨d,hd1,hd2⟩:=vQ (gq h.conds) hx.ifF.1 hx.ifF.2
  have hnp:=h.np
  have hnt:=fN h.nts
  have hnz:(g.productions.length:Int)≠0:=by omega
  have hnz2:(g.nonterminals.length:Int)≠0:=by omega
  have hnz3:¬ g.nonterminals=[]:=fun e=>by rw [e] at hnt; exact absurd hnt.1 (by simp)
  obtain ⟨a,ha,ha2⟩:=hU hx.a.1 hx.a.2 g.productions.length hnp.1
  obtain ⟨b,hb,hb2⟩:=hU hx.b.1 hx.b.2 g.productions.length hnp.1
  obtain ⟨n,hn,hn2⟩:=hU hx.a.1 hx.a.2 g.nonterminals.length hnt.1
  obtain ⟨t,ht,ht2⟩:=hU hx.b.1 hx.b.2 9 (by omega)
  obtain ⟨t',ht',ht2'⟩:=hU hx.a.1 hx.a.2 9 (by omega)
  have ht9:Int.tmod (IntKind.wrap .i64 x.b) 9=(t:Int):=ht
  have ht9':Int.tmod (IntKind.wrap .i64 x.a) 9=(t':Int):=ht'
  have hl1:=h.llen
  have hlv:∀ z,Ev (fun k=>cO k g z) (fM g.levels z):=fun z=>vm (by omega) fun l hl=>by have:=(h.levels l hl).len; omega
  have hk:∃ q:Nat,q < 8∧Int.tmod x.kind 8=(q:Int):=⟨(x.kind % 8).toNat,by omega,by rw [Int.tmod_eq_emod_of_nonneg hx.kind.1]; omega⟩
  obtain ⟨q,hq,hk⟩:=hk
  have hc:∃ c:Nat,c < 4∧IntKind.wrap .i64 (Int.tmod x.c 4)=(c:Int):=⟨(x.c % 4).toNat,by omega,by rw [Int.tmod_eq_emod_of_nonneg hx.c.1,cn (by omega) (by omega)]; omega⟩
  obtain ⟨c,hc2,hc⟩:=hc
  have hm1:(([]:List aN).length+g.levels.length)*64≤140737488355328:=by simp; omega
  have hm2:∀ l:aN,(g.levels.length+([l]:List aN).length)*64≤140737488355328:=fun l=>by simp; omega
  have lev:∃ ls,Ev (fun k=>((cO k g (a:Int)).bind fun y7=>(((if (!y7)=true then (if (g.productions.length:Int)≠0 then (((if (!decide ((b:Int)=(a:Int)))=true then ((cO k g (b:Int)).bind fun y11=>some (!y11)) else some false):Option Bool).bind fun x13=>(((if x13=true then (if (([(a:Int)]:List Int).length+([(b:Int)]:List Int).length)*8≤140737488355328 then some (([(a:Int)]:List Int)++([(b:Int)]:List Int)) else none) else some ([(a:Int)]:List Int)):Option (List Int)).bind fun x17=>(if (([]:List aN).length+g.levels.length)*64≤140737488355328 then (if (g.levels.length+([(⟨x17,(c:Int),d⟩:aN)]:List aN).length)*64≤140737488355328 then some (iB g (g.levels++([(⟨x17,(c:Int),d⟩:aN)]:List aN))) else none) else none))) else none) else some g):Option am).bind fun x22=>some x22))) ls∧Mk j (i+1) ls:=by
    cases hA:fM g.levels a with
    | true=>
      have h1:=hlv a
      rw [hA] at h1
      exact ⟨g,Ev.bind h1 (Ev.bindc (by simp) (Ev.const _)),h.up (by omega) (by omega)⟩
    | false=>
      have h1:=hlv a
      rw [hA] at h1
      by_cases hab:(b:Int)=(a:Int)
      · refine ⟨iB g (g.levels++[⟨[(a:Int)],c,d⟩]),Ev.bind h1 (Ev.bind (a:=iB g (g.levels++[⟨[(a:Int)],c,d⟩])) (Ev.pos rfl (Ev.pos hnz (Ev.bind (a:=false) (Ev.neg (by simp [hab]) (Ev.const _)) (Ev.bindc (a:=[(a:Int)]) (by simp) ?_)))) (Ev.const _)),h.addL (by omega) hd2 (fun z hz=>by simp only [List.mem_singleton] at hz; omega) (by simp) (by simp) (fun z hz=>by simp only [List.mem_singleton] at hz; subst hz; exact hA)⟩
        rw [if_pos hm1,if_pos (hm2 _)]
        exact Ev.const _
      · cases hB:fM g.levels b with
        | true=>
          have h2:=hlv b
          rw [hB] at h2
          refine ⟨iB g (g.levels++[⟨[(a:Int)],c,d⟩]),Ev.bind h1 (Ev.bind (a:=iB g (g.levels++[⟨[(a:Int)],c,d⟩])) (Ev.pos rfl (Ev.pos hnz (Ev.bind (a:=false) (Ev.pos (by simpa using hab) (Ev.bind h2 (Ev.const _))) (Ev.bindc (a:=[(a:Int)]) (by simp) ?_)))) (Ev.const _)),h.addL (by omega) hd2 (fun z hz=>by simp only [List.mem_singleton] at hz; omega) (by simp) (by simp) (fun z hz=>by simp only [List.mem_singleton] at hz; subst hz; exact hA)⟩
          rw [if_pos hm1,if_pos (hm2 _)]
          exact Ev.const _
        | false=>
          have h2:=hlv b
          rw [hB] at h2
          refine ⟨iB g (g.levels++[⟨[(a:Int),(b:Int)],c,d⟩]),Ev.bind h1 (Ev.bind (a:=iB g (g.levels++[⟨[(a:Int),(b:Int)],c,d⟩])) (Ev.pos rfl (Ev.pos hnz (Ev.bind (a:=true) (Ev.pos (by simpa using hab) (Ev.bind h2 (Ev.const _))) (Ev.bindc (a:=[(a:Int),(b:Int)]) (by simp) ?_)))) (Ev.const _)),h.addL (by omega) hd2 (fun z hz=>by simp only [List.mem_cons,List.not_mem_nil,or_false] at hz; omega) (by simp) (by simp; omega) (fun z hz=>by simp only [List.mem_cons,List.not_mem_nil,or_false] at hz; rcases hz with rfl | rfl; exact hA; exact hB)⟩
          rw [if_pos hm1,if_pos (hm2 _)]
          exact Ev.const _
  have key:∃ g',Ev (fun k=>dM k g x) g'∧Mk j (i+1) g':=by
    unfold dM
    simp only [ha,hb,hn,ht9,ht9',hk,hc]
    match q,hq with
    | 0,_=>
      obtain ⟨ls,h1,h2⟩:=lev
      exact ⟨_,Ev.bind hd1 (Ev.pos hnz (Ev.bindc (a:=true) (by simp) (Ev.pos rfl h1))),h2⟩
    | 1,_=>
      obtain ⟨ls,h1,h2⟩:=lev
      exact ⟨_,Ev.bind hd1 (Ev.pos hnz (Ev.bindc (a:=true) (by simp) (Ev.pos rfl h1))),h2⟩
    | 2,_=>
      obtain ⟨g',h1,h2⟩:=i7 (f:=⟨1,a,Int.tmod (IntKind.wrap .i64 x.c) 16,b,0,0,[],d⟩) h hj hi hd2 (by simp)
      exact ⟨g',Ev.bind hd1 (Ev.pos hnz (Ev.bindc (a:=false) (by simp) (Ev.neg (by simp) (Ev.bindc (a:=true) (by simp) (Ev.bindc (a:=(Sum.inl (⟨1,a,Int.tmod (IntKind.wrap .i64 x.c) 16,b,0,0,[],d⟩:aA):aA⊕am)) (by rw [if_pos rfl,if_pos hnz]; rfl) h1))))),h2⟩
    | 3,_=>
      obtain ⟨g',h1,h2⟩:=i7 (f:=⟨2,a,Int.tmod (IntKind.wrap .i64 x.c) 16,b,0,0,[],d⟩) h hj hi hd2 (by simp)
      exact ⟨g',Ev.bind hd1 (Ev.pos hnz (Ev.bindc (a:=false) (by simp) (Ev.neg (by simp) (Ev.bindc (a:=true) (by simp) (Ev.bindc (a:=(Sum.inl (⟨2,a,Int.tmod (IntKind.wrap .i64 x.c) 16,b,0,0,[],d⟩:aA):aA⊕am)) (by rw [if_pos rfl,if_pos hnz]; rfl) h1))))),h2⟩
    | 4,_=>
      obtain ⟨g',h1,h2⟩:=i7 (f:=⟨3,0,0,0,n,0,[(t:Int)],d⟩) h hj hi hd2 (by simp)
      exact ⟨g',Ev.bind hd1 (Ev.pos hnz (Ev.bindc (a:=false) (by simp) (Ev.neg (by simp) (Ev.bindc (a:=false) (by simp) (Ev.bindc (a:=(Sum.inl (⟨3,0,0,0,n,0,[(t:Int)],d⟩:aA):aA⊕am)) (by simp [hnz3]; rfl) h1))))),h2⟩
    | 5,_=>
      obtain ⟨g',h1,h2⟩:=i7 (f:=⟨4,0,0,0,n,0,[(t:Int)],d⟩) h hj hi hd2 (by simp)
      exact ⟨g',Ev.bind hd1 (Ev.pos hnz (Ev.bindc (a:=false) (by simp) (Ev.neg (by simp) (Ev.bindc (a:=false) (by simp) (Ev.bindc (a:=(Sum.inl (⟨4,0,0,0,n,0,[(t:Int)],d⟩:aA):aA⊕am)) (by simp [hnz3]; rfl) h1))))),h2⟩
    | 6,_=>
      obtain ⟨g',h1,h2⟩:=i7 (f:=⟨5,0,0,0,0,0,[5],d⟩) h hj hi hd2 (by simp)
      exact ⟨g',Ev.bind hd1 (Ev.pos hnz (Ev.bindc (a:=false) (by simp) (Ev.neg (by simp) (Ev.bindc (a:=false) (by simp) (Ev.bindc (a:=(Sum.inl (⟨5,0,0,0,0,0,[5],d⟩:aA):aA⊕am)) (by simp) h1))))),h2⟩
    | 7,_=>
      have ht11:=h.ntok
      have c1:(([]:List aL).length+g.tokens.length)*112≤140737488355328:=by simp; omega
      have c2:(0:Int)≤(t':Int)∧(t':Int) < (g.tokens.length:Int):=by omega
      refine ⟨oa g (g.tokens.set t' (i5 (g.tokens.getD t' default) d)),Ev.bind hd1 (Ev.pos hnz (Ev.bindc (a:=false) (by simp) (Ev.neg (by simp) (Ev.bindc (a:=false) (by simp) (Ev.bindc (a:=(Sum.inr (oa g (g.tokens.set t' (i5 (g.tokens.getD t' default) d))):aA⊕am)) ?_ (Ev.const _)))))),(h.setT ht2' hd2).up (by omega) (by omega)⟩
      rw [if_neg (by simp)]
      refine Option.bind_eq_some_iff.2 ⟨false,by simp,Option.bind_eq_some_iff.2 ⟨(Sum.inr (oa g (g.tokens.set t' (i5 (g.tokens.getD t' default) d))):aA⊕am),?_,rfl⟩⟩
      rw [if_neg (by simp),if_neg (by simp),if_pos c1,if_pos c2]
      rfl
  exact key
end
end
end Go.Abs
namespace Go.Abs
noncomputable section
noncomputable def Aq (k:Nat)(g:am):Bool:=mM k g.family g.conditions.length&&(g.productions.all (fun p=>xL g.nonterminals.length p&&mM k p.ifF g.conditions.length) &&
  (g.levels.all (fun l=>decide (0≤l.assoc∧l.assoc≤3)&&(mM k l.ifF g.conditions.length&&(l.productions.all (fun x=>decide (0≤x∧x < g.productions.length))&&decide (l.productions.length≤2)))) &&
  g.filters.all (fun f=>okF g f&&(mM k f.ifF g.conditions.length&&decide (f.tokens.length≤2)))))
noncomputable def uu {α:Type}[DecidableEq α]:List α→Bool
  | []=>true
  | x::xs=>!decide (x∈xs)&&uu xs
theorem iN {α:Type}[DecidableEq α]:∀ {l:List α},uu l=true→l.Nodup
  | [],_=>List.nodup_nil
  | x::xs,h=>by
    simp only [uu,Bool.and_eq_true,Bool.not_eq_true',decide_eq_false_iff_not] at h
    exact List.nodup_cons.2 ⟨h.1,iN h.2⟩
noncomputable def sV {α:Type}[DecidableEq α](a:α)(l:List α):Bool:=l.any fun b=>decide (a=b)
theorem oT {α:Type}[DecidableEq α]{a:α}{l:List α}(h:sV a l=true):a∈l:=by
  simp only [sV,List.any_eq_true,decide_eq_true_eq] at h
  obtain ⟨b,h1,h2⟩:=h
  rw [h2]; exact h1
noncomputable def zA (g:am):Prop:=sV g.conditions jK=true∧g.family.root≠0∧sV g.nonterminals oW=true∧g.start=0∧sV (nr g) nO=true∧uu (g.levels.flatMap (·.productions))=true∧g.levels.length≤3∧g.filters.length≤2
instance (g:am):Decidable (zA g):=by unfold zA; infer_instance
noncomputable def dT:ap:=⟨[],1⟩
theorem aU {n:Nat}(hn:n≤3):okD n dT:=by
  match n,hn with
  | 0,_=>exact fd fun k=>by kernel_rfl
  | 1,_=>exact fd fun k=>by kernel_rfl
  | 2,_=>exact fd fun k=>by kernel_rfl
  | 3,_=>exact fd fun k=>by kernel_rfl
theorem eG {g:am}(h:zA g)(h9:g.tokens=cC)(hb:∀ k,Aq k g=true):Mk 0 0 g:=by
  obtain ⟨h1,h2,h3,h4,h5,h6,h7,h8⟩:=h
  have h1:=oT h1
  have h3:=oT h3
  have h5:=oT h5
  have hn:=gq h1
  have e:∀ k,_:=fun k=>by
    have:=hb k
    simp only [Aq,Bool.and_eq_true,List.all_eq_true,decide_eq_true_eq] at this
    exact this
  refine ⟨h1,fd fun k=>(e k).1,h2,⟨List.replicate 11 dT,by simp,fun d hd=>?_,?_⟩,h3,h4,fun p hp=>⟨xM ((e 0).2.1 p hp).1,fd fun k=>((e k).2.1 p hp).2⟩,⟨_,h5,0,by omega,by simp [more]⟩,fun l hl=>?_,iN h6,by omega,fun f hf=>?_,by omega⟩
  · rw [List.eq_of_mem_replicate hd]; exact aU hn
  · rw [h9]; rfl
  · have a:=(e 0).2.2.1 l hl
    exact ⟨a.1,fd fun k=>((e k).2.2.1 l hl).2.1,a.2.2.1,a.2.2.2⟩
  · have a:=(e 0).2.2.2 f hf
    exact ⟨a.1,fd fun k=>((e k).2.2.2 f hf).2.1,a.2.2⟩
theorem zY:Mk 0 0 m5:=eG (by decide) rfl fun k=>by kernel_rfl
theorem zZ:Mk 0 0 m6:=eG (by decide) rfl fun k=>by kernel_rfl
theorem z5:Mk 0 0 m7:=eG (by decide) rfl fun k=>by kernel_rfl
theorem z6:Mk 0 0 m8:=eG (by decide) rfl fun k=>by kernel_rfl
theorem z7:Mk 0 0 m9:=eG (by decide) rfl fun k=>by kernel_rfl
theorem z8:Mk 0 0 na:=eG (by decide) rfl fun k=>by kernel_rfl
noncomputable def uZ (c t:Nat):am:=⟨([⟨#[65]⟩,⟨#[66]⟩,⟨#[67]⟩]:List ByteArray).take c,dT,cC,([⟨#[83]⟩,⟨#[80]⟩,⟨#[81]⟩]:List ByteArray).take t,[⟨⟨#[102,105,114,115,116]⟩,0,[⟨true,0⟩],dT,false,0,[],⟨false,0,0,0,0⟩⟩],0,[],[]⟩
theorem zz {c t:Nat}(hc:c < 4)(ht:t < 3):Mk 0 0 (uZ c (1+t)):=by
  match c,hc,t,ht with
  | 0,_,0,_=>exact eG (by decide) rfl fun k=>by kernel_rfl
  | 0,_,1,_=>exact eG (by decide) rfl fun k=>by kernel_rfl
  | 0,_,2,_=>exact eG (by decide) rfl fun k=>by kernel_rfl
  | 1,_,0,_=>exact eG (by decide) rfl fun k=>by kernel_rfl
  | 1,_,1,_=>exact eG (by decide) rfl fun k=>by kernel_rfl
  | 1,_,2,_=>exact eG (by decide) rfl fun k=>by kernel_rfl
  | 2,_,0,_=>exact eG (by decide) rfl fun k=>by kernel_rfl
  | 2,_,1,_=>exact eG (by decide) rfl fun k=>by kernel_rfl
  | 2,_,2,_=>exact eG (by decide) rfl fun k=>by kernel_rfl
  | 3,_,0,_=>exact eG (by decide) rfl fun k=>by kernel_rfl
  | 3,_,1,_=>exact eG (by decide) rfl fun k=>by kernel_rfl
  | 3,_,2,_=>exact eG (by decide) rfl fun k=>by kernel_rfl
structure nZ (x:Raw):Prop where
  base:0≤x.base∧x.base≤255
  n:0≤x.n∧x.n≤255
  family:∀ b∈x.family,0≤b∧b≤255
  lines:∀ l∈x.lines,pM l
  rules:∀ r∈x.rules,tg r
theorem xh (k:Nat):∃ g,gE (k:Int)=some g∧Mk 0 0 g:=by
  have h:∃ j:Nat,j < 6∧Int.tmod (k:Int) 6=(j:Int):=⟨k % 6,by omega,gi k 6⟩
  obtain ⟨j,hj,h⟩:=h
  simp only [gE,h]
  match j,hj with
  | 0,_=>exact ⟨_,rfl,zY⟩
  | 1,_=>exact ⟨_,rfl,zZ⟩
  | 2,_=>exact ⟨_,rfl,z5⟩
  | 3,_=>exact ⟨_,rfl,z6⟩
  | 4,_=>exact ⟨_,rfl,z7⟩
  | 5,_=>exact ⟨_,rfl,z8⟩
theorem Mk.withFam {j i:Nat}{g:am}(h:Mk j i g){d:ap}(h1:okD g.conditions.length d)(h2:d.root≠0):Mk j i ⟨g.conditions,d,g.tokens,g.nonterminals,g.productions,g.start,g.levels,g.filters⟩:=
  { h with fam:=h1,root:=h2,filters:=fun f hf=>⟨(h.filters f hf).ok,(h.filters f hf).ifF,(h.filters f hf).len⟩ }
end
end Go.Abs
namespace Go.Abs
noncomputable section
theorem Mk.line {j i:Nat}{g:am}{ln:kF}{kn:Bool}(h:Mk j i g)(hj:j≤10)(hl:pM ln):∃ g',Ev (fun k=>dL k g ln kn) g'∧Mk (j+1) i g':=by
  obtain ⟨g',h1,h2⟩:=t3 (kn:=kn) hl (fN h.nts).1 (fN h.nts).2 (gq h.conds) (by have:=h.np; omega)
  refine ⟨g',h1,?_⟩
  rcases h2 with rfl | ⟨q,rfl,a1,a2,a3⟩
  · exact h.up (by omega) (by omega)
  · exact h.addP a1 a2 a3
theorem take_split {α:Type}{l pre suf:List α}{x:α}{m:Nat}(h:l.take m=pre++x::suf):l=pre++x::(suf++l.drop m)∧pre.length < m:=by
  have hl:(l.take m).length≤m:=by rw [List.length_take]; omega
  constructor
  · rw [show pre++x::(suf++l.drop m)=(pre++x::suf)++l.drop m by simp,← h,List.take_append_drop]
  · rw [h] at hl; simp at hl; omega
theorem xD {x:Raw}(hx:nZ x){x11:Int×am}{x18 g:am}(m:Nat)(hm:m≤10)(h11:x11.1=(m:Int))(hg:Mk 0 0 g):∃ g',Ev (fun k=>bZ k x x11 x18 (0,g)) g'∧Mk 10 0 g':=by
  refine nW (σ:=am) (x.lines.take m) (fun i s=>(i,s)) (fun k v=>bZ k x x11 x18 v) (fun pre s=>Mk pre.length 0 s) (fun w=>Mk 10 0 w) ?_ ?_ _ [] g rfl hg
  · intro s hs
    have hl:(x.lines.take m).length≤m:=by rw [List.length_take]; omega
    refine ⟨s,Ev.step (fun k=>?_) (Ev.const _),hs.up (by omega) (by omega)⟩
    rw [fz,h11]
    by_cases h:(((x.lines.take m).length:Nat):Int) < (x.lines.length:Int)
    · have h2:¬ (((x.lines.take m).length:Nat):Int) < (m:Int):=by rw [List.length_take] at h ⊢; omega
      simp only [h,h2,decide_true,decide_false,if_true,Bool.false_eq_true,if_false,Option.bind_some]
    · simp only [h,decide_false,if_true,Bool.false_eq_true,if_false,Option.bind_some]
  · intro pre ln suf s hp hs
    obtain ⟨hp',hlt⟩:=take_split hp
    have e1:=bS hp'
    have e2:=cM hp'
    have e3:(pre.length:Int) < (m:Int):=by omega
    have w1:IntKind.wrap .i64 ((pre.length:Int)+1)=(pre.length:Int)+1:=cn (by omega) (by omega)
    obtain ⟨g',h1,h2⟩:=hs.line (kn:=decide ((Int.tmod x.base 8) < 6)) (by omega) (hx.lines ln (dK hp'))
    refine .inl ⟨g',by simpa using h2,fun w hw=>Ev.step (G:=fun k=>(dL k s ln (decide ((Int.tmod x.base 8) < 6))).bind fun y24=>bZ k x x11 x18 ((pre.length:Int)+1,y24)) (fun k=>?_) (Ev.bind h1 hw)⟩
    rw [fz,h11]
    simp only [e1,e2,e3,w1,decide_true,if_true,Option.bind_some,Int.natCast_nonneg,and_self]
theorem xV {x:Raw}(hx:nZ x){x26 g:am}(hg:Mk 10 0 g):∃ g',Ev (fun k=>ca k x x26 (0,g)) g'∧Mk 10 6 g':=by
  refine nW (σ:=am) (x.rules.take 6) (fun i s=>(i,s)) (fun k v=>ca k x x26 v) (fun pre s=>Mk 10 pre.length s) (fun w=>Mk 10 6 w) ?_ ?_ _ [] g rfl hg
  · intro s hs
    have hl:(x.rules.take 6).length≤6:=by rw [List.length_take]; omega
    refine ⟨s,Ev.step (fun k=>?_) (Ev.const _),hs.up (by omega) (by omega)⟩
    rw [fB]
    by_cases h:(((x.rules.take 6).length:Nat):Int) < (x.rules.length:Int)
    · have h2:¬ (((x.rules.take 6).length:Nat):Int) < 6:=by rw [List.length_take] at h ⊢; omega
      simp only [h,h2,decide_true,decide_false,if_true,Bool.false_eq_true,if_false,Option.bind_some]
    · simp only [h,decide_false,if_true,Bool.false_eq_true,if_false,Option.bind_some]
  · intro pre r suf s hp hs
    obtain ⟨hp',hlt⟩:=take_split hp
    have e1:=bS hp'
    have e2:=cM hp'
    have e3:(pre.length:Int) < 6:=by omega
    have w1:IntKind.wrap .i64 ((pre.length:Int)+1)=(pre.length:Int)+1:=cn (by omega) (by omega)
    obtain ⟨g',h1,h2⟩:=t4 hs (by omega) (by omega) (hx.rules r (dK hp'))
    refine .inl ⟨g',by simpa using h2,fun w hw=>Ev.step (G:=fun k=>(dM k s r).bind fun y32=>ca k x x26 ((pre.length:Int)+1,y32)) (fun k=>?_) (Ev.bind h1 hw)⟩
    rw [fB]
    simp only [e1,e2,e3,w1,decide_true,if_true,Option.bind_some,Int.natCast_nonneg,and_self]
theorem xj {x:Raw}(hx:nZ x):∃ g,Ev (fun k=>it k x) g∧Mk 10 6 g:=by
  obtain ⟨j,hj,hb⟩:∃ j:Nat,j < 8∧Int.tmod x.base 8=(j:Int):=⟨(x.base % 8).toNat,by omega,by rw [Int.tmod_eq_emod_of_nonneg hx.base.1]; omega⟩
  obtain ⟨g1,hg1,hm1⟩:=xh j
  have key:∀ (x11:Int×am) (m:Nat),m≤10→x11.1=(m:Int)→Mk 0 0 x11.2→∃ g,Ev (fun k=>(dN k x.family (x11.2.conditions.length:Int)).bind fun y12=>(((if (decide ((x.family.length:Int) > 0))=true then some (!decide (y12.root=0)) else some false):Option Bool).bind fun x15=>(((if x15=true then some (⟨x11.2.conditions,y12,x11.2.tokens,x11.2.nonterminals,x11.2.productions,x11.2.start,x11.2.levels,x11.2.filters⟩:am) else some x11.2):Option am).bind fun x18=>(((bZ k x x11 x18 (0,x18)):Option am).bind fun x26=>(((ca k x x26 (0,x26)):Option am).bind fun x34=>some x34))))) g∧Mk 10 6 g:=by
    intro x11 m hm h11 hM
    obtain ⟨d,hd1,hd2⟩:=yL (gq hM.conds) x.family hx.family
    have h18:∃ b:Bool,(if (decide ((x.family.length:Int) > 0))=true then some (!decide (d.root=0)) else some false)=some b∧∃ g18,(if b=true then some (⟨x11.2.conditions,d,x11.2.tokens,x11.2.nonterminals,x11.2.productions,x11.2.start,x11.2.levels,x11.2.filters⟩:am) else some x11.2)=some g18∧Mk 0 0 g18:=by
      by_cases h1:(x.family.length:Int) > 0
      · by_cases h2:d.root=0
        · exact ⟨false,by simp only [h1,h2,decide_true,if_true,Bool.not_true],x11.2,by simp,hM⟩
        · exact ⟨true,by simp only [h1,h2,decide_true,decide_false,if_true,Bool.not_false],_,by rw [if_pos rfl],hM.withFam hd2 h2⟩
      · exact ⟨false,by simp only [h1,decide_false,Bool.false_eq_true,if_false],x11.2,by simp,hM⟩
    obtain ⟨b,hb1,g18,hb2,hM18⟩:=h18
    obtain ⟨g26,hl1,hM26⟩:=xD hx (x11:=x11) (x18:=g18) m hm h11 hM18
    obtain ⟨g34,hl2,hM34⟩:=xV hx (x26:=g26) hM26
    exact ⟨g34,Ev.bind hd1 (Ev.bindc hb1 (Ev.bindc hb2 (Ev.bind hl1 (Ev.bind hl2 (Ev.const _))))),hM34⟩
  unfold it
  rw [hb]
  by_cases hk:(j:Int) < 6
  · obtain ⟨g,h1,h2⟩:=key (6,g1) 6 (by omega) rfl hm1
    exact ⟨g,Ev.bindc hg1 (Ev.bindc (a:=(6,g1)) (by simp [hk]) h1),h2⟩
  · obtain ⟨t,ht,ht3⟩:∃ t:Nat,IntKind.wrap .i64 (1+(Int.tmod (IntKind.wrap .i64 (IntKind.wrap .u8 (Int.tdiv x.n 4))) 3))=((1+t:Nat):Int)∧t < 3:=by
      refine ⟨((x.n / 4) % 3).toNat,?_,by omega⟩
      have hn:=hx.n
      have e1:IntKind.wrap .i64 (IntKind.wrap .u8 (Int.tdiv x.n 4))=x.n / 4:=by
        rw [Int.tdiv_eq_ediv_of_nonneg hn.1,ym (by omega) (by omega),cn (by omega) (by omega)]
      rw [e1,Int.tmod_eq_emod_of_nonneg (by omega),cn (by omega) (by omega)]
      omega
    obtain ⟨c,hc,hc4⟩:∃ c:Nat,IntKind.wrap .i64 (Int.tmod x.n 4)=(c:Int)∧c < 4:=by
      refine ⟨(x.n % 4).toNat,?_,by omega⟩
      have hn:=hx.n
      rw [Int.tmod_eq_emod_of_nonneg hn.1,cn (by omega) (by omega)]
      omega
    obtain ⟨g,h1,h2⟩:=key (10,uZ c (1+t)) 10 (by omega) rfl (zz hc4 ht3)
    refine ⟨g,Ev.bindc hg1 (Ev.bindc (a:=(10,uZ c (1+t))) ?_ h1),h2⟩
    rw [if_pos (by simp [hk]),ht,hc,if_pos ⟨by omega,by simp; omega⟩]
    refine Option.bind_eq_some_iff.2 ⟨_,rfl,?_⟩
    rw [if_pos ⟨by omega,by simp; omega⟩]
    rfl
end
end Go.Abs
namespace Go.Abs
noncomputable section
noncomputable def bC:ByteArray:=⟨#[]⟩
theorem Kn.iff {K:Type}[DecidableEq K]{m:List (K×Bool)}{l l':List K}(h:Kn m l)(e:∀ s,s∈l↔s∈l'):Kn m l':=fun s=>by
  rw [h s]
  by_cases hs:s∈l
  · simp [hs,(e s).1 hs]
  · have h':s∉l':=fun x=>hs ((e s).2 x)
    simp [hs,h']
theorem Kn.one:Kn (aP ([]:List (ByteArray×Bool)) bC true) [bC]:=Kn.nil.set bC
theorem g8 {s:ByteArray}{m:List (ByteArray×Bool)}{l:List ByteArray}(h:Kn m (bC::l))(h0:s≠bC)(h1:s∉l):cv s m=some (true,aP m s true)∧Kn (aP m s true) (bC::(l++[s])):=by
  have e:(bu m s).getD false=false:=by rw [h s]; simp [h0,h1]
  refine ⟨by simp [cv,e],(h.set s).iff fun z=>?_⟩
  simp only [List.mem_cons,List.mem_append,List.not_mem_nil,or_false]
  constructor <;> intro hz <;> rcases hz with h | h | h <;> simp [h]
theorem lk {α β:Type}{f:α→β}{xs pre suf:List α}{x:α}(h:xs=pre++x::suf)(hn:(xs.map f).Nodup):f x∉pre.map f:=by
  subst h
  rw [List.map_append,List.map_cons] at hn
  intro hm
  exact (List.nodup_append.1 hn).2.2 _ hm _ (by simp) rfl
theorem xC {g:am}(h1:g.conditions.length≤64)(h2:g.tokens.length≤256)(h3:g.filters.length≤4096)(h4:g.nonterminals.length≤2000)(h5:g.productions.length≤2000)(h6:g.levels.length≤2000)
    (hp:∀ p∈g.productions,p.right.length≤16∧p.layout.length≤16):Ev (fun k=>eO k g) false:=by
  have key:=gJ g.productions (fun i (_:Unit)=>i) (fun k v=>bU k g.productions v) (fun p s _ w=>w = .inr ()) ?_ ?_ g.productions [] () (.inr ()) rfl rfl
  · unfold eO
    refine Ev.bindc (a:=false) ?_ (Ev.neg (by simp) (Ev.neg ?_ (Ev.bind (a:=false) ?_ (Ev.const _))))
    · rw [if_neg (by simp; omega),if_neg (by simp; omega)]
      simp
      omega
    · simp only [decide_eq_true_eq]
      split <;> split at * <;> omega
    · unfold gm
      refine Ev.bind (a:=-1) ?_ (Ev.const _)
      unfold fl
      exact Ev.bind (a:=Sum.inr ()) (by simpa using key) (Ev.const _)
  · intro _ w hw
    subst hw
    refine Ev.step (fun k=>?_) (Ev.const _)
    simp only [dI,Int.lt_irrefl,decide_false,Bool.false_eq_true,if_false]
  · intro p x s _ w hx hw
    subst hw
    have e1:=bS hx
    have e2:=cM hx
    have w1:IntKind.wrap .i64 ((p.length:Int)+1)=(p.length:Int)+1:=cn (by omega) (by omega)
    have e3:eU x=some false:=by
      have:=hp x (dK hx)
      simp only [eU,Option.some.injEq,decide_eq_false_iff_not]
      split <;> omega
    refine .inl ⟨(),rfl,fun hw=>Ev.step (fun k=>?_) hw⟩
    simp only [dI,e1,e2,e3,w1,decide_true,if_true,Option.bind_some,Int.natCast_nonneg,and_self,Bool.false_eq_true,if_false]
structure nk (c:ByteArray):Prop where
  id:∀ k,dR (k+60) c=some true
  t:c≠⟨#[116,114,117,101]⟩
  f:c≠⟨#[102,97,108,115,101]⟩
  e:c≠bC
theorem v8 {g:am}(hl:g.conditions.length≤64)(hc:∀ c∈g.conditions,nk c)(hn:g.conditions.Nodup)(hf:okD g.conditions.length g.family)(hr:g.family.root≠0):Ev (fun k=>cJ k g) 0:=by
  have key:=gJ g.conditions (fun i (s:List (ByteArray×Bool))=>(i,s)) (fun k v=>bt k g (aP [] bC true) v) (fun p s m w=>w = .inr ()∧Kn m (bC::p)) ?_ ?_ g.conditions [] (aP [] bC true) (.inr ()) rfl ⟨rfl,Kn.one⟩
  · unfold cJ
    refine Ev.bindc (a:=aP [] bC true) rfl (Ev.bind (a:=Sum.inr ()) (by simpa using key) ?_)
    refine Ev.bind (a:=false) (Ev.bind (Ev.of (n:=60) fun k=>(hf k).1) ?_) (Ev.const _)
    simpa [hr] using Ev.const _
  · rintro m w ⟨rfl,hm⟩
    refine Ev.step (fun k=>?_) (Ev.const _)
    simp only [dc,Int.lt_irrefl,decide_false,Bool.false_eq_true,if_false]
  · rintro p x s m w hx ⟨rfl,hm⟩
    have e1:=bS hx
    have e2:=cM hx
    have w1:IntKind.wrap .i64 ((p.length:Int)+1)=(p.length:Int)+1:=cn (by omega) (by omega)
    have hcx:=hc x (dK hx)
    have hnx:x∉p:=by have:=lk (f:=id) hx (by simpa using hn); simpa using this
    obtain ⟨n1,n2⟩:=g8 hm hcx.e hnx
    refine .inl ⟨aP m x true,⟨rfl,n2⟩,fun hw=>?_⟩
    refine Ev.step (G:=fun k=>((((dR k x).bind fun y4=>(if (!y4)=true then some (true,m) else (if (decide (x=(⟨#[116,114,117,101]⟩:ByteArray)))=true then some (true,m) else (if (decide (x=(⟨#[102,97,108,115,101]⟩:ByteArray)))=true then some (true,m) else ((cv x m).bind fun y8=>some ((!y8.1),y8.2)))))):Option (Bool×(List (ByteArray×Bool)))).bind fun x10=>(if x10.1=true then some (.inl 54) else (bt k g (aP [] bC true) ((p.length:Int)+1,x10.2))))) (fun k=>by simp only [dc,e1,e2,w1,decide_true,if_true,Int.natCast_nonneg,and_self]) ?_
    refine Ev.bind (a:=(false,aP m x true)) (Ev.bind (Ev.of (n:=60) hcx.id) ?_) (Ev.neg (by simp) hw)
    simpa [hcx.t,hcx.f,n1] using Ev.const _
structure Ac (n:Int)(t:aL):Prop where
  name:t.name≠bC
  cls:0≤t.classF∧t.classF≤2
  ifF:okD n t.ifF
  lit:t.literal≠bC→t.sample=bC∧t.pattern=[]
  pat:t.literal=bC→(∀ k,eR (k+60) t.pattern=some 0)∧(t.classF=0→t.sample≠bC∧eX t.pattern t.sample=some true)∧(t.classF≠0→t.sample=bC)
theorem wY {g:am}(hl:g.tokens.length≤256)(ht:∀ t∈g.tokens,Ac g.conditions.length t)(hn:(g.tokens.map (·.name)).Nodup):Ev (fun k=>cK k g) 0:=by
  have key:=gJ g.tokens (fun i (s:List (ByteArray×Bool))=>(i,s)) (fun k v=>bK k g (aP [] bC true) v) (fun p s m w=>w = .inr ()∧Kn m (bC::p.map (·.name))) ?_ ?_ g.tokens [] (aP [] bC true) (.inr ()) rfl ⟨rfl,Kn.one⟩
  · unfold cK
    exact Ev.bindc (a:=aP [] bC true) rfl (Ev.bind (a:=Sum.inr ()) (by simpa using key) (Ev.const _))
  · rintro m w ⟨rfl,hm⟩
    refine Ev.step (fun k=>?_) (Ev.const _)
    simp only [df,Int.lt_irrefl,decide_false,Bool.false_eq_true,if_false]
  · rintro p x s m w hx ⟨rfl,hm⟩
    have e1:=bS hx
    have e2:=cM hx
    have w1:IntKind.wrap .i64 ((p.length:Int)+1)=(p.length:Int)+1:=cn (by omega) (by omega)
    have htx:=ht x (dK hx)
    have hc:=htx.cls
    obtain ⟨n1,n2⟩:=g8 hm htx.name (lk (f:=fun t:aL=>t.name) hx hn)
    refine .inl ⟨aP m x.name true,⟨rfl,by simpa using n2⟩,fun hw=>?_⟩
    refine Ev.step (fun k=>by rw [df,if_pos (by simpa using e2),if_pos ⟨by omega,e2⟩,e1,w1]) ?_
    refine Ev.bind (a:=(false,x,aP m x.name true)) ?_ (Ev.neg (by simp) (Ev.bind (a:=true) ?_ (Ev.neg (by simp) hw)))
    · refine Ev.bindc n1 (Ev.neg (by simp) (Ev.neg (by simp; omega) (Ev.neg (by simp; omega) (Ev.bind (Ev.of (n:=60) fun k=>(htx.ifF k).1) (Ev.const _)))))
    · by_cases hlit:x.literal=bC
      · obtain ⟨p1,p2,p3⟩:=htx.pat hlit
        refine Ev.neg (by simpa [bC] using hlit) (Ev.bind (Ev.of (n:=60) p1) (Ev.bindc ?_ (Ev.const _)))
        rw [if_neg (by simp)]
        by_cases h0:x.classF=0
        · obtain ⟨q1,q2⟩:=p2 h0
          have q1':¬ x.sample=(⟨#[]⟩:ByteArray):=q1
          simp only [h0,decide_true,if_true,q1',decide_false,Bool.not_false,q2,Option.bind_some]
        · have q3:x.sample=(⟨#[]⟩:ByteArray):=p3 h0
          simp only [h0,decide_false,Bool.false_eq_true,if_false,q3,decide_true,Option.bind_some]
      · obtain ⟨q1,q2⟩:=htx.lit hlit
        have q1':x.sample=(⟨#[]⟩:ByteArray):=q1
        refine Ev.pos (by simpa [bC] using hlit) (Ev.bindc (a:=true) ?_ (Ev.const _))
        rw [q2]
        simp [q1']
theorem pG {g:am}(hl:g.nonterminals.length≤2000)(h0:∀ s∈g.nonterminals,s≠bC)(hn:g.nonterminals.Nodup):Ev (fun k=>bg k g) (if 0≤g.start∧g.start < g.nonterminals.length then 0 else 50):=by
  have key:=gJ g.nonterminals (fun i (s:List (ByteArray×Bool))=>(i,s)) (fun k v=>bk k g (aP [] bC true) v) (fun p s m w=>w = .inr ()∧Kn m (bC::p)) ?_ ?_ g.nonterminals [] (aP [] bC true) (.inr ()) rfl ⟨rfl,Kn.one⟩
  · unfold bg
    refine Ev.bindc (a:=aP [] bC true) rfl (Ev.bind (a:=Sum.inr ()) (by simpa using key) ?_)
    by_cases h1:g.start < 0
    · have e:(if 0≤g.start∧g.start < g.nonterminals.length then (0:Int) else 50)=50:=if_neg (by omega)
      rw [e]
      simpa [h1] using Ev.const _
    · by_cases h2:g.start≥(g.nonterminals.length:Int)
      · have e:(if 0≤g.start∧g.start < g.nonterminals.length then (0:Int) else 50)=50:=if_neg (by omega)
        rw [e]
        simpa [h1,h2] using Ev.const _
      · have e:(if 0≤g.start∧g.start < g.nonterminals.length then (0:Int) else 50)=0:=if_pos (by omega)
        rw [e]
        simpa [h1,h2] using Ev.const _
  · rintro m w ⟨rfl,hm⟩
    refine Ev.step (fun k=>?_) (Ev.const _)
    simp only [cA,Int.lt_irrefl,decide_false,Bool.false_eq_true,if_false]
  · rintro p x s m w hx ⟨rfl,hm⟩
    have e1:=bS hx
    have e2:=cM hx
    have w1:IntKind.wrap .i64 ((p.length:Int)+1)=(p.length:Int)+1:=cn (by omega) (by omega)
    have hnx:x∉p:=by have:=lk (f:=id) hx (by simpa using hn); simpa using this
    obtain ⟨n1,n2⟩:=g8 hm (h0 x (dK hx)) hnx
    refine .inl ⟨aP m x true,⟨rfl,n2⟩,fun hw=>Ev.step (fun k=>?_) hw⟩
    simp only [cA,e1,e2,w1,n1,decide_true,if_true,Option.bind_some,Int.natCast_nonneg,and_self,Bool.not_true,Bool.false_eq_true,if_false]
end
end Go.Abs
namespace Go.Abs
noncomputable section
noncomputable def dZ (g:am)(s:aw):Bool:=if s.token=true then decide (0≤s.index∧s.index < g.tokens.length∧(nth g.tokens s.index).classF=0) else decide (0≤s.index∧s.index < g.nonterminals.length)
theorem wX (g:am)(s:aw):ft g s=some (dZ g s):=by
  unfold ft dZ
  cases ht:s.token with
  | false=>
    by_cases h1:0≤s.index <;> by_cases h2:s.index < (g.nonterminals.length:Int) <;> simp [h1,h2]
  | true=>
    by_cases h1:0≤s.index
    · by_cases h2:s.index < (g.tokens.length:Int)
      · simp only [Bool.not_true,Bool.false_eq_true,if_false,ge_iff_le,h1,h2,decide_true,if_true,and_self,Option.bind_some,true_and]
      · simp [h1,h2]
    · simp [h1]
theorem kg (g:am)(s:aw):bF s g=some (!dZ g s):=by
  unfold bF
  rw [wX]
  rfl
theorem uN {g:am}{l:List aw}(hl:l.length≤1000000):Ev (fun k=>hZ k l g) (!l.all (dZ g)):=by
  have key:∃ w,Ev (fun k=>co k l g 0) w∧((∃ i:Nat,w = .inl (i:Int)∧l.all (dZ g)=false)∨(w = .inr ()∧l.all (dZ g)=true)):=by
    refine nW (σ:=Unit) l (fun i _=>i) (fun k v=>co k l g v) (fun pre _=>pre.all (dZ g)=true) (fun w=>(∃ i:Nat,w = .inl (i:Int)∧l.all (dZ g)=false)∨(w = .inr ()∧l.all (dZ g)=true)) ?_ ?_ l [] () rfl rfl
    · intro _ h
      refine ⟨.inr (),Ev.step (fun k=>?_) (Ev.const _),.inr ⟨rfl,h⟩⟩
      simp only [cZ,Int.lt_irrefl,decide_false,Bool.false_eq_true,if_false]
    · intro pre x suf _ hx h
      have e1:=bS hx
      have e2:=cM hx
      have w1:IntKind.wrap .i64 ((pre.length:Int)+1)=(pre.length:Int)+1:=cn (by omega) (by omega)
      cases hs:dZ g x with
      | true=>
        refine .inl ⟨(),by simp [h,hs],fun w hw=>Ev.step (fun k=>?_) hw⟩
        simp only [cZ,e1,e2,w1,kg,hs,decide_true,if_true,Option.bind_some,Int.natCast_nonneg,and_self,Bool.not_true,Bool.false_eq_true,if_false]
      | false=>
        refine .inr ⟨.inl (pre.length:Int),Ev.step (fun k=>?_) (Ev.const _),.inl ⟨pre.length,rfl,?_⟩⟩
        · simp only [cZ,e1,e2,w1,kg,hs,decide_true,if_true,Option.bind_some,Int.natCast_nonneg,and_self,Bool.not_false]
        · rw [hx]; simp [hs]
  obtain ⟨w,hw,h⟩:=key
  unfold hZ gG
  rcases h with ⟨i,rfl,h⟩ | ⟨rfl,h⟩
  · refine Ev.bind (a:=(i:Int)) (Ev.bind hw (Ev.const _)) ?_
    rw [h]
    simpa using Ev.const _
  · refine Ev.bind (a:=-1) (Ev.bind hw (Ev.const _)) ?_
    rw [h]
    simpa using Ev.const _
theorem tR (a:Int)(p:aj):dq a p=some (decide (0≤a∧a < p.right.length)):=by
  unfold dq
  by_cases h1:0≤a <;> by_cases h2:a < (p.right.length:Int) <;> simp [h1,h2]
theorem ol {p:aj}(d v lo hi:Int)(hd:d≤4000000000):dr d v lo hi p=some (ku p.right d v lo hi):=by
  unfold dr ku
  by_cases h0:d=0
  · simp [h0]
  by_cases h1:d > 0
  · by_cases h2:d≤(p.right.length:Int)
    · have w1:IntKind.wrap .i64 (d - 1)=d - 1:=cn (by omega) (by omega)
      have c1:0≤d - 1∧d - 1 < (p.right.length:Int):=by omega
      simp only [h0,h1,h2,w1,c1,decide_true,decide_false,Bool.false_eq_true,if_true,if_false,and_self,Bool.true_and]
      cases (nth p.right (d - 1)).token with
      | false=>simp
      | true=>by_cases h3:v≥lo <;> by_cases h4:v≤hi <;> simp [h3,h4] <;> omega
    · simp [h0,h1,h2]
  · simp [h0,h1]
noncomputable def vc (p:aj):Bool:=p.layout.all (gK p.right.length)&&(ku p.right p.scope.declares p.scope.kind 1 7&&(ku p.right p.scope.uses p.scope.allowed 0 255&&(!p.bracket||ip p)))
theorem tW {p:aj}(hl:p.layout.length≤1000000):Ev (fun k=>bp k p 0) (if p.layout.all (gK p.right.length)=true then .inr () else .inl false):=by
  have key:=gJ p.layout (fun i (_:Unit)=>i) (fun k v=>bp k p v) (fun _ s _ w=>w=if s.all (gK p.right.length)=true then .inr () else .inl false) ?_ ?_ p.layout [] () (if p.layout.all (gK p.right.length)=true then .inr () else .inl false) rfl rfl
  · simpa using key
  · intro _ w hw
    subst hw
    refine Ev.step (fun k=>?_) (Ev.const _)
    simp only [d7,Int.lt_irrefl,decide_false,Bool.false_eq_true,if_false,List.all_nil,if_true]
  · intro pre x s _ w hx hw
    subst hw
    have e1:=bS hx
    have e2:=cM hx
    have w1:IntKind.wrap .i64 ((pre.length:Int)+1)=(pre.length:Int)+1:=cn (by omega) (by omega)
    have hstep:∀ k,bp (k+1) p pre.length=if gK p.right.length x=true then bp k p ((pre.length:Int)+1) else some (.inl false):=fun k=>by
      rw [d7,if_pos (by simpa using e2),if_pos ⟨by omega,e2⟩,e1,w1]
      simp only [tR,gK]
      by_cases h1:x.kind < 1
      · simp [h1,show ¬ 1≤x.kind by omega]
      by_cases h2:x.kind > 4
      · simp [h1,h2,show ¬ x.kind≤4 by omega]
      by_cases h3:0≤x.a∧x.a < (p.right.length:Int)
      · by_cases h4:0≤x.b∧x.b < (p.right.length:Int)
        · by_cases h5:x.kind=1
          · by_cases h6:x.b=0
            · have h7:0 < (p.right.length:Int):=by omega
              have h8:p.right.length > 0:=by omega
              have h9:¬ p.right=[]:=fun e=>by rw [e] at h8; cases h8
              simp [h3.1,h3.2,h5,h6,h8,h9]
            · simp [h3,h4,h5,h6]
          · simp [h1,h2,h3,h4,h5,show 1≤x.kind by omega,show x.kind≤4 by omega]
        · have:(decide (0≤x.b)&&decide (x.b < (p.right.length:Int)))=false:=by simpa using h4
          simp only [h1,h2,h3,h4,decide_true,decide_false,Bool.false_eq_true,if_true,if_false,and_self,Bool.not_true,Bool.not_false,Option.bind_some]
          simp; omega
      · simp only [h1,h2,h3,decide_true,decide_false,Bool.false_eq_true,if_true,if_false,Bool.not_false,Option.bind_some]
        simp; omega
    cases hc:gK p.right.length x with
    | true=>
      refine .inl ⟨(),by simp [hc],fun hw=>Ev.step hstep (by rw [hc]; simpa using hw)⟩
    | false=>
      refine .inr (Ev.step hstep ?_)
      rw [hc]
      simpa [hc] using Ev.const _
theorem xp (p:aj):(((if (!decide ((p.right.length:Int)=3))=true then some true else (if (!decide (p.rank=0))=true then some true else (if (decide ((p.layout.length:Int) > 0))=true then some true else some (!((p.scope.opens == false)&&((decide (p.scope.declares=0))&&((decide (p.scope.kind=0))&&((decide (p.scope.uses=0))&&(decide (p.scope.allowed=0)))))))))):Option Bool).bind fun x26=>(if x26=true then some false else (((if (0:Int)≤0∧(0:Int) < (p.right.length:Int) then (if (nth p.right 0).token=true then (if (0:Int)≤1∧(1:Int) < (p.right.length:Int) then (if (((nth p.right 1).token == false)&&(decide ((nth p.right 1).index=p.left)))=true then (if (0:Int)≤2∧(2:Int) < (p.right.length:Int) then some ((nth p.right 2).token) else none) else some false) else none) else some false) else none):Option Bool).bind fun x37=>some x37)))=some (ip p):=by
  obtain ⟨nm,lf,rt,d,br,rk,ly,sc⟩:=p
  obtain ⟨o,de,ki,us,al⟩:=sc
  by_cases h:rt.length=3
  · match rt,h with
    | [a,b,c],_=>
      have e0:nth [a,b,c] 0=a:=rfl
      have e1:nth [a,b,c] 1=b:=rfl
      have e2:nth [a,b,c] 2=c:=rfl
      by_cases hr:rk=0
      · cases ly with
        | cons x y=>simp [ip,hr]
        | nil=>
          simp only [ip,hr,e0,e1,e2]
          obtain ⟨ta,ia⟩:=a
          obtain ⟨tb,ib⟩:=b
          obtain ⟨tc,ic⟩:=c
          cases ta <;> cases tb <;> cases tc <;> cases o <;> by_cases h1:de=0 <;> by_cases h2:ki=0 <;> by_cases h3:us=0 <;> by_cases h4:al=0 <;> by_cases h5:ib=lf <;> simp [h1,h2,h3,h4,h5]
      · simp [ip,hr]
  · simp only [ip]
    have:¬ ((rt.length:Int)=3):=by omega
    simp [this,h]
theorem ve {p:aj}(hl:p.layout.length≤1000000)(hd:p.scope.declares≤4000000000)(hu:p.scope.uses≤4000000000):Ev (fun k=>eT k p) (vc p):=by
  unfold eT
  refine Ev.bind (tW hl) ?_
  unfold vc
  cases p.layout.all (gK p.right.length) with
  | false=>exact Ev.const _
  | true=>
    simp only [if_true,Bool.true_and,ol _ _ _ _ hd,ol _ _ _ _ hu,Option.bind_some]
    cases ku p.right p.scope.declares p.scope.kind 1 7 with
    | false=>exact Ev.const _
    | true=>
      cases ku p.right p.scope.uses p.scope.allowed 0 255 with
      | false=>exact Ev.const _
      | true=>
        refine Ev.bindc (a:=false) rfl (Ev.neg (by simp) ?_)
        cases hb:p.bracket with
        | false=>exact Ev.const _
        | true=>
          refine Ev.neg (by simp) ?_
          rw [xp]
          exact Ev.const _
end
end Go.Abs
namespace Go.Abs
noncomputable section
structure pP (g:am)(p:aj):Prop where
  left:dZ g ⟨false,p.left⟩=true
  right:p.right.all (dZ g)=true
  ifF:okD g.conditions.length p.ifF
  rank : -1≤p.rank∧p.rank≤1
  det:vc p=true
  rlen:p.right.length≤1000000
  llen:p.layout.length≤1000000
  dmax:p.scope.declares≤4000000000
  umax:p.scope.uses≤4000000000
theorem rx {g:am}{p s:List aj}{x:aj}{m:List (ByteArray×Bool)}{y1:List (ByteArray×Bool)}{w:Int⊕Unit}(hl:g.productions.length≤1000000)(hx:g.productions=p++x::s)(hp:pP g x)(hm:Kn m (bC::p.map (·.name)))(h0:x.name≠bC)(h1:x.name∉p.map (·.name))
    (hw:Ev (fun k=>aV k g y1 ((p.length:Int)+1,aP m x.name true)) w):Ev (fun k=>aV k g y1 ((p.length:Int),m)) w:=by
  have e1:=bS hx
  have e2:=cM hx
  have w1:IntKind.wrap .i64 ((p.length:Int)+1)=(p.length:Int)+1:=cn (by omega) (by omega)
  obtain ⟨n1,n2⟩:=g8 hm h0 h1
  have hr:=hp.rank
  have hs:=uN (g:=g) hp.rlen
  rw [hp.right] at hs
  have hd:=ve hp.llen hp.dmax hp.umax
  rw [hp.det] at hd
  refine Ev.step (fun k=>by rw [bJ,if_pos (by simpa using e2),if_pos ⟨by omega,e2⟩,e1,w1]) ?_
  refine Ev.bind (a:=(false,x)) ?_ (Ev.neg (by simp) (Ev.bind (a:=(false,aP m x.name true)) ?_ (Ev.neg (by simp) hw)))
  · refine Ev.bindc (a:=false) (by rw [kg,hp.left]; rfl) (Ev.neg (by simp) (Ev.bind hs (Ev.const _)))
  · refine Ev.bindc n1 (Ev.neg (by simp) (Ev.bind (Ev.of (n:=60) fun k=>(hp.ifF k).1) (Ev.neg (by simp) (Ev.neg (by simp; omega) (Ev.neg (by simp; omega) (Ev.bind hd (Ev.const _)))))))
theorem tm {g:am}(hl:g.productions.length≤1000000)(hp:∀ p∈g.productions,pP g p)(h0:∀ p∈g.productions,p.name≠bC)(hn:(g.productions.map (·.name)).Nodup):Ev (fun k=>bc k g) 0:=by
  have key:=gJ g.productions (fun i (s:List (ByteArray×Bool))=>(i,s)) (fun k v=>aV k g (aP [] bC true) v) (fun p s m w=>w = .inr ()∧Kn m (bC::p.map (·.name))) ?_ ?_ g.productions [] (aP [] bC true) (.inr ()) rfl ⟨rfl,Kn.one⟩
  · unfold bc
    exact Ev.bindc (a:=aP [] bC true) rfl (Ev.bind (a:=Sum.inr ()) (by simpa using key) (Ev.const _))
  · rintro m w ⟨rfl,hm⟩
    refine Ev.step (fun k=>?_) (Ev.const _)
    simp only [bJ,Int.lt_irrefl,decide_false,Bool.false_eq_true,if_false]
  · rintro p x s m w hx ⟨rfl,hm⟩
    have hnx:=lk (f:=fun t:aj=>t.name) hx hn
    exact .inl ⟨aP m x.name true,⟨rfl,by simpa using (g8 hm (h0 x (dK hx)) hnx).2⟩,fun hw=>rx hl hx (hp x (dK hx)) hm (h0 x (dK hx)) hnx hw⟩
theorem wJ {g:am}{pre0 suf0:List aj}{q:aj}(hx0:g.productions=pre0++q::suf0)(hl:g.productions.length≤1000000)(hp:∀ p∈pre0,pP g p)(h0:∀ p∈pre0,p.name≠bC)(hn:(pre0.map (·.name)).Nodup)
    (hq:dZ g ⟨false,q.left⟩=false∨q.right.all (dZ g)=false) (hql:q.right.length≤1000000):Ev (fun k=>bc k g) 50:=by
  have key:=gJ g.productions (fun i (s:List (ByteArray×Bool))=>(i,s)) (fun k v=>aV k g (aP [] bC true) v) (fun p s m w=>w = .inl 50∧Kn m (bC::p.map (·.name))∧p.length≤pre0.length) ?_ ?_ g.productions [] (aP [] bC true) (.inl 50) rfl ⟨rfl,Kn.one,Nat.zero_le _⟩
  · unfold bc
    exact Ev.bindc (a:=aP [] bC true) rfl (Ev.bind (a:=Sum.inl 50) (by simpa using key) (Ev.const _))
  · rintro m w ⟨rfl,hm,hlen⟩
    rw [hx0] at hlen
    simp at hlen
    omega
  · rintro p x s m w hx ⟨rfl,hm,hlen⟩
    rcases Nat.lt_or_ge p.length pre0.length with hlt | hge
    · have hpre:∃ r,pre0=p++x::r:=by
        have h:=hx0.symm.trans hx
        refine ⟨s.take (pre0.length - p.length - 1),?_⟩
        have h2:=congrArg (List.take pre0.length) h
        rw [List.take_left' rfl] at h2
        rw [h2,List.take_append,List.take_of_length_le (by omega)]
        obtain ⟨n,hn⟩:∃ n,pre0.length - p.length=n+1:=⟨pre0.length - p.length - 1,by omega⟩
        rw [hn]
        simp
      obtain ⟨r,hr⟩:=hpre
      have hxm:x∈pre0:=dK hr
      have hnx:=lk (f:=fun t:aj=>t.name) hr hn
      exact .inl ⟨aP m x.name true,⟨rfl,by simpa using (g8 hm (h0 x hxm) hnx).2,by simp; omega⟩,fun hw=>rx hl hx (hp x hxm) hm (h0 x hxm) hnx hw⟩
    · have hpl:p.length=pre0.length:=by omega
      have hxq:x=q:=by
        have e1:=bS hx
        have e2:=bS hx0
        rw [hpl,e2] at e1
        exact e1.symm
      subst hxq
      right
      have e1:=bS hx
      have e2:=cM hx
      refine Ev.step (fun k=>by rw [bJ,if_pos (by simpa using e2),if_pos ⟨by omega,e2⟩,e1]) ?_
      refine Ev.bind (a:=(true,x)) ?_ (Ev.pos rfl (Ev.const _))
      cases hL:dZ g ⟨false,x.left⟩ with
      | false=>exact Ev.bindc (a:=true) (by rw [kg,hL]; rfl) (Ev.pos rfl (Ev.const _))
      | true=>
        have hs:=uN (g:=g) hql
        rcases hq with h | h
        · rw [hL] at h; cases h
        · rw [h] at hs
          exact Ev.bindc (a:=false) (by rw [kg,hL]; rfl) (Ev.neg (by simp) (Ev.bind hs (Ev.const _)))
end
end Go.Abs
namespace Go.Abs
noncomputable section
noncomputable def flat (ls:List aN):List Int:=ls.flatMap (·.productions)
theorem wj {K:Type}[DecidableEq K]{s:K}{m:List (K×Bool)}{l:List K}(h:Kn m l)(h1:s∉l):(bu m s).getD false=false∧Kn (aP m s true) (l++[s]):=by
  refine ⟨by rw [h s]; simp [h1],(h.set s).iff fun z=>?_⟩
  simp only [List.mem_cons,List.mem_append,List.not_mem_nil,or_false]
  constructor <;> intro hz <;> rcases hz with h | h <;> simp [h]
theorem zy {g:am}{v0:Int}{v1:List (Int×Bool)}{l:aN}{m:List (Int×Bool)}{base:List Int}(hl:l.productions.length≤1000000)(hr:∀ x∈l.productions,0≤x∧x < g.productions.length)(hn:(base++l.productions).Nodup)(hm:Kn m base) :
    ∃ m',Ev (fun k=>bf k g v0 v1 (false,l) (0,m)) (.inr m')∧Kn m' (base++l.productions):=by
  have key:∃ w,Ev (fun k=>bf k g v0 v1 (false,l) (0,m)) w∧∃ m',w = .inr m'∧Kn m' (base++l.productions):=by
    refine nW (σ:=List (Int×Bool)) l.productions (fun i s=>(i,s)) (fun k v=>bf k g v0 v1 (false,l) v) (fun pre s=>Kn s (base++pre)) (fun w=>∃ m',w = .inr m'∧Kn m' (base++l.productions)) ?_ ?_ l.productions [] m rfl (by simpa using hm)
    · intro s hs
      refine ⟨.inr s,Ev.step (fun k=>?_) (Ev.const _),s,rfl,hs⟩
      simp only [ct,Int.lt_irrefl,decide_false,Bool.false_eq_true,if_false]
    · intro pre x suf s hx hs
      have e1:=bS hx
      have e2:=cM hx
      have w1:IntKind.wrap .i64 ((pre.length:Int)+1)=(pre.length:Int)+1:=cn (by omega) (by omega)
      have hxr:=hr x (dK hx)
      have hnx:x∉base++pre:=by
        rw [hx,← List.append_assoc] at hn
        intro hm
        exact (List.nodup_append.1 hn).2.2 x hm x (by simp) rfl
      obtain ⟨n1,n2⟩:=wj hs hnx
      refine .inl ⟨aP s x true,by simpa using n2,fun w hw=>Ev.step (fun k=>?_) hw⟩
      simp only [ct,e1,e2,w1,n1,show ¬ x < 0 by omega,show ¬ x≥(g.productions.length:Int) by omega,decide_true,decide_false,if_true,if_false,Option.bind_some,Int.natCast_nonneg,and_self,Bool.false_eq_true]
  obtain ⟨w,hw,m',rfl,h⟩:=key
  exact ⟨m',hw,h⟩
theorem q5 {g:am}(hl:g.levels.length≤1000000)(hv:∀ l∈g.levels,zm g.conditions.length g.productions.length l)(hn:(flat g.levels).Nodup):Ev (fun k=>bN k g) 0:=by
  have key:∃ w,Ev (fun k=>be k g (0,[])) w∧w = .inr ():=by
    refine nW (σ:=List (Int×Bool)) g.levels (fun i s=>(i,s)) (fun k v=>be k g v) (fun pre s=>Kn s (flat pre)) (fun w=>w = .inr ()) ?_ ?_ g.levels [] [] rfl Kn.nil
    · intro s hs
      refine ⟨.inr (),Ev.step (fun k=>?_) (Ev.const _),rfl⟩
      simp only [cr,Int.lt_irrefl,decide_false,Bool.false_eq_true,if_false]
    · intro pre l suf s hx hs
      have e1:=bS hx
      have e2:=cM hx
      have w1:IntKind.wrap .i64 ((pre.length:Int)+1)=(pre.length:Int)+1:=cn (by omega) (by omega)
      have h:=hv l (dK hx)
      have ha:=h.assoc
      have hnn:(flat pre++l.productions).Nodup:=by
        have:flat g.levels=(flat pre++l.productions)++flat suf:=by rw [hx]; simp [flat]
        rw [this] at hn
        exact (List.nodup_append.1 hn).1
      obtain ⟨m',q1,q2⟩:=zy (v0:=pre.length) (v1:=s) (by have:=h.len; omega) h.prods hnn hs
      refine .inl ⟨m',by simpa [flat] using q2,fun w hw=>Ev.step (fun k=>by rw [cr,if_pos (by simpa using e2),if_pos ⟨by omega,e2⟩,e1,w1]) ?_⟩
      exact Ev.bind (a:=(false,l)) (Ev.neg (by simp; omega) (Ev.neg (by simp; omega) (Ev.bind (Ev.of (n:=60) fun k=>(h.ifF k).1) (Ev.const _)))) (Ev.neg (by simp) (Ev.bind q1 hw))
  obtain ⟨w,hw,rfl⟩:=key
  unfold bN
  exact Ev.bind hw (Ev.const _)
theorem vn {g:am}{b:Int}{d:ap}(hg:g.levels=[⟨[b],0,d⟩])(hd:okD g.conditions.length d)(hb:b < 0∨b≥g.productions.length):Ev (fun k=>bN k g) 53:=by
  have e1:nth g.levels 0=⟨[b],0,d⟩:=by rw [hg]; rfl
  have e2:(0:Int) < (g.levels.length:Int):=by rw [hg]; simp
  have e3:nth [b] 0=b:=rfl
  have h1:Ev (fun k=>be k g (0,[])) (.inl 53):=by
    refine Ev.step (fun k=>by rw [cr,if_pos (by simpa using e2),if_pos ⟨by omega,e2⟩,e1]) ?_
    refine Ev.bind (a:=(false,⟨[b],0,d⟩)) (Ev.neg (by simp) (Ev.neg (by simp) (Ev.bind (Ev.of (n:=60) fun k=>(hd k).1) (Ev.const _)))) (Ev.neg (by simp) (Ev.bind (a:=Sum.inl 53) ?_ (Ev.const _)))
    refine Ev.step (fun k=>?_) (Ev.const _)
    rw [ct,if_pos (by simp),if_pos ⟨by simp,by simp⟩]
    rcases hb with h | h
    · simp only [e3,h,decide_true,if_true,Option.bind_some]
    · by_cases h0:b < 0
      · simp only [e3,h0,decide_true,if_true,Option.bind_some]
      · simp only [e3,h0,h,decide_true,decide_false,Bool.false_eq_true,if_true,if_false,Option.bind_some]
  unfold bN
  exact Ev.bind h1 (Ev.const _)
end
end Go.Abs
