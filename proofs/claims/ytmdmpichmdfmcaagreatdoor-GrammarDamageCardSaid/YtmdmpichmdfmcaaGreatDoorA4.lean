/- Part 4 of what the claim stands on: an abstract calculus of the program's steps, what each function computes, and the plain law. -/
import Derived.Test.YtmdmpichmdfmcaaGreatDoorProg
import Derived.KernelRfl
import Derived.Test.YtmdmpichmdfmcaaGreatDoorA3
set_option linter.all false
namespace Go.Abs
open Go.Proofs
noncomputable section
set_option maxRecDepth 100000 in
set_option maxHeartbeats 4000000 in
theorem lz (k:Nat)(a0:am)(a1:List Int)(a2:Bool)(r:Bool)(h:fY k a0 a1 a2=some r):SC P 177 [.agg (ah a0),.d (af 1 (eI .i64) a1),db a2] [] (db r) []:=by
 unfold fY at h
 refine SC.intro3 (N:=72) Tryz.func177 rfl rfl Tryz.ntmps177 rfl ?_
 refine aa.sr (ab.evn (h':=[.live (.var (ah a0))]) [0,0] [(3,.ptr 0 0)] [] ?_)
 refine aa.seq ?_
 refine aa.sr (ab.ev0n [0] [(7,di 0)] [] ?_)
 refine aa.block ?_
 refine ao h fun o26 ho26 h=>?_
 refine aa.cut (Q':=fun e s'=>match o26 with | .inl r24=>((e = .ret)∧Fin P (Tryz.f177.results) 0 [] (db r24) s') | .inr x25=>(e = .exit 0∧s'=⟨[(1,.d (af 1 (eI .i64) a1))],[]⟩)) ?_ ?_
 ·
  have h:=ho26
  refine aa.ghost (GStep.keep [1,2,3,7]) ?_
  refine aa.loopI (F:=fun k v=>bP k a0 a1 a2 v) (fun v=>⟨[(1,.d (af 1 (eI .i64) a1)),(2,db a2),(3,.ptr 0 0),(7,di v)],[.live (.var (ah a0))]⟩) (k:=k) (v:=0) h rfl (fun _=>rfl) ?_
  intro k v0_0 ih h
  have h:=(fh ..).symm.trans h
  refine aa.seq ?_
  refine aa.sr (ab.ev0n [0,0,0,0] [(12,db (decide (v0_0 < (a1.length:Int))))] [] ?_)
  refine aa.condI h rfl (fun hc1 h=>?_) (fun hc1 h=>?_)
  ·
   refine aa.skip ?_
   refine aa.seq ?_
   refine aa.block ?_
   refine aa.seq ?_
   refine aa.seq ?_
   refine ao h fun x14 ho13 h=>?_
   refine aa.cut (Q':=fun e s'=>e = .normal∧s'=⟨[(1,.d (af 1 (eI .i64) a1)),(2,db a2),(3,.ptr 0 0),(7,di v0_0),(45,db x14)],[.live (.var (ah a0))]⟩) ?_ ?_
   ·
    have h:=ho13
    refine aD h fun hb2 h=>?_
    refine au h (fun hc3 h=>?_) (fun hc3 h=>?_)
    ·
     refine aa.regionAny mixed (s':=?s4) (qs:=[⟨[1],[],[],[],[]⟩,⟨[7],[],[],[],[]⟩,⟨[15,16],[],[],[],[]⟩,⟨[17],[],[],[],[]⟩,⟨[18],[],[],[],[]⟩,⟨[19],[],[],[],[]⟩,⟨[1,20],[],[],[],[]⟩,⟨[7,20],[],[],[],[]⟩,⟨[20,21,22],[],[],[],[]⟩,⟨[20,23],[],[],[],[]⟩,⟨[3,20],[],[],[],[]⟩,⟨[20,25],[],[],[],[]⟩,⟨[20,26],[],[],[],[]⟩,⟨[20,24,27],[],[],[],[]⟩,⟨[20,28],[],[],[],[]⟩,⟨[29],[],[],[],[]⟩,⟨[7,30],[],[],[],[]⟩,⟨[30,31],[],[],[],[]⟩,⟨[30,32],[],[],[],[]⟩,⟨[1,33],[],[],[],[]⟩,⟨[7,33],[],[],[],[]⟩,⟨[33,34,35],[],[],[],[]⟩,⟨[33,36],[],[],[],[]⟩,⟨[1,33],[],[],[],[]⟩,⟨[7,33],[],[],[],[]⟩,⟨[33,39],[],[],[],[]⟩,⟨[33,38,40],[],[],[],[]⟩,⟨[33,41],[],[],[],[]⟩,⟨[33,37,42],[],[],[],[]⟩,⟨[30,33,43],[],[],[],[]⟩,⟨[30,44],[],[],[],[]⟩]) ?_ (by kernel_rfl) ?_
     rotate_left
     ·
      refine Steps.runQ [1] [] [] (v:=.d (af 1 (eI .i64) a1)) (ae.move rfl rfl) rfl (by kernel_rfl) (by kernel_rfl) ?_
      refine Steps.runQ [7] [] [] (v:=di v0_0) (ae.move rfl rfl) rfl (by kernel_rfl) (by kernel_rfl) ?_
      refine Steps.runQ [15,16] [] [] (ae.index rfl rfl rfl dQ hb2.1 hb2.2) rfl (by kernel_rfl) (by kernel_rfl) ?_
      refine Steps.runQ [17] [] [] (ae.loadV rfl rfl aX rfl) rfl (by kernel_rfl) (by kernel_rfl) ?_
      refine Steps.runQ [18] [] [] (v:=db (decide ((nth a1 v0_0) < 0))) (ae.lssI (k:=.i64) (m:=(nth a1 v0_0)) (n:=0) rfl rfl rfl) rfl (by kernel_rfl) (by kernel_rfl) ?_
      refine Steps.runQ [19] [] [] (v:=db (decide ((nth a1 v0_0) < 0))) (ae.move rfl rfl) rfl (by kernel_rfl) (by kernel_rfl) ?_
      refine Steps.gpass [1,20] rfl rfl rfl hc3 rfl rfl ?_
      refine Steps.gpass [7,20] rfl rfl rfl hc3 rfl rfl ?_
      refine Steps.gpass [20,21,22] rfl rfl rfl hc3 rfl rfl ?_
      refine Steps.gpass [20,23] rfl rfl rfl hc3 rfl rfl ?_
      refine Steps.gpass [3,20] rfl rfl rfl hc3 rfl rfl ?_
      refine Steps.gpass [20,25] rfl rfl rfl hc3 rfl rfl ?_
      refine Steps.gpass [20,26] rfl rfl rfl hc3 rfl rfl ?_
      refine Steps.gpass [20,24,27] rfl rfl rfl hc3 rfl rfl ?_
      refine Steps.runQ [20,28] [] [] (v:=db true) (ae.pickT rfl rfl hc3 rfl) rfl (by kernel_rfl) (by kernel_rfl) ?_
      refine Steps.runQ [29] [] [] (v:=db true) (ae.move rfl rfl) rfl (by kernel_rfl) (by kernel_rfl) ?_
      refine Steps.gpass [7,30] rfl rfl rfl rfl rfl rfl ?_
      refine Steps.gpass [30,31] rfl rfl rfl rfl rfl rfl ?_
      refine Steps.gpass [30,32] rfl rfl rfl rfl rfl rfl ?_
      refine Steps.gpass2 [1,33] rfl rfl rfl rfl rfl ?_
      refine Steps.gpass2 [7,33] rfl rfl rfl rfl rfl ?_
      refine Steps.gpass2 [33,34,35] rfl rfl rfl rfl rfl ?_
      refine Steps.gpass2 [33,36] rfl rfl rfl rfl rfl ?_
      refine Steps.gpass2 [1,33] rfl rfl rfl rfl rfl ?_
      refine Steps.gpass2 [7,33] rfl rfl rfl rfl rfl ?_
      refine Steps.gpass2 [33,39] rfl rfl rfl rfl rfl ?_
      refine Steps.gpass2 [33,38,40] rfl rfl rfl rfl rfl ?_
      refine Steps.gpass2 [33,41] rfl rfl rfl rfl rfl ?_
      refine Steps.gpass2 [33,37,42] rfl rfl rfl rfl rfl ?_
      refine Steps.gpass [30,33,43] rfl rfl rfl rfl rfl rfl ?_
      refine Steps.runQ [30,44] [] [] (v:=db true) (ae.pickT rfl rfl rfl rfl) rfl (by kernel_rfl) (by kernel_rfl) ?_
      exact Steps.nil _
     cases h
     exact ⟨_,(GStep.keep [1,2,3,7,45]),rfl,rfl⟩
    refine aD h fun hb5 h=>?_
    refine au h (fun hc6 h=>?_) (fun hc6 h=>?_)
    ·
     refine aa.regionAny mixed (s':=?s7) (qs:=[⟨[1],[],[],[],[]⟩,⟨[7],[],[],[],[]⟩,⟨[15,16],[],[],[],[]⟩,⟨[17],[],[],[],[]⟩,⟨[18],[],[],[],[]⟩,⟨[19],[],[],[],[]⟩,⟨[1,20],[],[],[],[]⟩,⟨[7,20],[],[],[],[]⟩,⟨[20,21,22],[],[],[],[]⟩,⟨[20,23],[],[],[],[]⟩,⟨[3,20],[],[],[0],[]⟩,⟨[20,25],[0],[],[],[]⟩,⟨[20,26],[],[],[],[]⟩,⟨[20,24,27],[],[],[],[]⟩,⟨[20,28],[],[],[],[]⟩,⟨[29],[],[],[],[]⟩,⟨[7,30],[],[],[],[]⟩,⟨[30,31],[],[],[],[]⟩,⟨[30,32],[],[],[],[]⟩,⟨[1,33],[],[],[],[]⟩,⟨[7,33],[],[],[],[]⟩,⟨[33,34,35],[],[],[],[]⟩,⟨[33,36],[],[],[],[]⟩,⟨[1,33],[],[],[],[]⟩,⟨[7,33],[],[],[],[]⟩,⟨[33,39],[],[],[],[]⟩,⟨[33,38,40],[],[],[],[]⟩,⟨[33,41],[],[],[],[]⟩,⟨[33,37,42],[],[],[],[]⟩,⟨[30,33,43],[],[],[],[]⟩,⟨[30,44],[],[],[],[]⟩]) ?_ (by kernel_rfl) ?_
     rotate_left
     ·
      refine Steps.runQ [1] [] [] (v:=.d (af 1 (eI .i64) a1)) (ae.move rfl rfl) rfl (by kernel_rfl) (by kernel_rfl) ?_
      refine Steps.runQ [7] [] [] (v:=di v0_0) (ae.move rfl rfl) rfl (by kernel_rfl) (by kernel_rfl) ?_
      refine Steps.runQ [15,16] [] [] (ae.index rfl rfl rfl dQ hb2.1 hb2.2) rfl (by kernel_rfl) (by kernel_rfl) ?_
      refine Steps.runQ [17] [] [] (ae.loadV rfl rfl aX rfl) rfl (by kernel_rfl) (by kernel_rfl) ?_
      refine Steps.runQ [18] [] [] (v:=db (decide ((nth a1 v0_0) < 0))) (ae.lssI (k:=.i64) (m:=(nth a1 v0_0)) (n:=0) rfl rfl rfl) rfl (by kernel_rfl) (by kernel_rfl) ?_
      refine Steps.runQ [19] [] [] (v:=db (decide ((nth a1 v0_0) < 0))) (ae.move rfl rfl) rfl (by kernel_rfl) (by kernel_rfl) ?_
      refine Steps.grunQ [1,20] [] [] (v:=.d (af 1 (eI .i64) a1)) (ae.move rfl rfl) rfl rfl rfl hc3 (by kernel_rfl) (by kernel_rfl) (by kernel_rfl) ?_
      refine Steps.grunQ [7,20] [] [] (v:=di v0_0) (ae.move rfl rfl) rfl rfl rfl hc3 (by kernel_rfl) (by kernel_rfl) (by kernel_rfl) ?_
      refine Steps.grunQ [20,21,22] [] [] (ae.index rfl rfl rfl dQ hb5.1 hb5.2) rfl rfl rfl hc3 (by kernel_rfl) (by kernel_rfl) (by kernel_rfl) ?_
      refine Steps.grunQ [20,23] [] [] (ae.loadV rfl rfl aX rfl) rfl rfl rfl hc3 (by kernel_rfl) (by kernel_rfl) (by kernel_rfl) ?_
      refine Steps.grunQ [3,20] [] [0] (v:=.ptr 0 3) (ae.fieldAddr (id:=0) (off:=0) (fo:=3) rfl rfl fm rfl rfl) rfl rfl rfl hc3 (by kernel_rfl) (by kernel_rfl) (by kernel_rfl) ?_
      refine Steps.grunQ [20,25] [0] [] (v:=.d (af 7 aE a0.tokens)) (ae.load rfl rfl si rfl rfl) rfl rfl rfl hc3 (by kernel_rfl) (by kernel_rfl) (by kernel_rfl) ?_
      refine Steps.grunQ [20,26] [] [] (v:=di (a0.tokens.length:Int)) (ae.len rfl rfl n6) rfl rfl rfl hc3 (by kernel_rfl) (by kernel_rfl) (by kernel_rfl) ?_
      refine Steps.grunQ [20,24,27] [] [] (v:=db (decide ((nth a1 v0_0)≥(a0.tokens.length:Int)))) (ae.geqI (k:=.i64) (m:=(nth a1 v0_0)) (n:=(a0.tokens.length:Int)) rfl rfl rfl) rfl rfl rfl hc3 (by kernel_rfl) (by kernel_rfl) (by kernel_rfl) ?_
      refine Steps.runQ [20,28] [] [] (v:=db (decide ((nth a1 v0_0)≥(a0.tokens.length:Int)))) (ae.pickF rfl rfl hc3 rfl) rfl (by kernel_rfl) (by kernel_rfl) ?_
      refine Steps.runQ [29] [] [] (v:=db (decide ((nth a1 v0_0)≥(a0.tokens.length:Int)))) (ae.move rfl rfl) rfl (by kernel_rfl) (by kernel_rfl) ?_
      refine Steps.gpass [7,30] rfl rfl rfl hc6 rfl rfl ?_
      refine Steps.gpass [30,31] rfl rfl rfl hc6 rfl rfl ?_
      refine Steps.gpass [30,32] rfl rfl rfl hc6 rfl rfl ?_
      refine Steps.gpass2 [1,33] rfl rfl rfl rfl rfl ?_
      refine Steps.gpass2 [7,33] rfl rfl rfl rfl rfl ?_
      refine Steps.gpass2 [33,34,35] rfl rfl rfl rfl rfl ?_
      refine Steps.gpass2 [33,36] rfl rfl rfl rfl rfl ?_
      refine Steps.gpass2 [1,33] rfl rfl rfl rfl rfl ?_
      refine Steps.gpass2 [7,33] rfl rfl rfl rfl rfl ?_
      refine Steps.gpass2 [33,39] rfl rfl rfl rfl rfl ?_
      refine Steps.gpass2 [33,38,40] rfl rfl rfl rfl rfl ?_
      refine Steps.gpass2 [33,41] rfl rfl rfl rfl rfl ?_
      refine Steps.gpass2 [33,37,42] rfl rfl rfl rfl rfl ?_
      refine Steps.gpass [30,33,43] rfl rfl rfl hc6 rfl rfl ?_
      refine Steps.runQ [30,44] [] [] (v:=db true) (ae.pickT rfl rfl hc6 rfl) rfl (by kernel_rfl) (by kernel_rfl) ?_
      exact Steps.nil _
     cases h
     exact ⟨_,(GStep.keep [1,2,3,7,45]),rfl,rfl⟩
    refine au h (fun hc8 h=>?_) (fun hc8 h=>?_)
    ·
     refine aD h fun hb9 h=>?_
     refine aD h fun hb10 h=>?_
     refine aa.regionAny mixed (s':=?s11) (qs:=[⟨[1],[],[],[],[]⟩,⟨[7],[],[],[],[]⟩,⟨[15,16],[],[],[],[]⟩,⟨[17],[],[],[],[]⟩,⟨[18],[],[],[],[]⟩,⟨[19],[],[],[],[]⟩,⟨[1,20],[],[],[],[]⟩,⟨[7,20],[],[],[],[]⟩,⟨[20,21,22],[],[],[],[]⟩,⟨[20,23],[],[],[],[]⟩,⟨[3,20],[],[],[0],[]⟩,⟨[20,25],[0],[],[],[]⟩,⟨[20,26],[],[],[],[]⟩,⟨[20,24,27],[],[],[],[]⟩,⟨[20,28],[],[],[],[]⟩,⟨[29],[],[],[],[]⟩,⟨[7,30],[],[],[],[]⟩,⟨[30,31],[],[],[],[]⟩,⟨[30,32],[],[],[],[]⟩,⟨[1,33],[],[],[],[]⟩,⟨[7,33],[],[],[],[]⟩,⟨[33,34,35],[],[],[],[]⟩,⟨[33,36],[],[],[],[]⟩,⟨[1,33],[],[],[],[]⟩,⟨[7,33],[],[],[],[]⟩,⟨[33,39],[],[],[],[]⟩,⟨[33,38,40],[],[],[],[]⟩,⟨[33,41],[],[],[],[]⟩,⟨[33,37,42],[],[],[],[]⟩,⟨[30,33,43],[],[],[],[]⟩,⟨[30,44],[],[],[],[]⟩]) ?_ (by kernel_rfl) ?_
     rotate_left
     ·
      refine Steps.runQ [1] [] [] (v:=.d (af 1 (eI .i64) a1)) (ae.move rfl rfl) rfl (by kernel_rfl) (by kernel_rfl) ?_
      refine Steps.runQ [7] [] [] (v:=di v0_0) (ae.move rfl rfl) rfl (by kernel_rfl) (by kernel_rfl) ?_
      refine Steps.runQ [15,16] [] [] (ae.index rfl rfl rfl dQ hb2.1 hb2.2) rfl (by kernel_rfl) (by kernel_rfl) ?_
      refine Steps.runQ [17] [] [] (ae.loadV rfl rfl aX rfl) rfl (by kernel_rfl) (by kernel_rfl) ?_
      refine Steps.runQ [18] [] [] (v:=db (decide ((nth a1 v0_0) < 0))) (ae.lssI (k:=.i64) (m:=(nth a1 v0_0)) (n:=0) rfl rfl rfl) rfl (by kernel_rfl) (by kernel_rfl) ?_
      refine Steps.runQ [19] [] [] (v:=db (decide ((nth a1 v0_0) < 0))) (ae.move rfl rfl) rfl (by kernel_rfl) (by kernel_rfl) ?_
      refine Steps.grunQ [1,20] [] [] (v:=.d (af 1 (eI .i64) a1)) (ae.move rfl rfl) rfl rfl rfl hc3 (by kernel_rfl) (by kernel_rfl) (by kernel_rfl) ?_
      refine Steps.grunQ [7,20] [] [] (v:=di v0_0) (ae.move rfl rfl) rfl rfl rfl hc3 (by kernel_rfl) (by kernel_rfl) (by kernel_rfl) ?_
      refine Steps.grunQ [20,21,22] [] [] (ae.index rfl rfl rfl dQ hb5.1 hb5.2) rfl rfl rfl hc3 (by kernel_rfl) (by kernel_rfl) (by kernel_rfl) ?_
      refine Steps.grunQ [20,23] [] [] (ae.loadV rfl rfl aX rfl) rfl rfl rfl hc3 (by kernel_rfl) (by kernel_rfl) (by kernel_rfl) ?_
      refine Steps.grunQ [3,20] [] [0] (v:=.ptr 0 3) (ae.fieldAddr (id:=0) (off:=0) (fo:=3) rfl rfl fm rfl rfl) rfl rfl rfl hc3 (by kernel_rfl) (by kernel_rfl) (by kernel_rfl) ?_
      refine Steps.grunQ [20,25] [0] [] (v:=.d (af 7 aE a0.tokens)) (ae.load rfl rfl si rfl rfl) rfl rfl rfl hc3 (by kernel_rfl) (by kernel_rfl) (by kernel_rfl) ?_
      refine Steps.grunQ [20,26] [] [] (v:=di (a0.tokens.length:Int)) (ae.len rfl rfl n6) rfl rfl rfl hc3 (by kernel_rfl) (by kernel_rfl) (by kernel_rfl) ?_
      refine Steps.grunQ [20,24,27] [] [] (v:=db (decide ((nth a1 v0_0)≥(a0.tokens.length:Int)))) (ae.geqI (k:=.i64) (m:=(nth a1 v0_0)) (n:=(a0.tokens.length:Int)) rfl rfl rfl) rfl rfl rfl hc3 (by kernel_rfl) (by kernel_rfl) (by kernel_rfl) ?_
      refine Steps.runQ [20,28] [] [] (v:=db (decide ((nth a1 v0_0)≥(a0.tokens.length:Int)))) (ae.pickF rfl rfl hc3 rfl) rfl (by kernel_rfl) (by kernel_rfl) ?_
      refine Steps.runQ [29] [] [] (v:=db (decide ((nth a1 v0_0)≥(a0.tokens.length:Int)))) (ae.move rfl rfl) rfl (by kernel_rfl) (by kernel_rfl) ?_
      refine Steps.grunQ [7,30] [] [] (v:=di v0_0) (ae.move rfl rfl) rfl rfl rfl hc6 (by kernel_rfl) (by kernel_rfl) (by kernel_rfl) ?_
      refine Steps.grunQ [30,31] [] [] (v:=db (decide (v0_0 > 0))) (ae.gtrI (k:=.i64) (m:=v0_0) (n:=0) rfl rfl rfl) rfl rfl rfl hc6 (by kernel_rfl) (by kernel_rfl) (by kernel_rfl) ?_
      refine Steps.grunQ [30,32] [] [] (v:=db (decide (v0_0 > 0))) (ae.move rfl rfl) rfl rfl rfl hc6 (by kernel_rfl) (by kernel_rfl) (by kernel_rfl) ?_
      refine Steps.grunQ [1,33] [] [] (v:=.d (af 1 (eI .i64) a1)) (ae.move rfl rfl) rfl rfl rfl hc8 (by kernel_rfl) (by kernel_rfl) (by kernel_rfl) ?_
      refine Steps.grunQ [7,33] [] [] (v:=di v0_0) (ae.move rfl rfl) rfl rfl rfl hc8 (by kernel_rfl) (by kernel_rfl) (by kernel_rfl) ?_
      refine Steps.grunQ [33,34,35] [] [] (ae.index rfl rfl rfl dQ hb9.1 hb9.2) rfl rfl rfl hc8 (by kernel_rfl) (by kernel_rfl) (by kernel_rfl) ?_
      refine Steps.grunQ [33,36] [] [] (ae.loadV rfl rfl aX rfl) rfl rfl rfl hc8 (by kernel_rfl) (by kernel_rfl) (by kernel_rfl) ?_
      refine Steps.grunQ [1,33] [] [] (v:=.d (af 1 (eI .i64) a1)) (ae.move rfl rfl) rfl rfl rfl hc8 (by kernel_rfl) (by kernel_rfl) (by kernel_rfl) ?_
      refine Steps.grunQ [7,33] [] [] (v:=di v0_0) (ae.move rfl rfl) rfl rfl rfl hc8 (by kernel_rfl) (by kernel_rfl) (by kernel_rfl) ?_
      refine Steps.grunQ [33,39] [] [] (v:=di (IntKind.wrap .i64 (v0_0 - 1))) (ae.subI (k:=.i64) (m:=v0_0) (n:=1) rfl rfl rfl) rfl rfl rfl hc8 (by kernel_rfl) (by kernel_rfl) (by kernel_rfl) ?_
      refine Steps.grunQ [33,38,40] [] [] (ae.index rfl rfl rfl dQ hb10.1 hb10.2) rfl rfl rfl hc8 (by kernel_rfl) (by kernel_rfl) (by kernel_rfl) ?_
      refine Steps.grunQ [33,41] [] [] (ae.loadV rfl rfl aX rfl) rfl rfl rfl hc8 (by kernel_rfl) (by kernel_rfl) (by kernel_rfl) ?_
      refine Steps.grunQ [33,37,42] [] [] (v:=db (decide ((nth a1 v0_0)≤(nth a1 (IntKind.wrap .i64 (v0_0 - 1)))))) (ae.leqI (k:=.i64) (m:=(nth a1 v0_0)) (n:=(nth a1 (IntKind.wrap .i64 (v0_0 - 1)))) rfl rfl rfl) rfl rfl rfl hc8 (by kernel_rfl) (by kernel_rfl) (by kernel_rfl) ?_
      refine Steps.grunQ [30,33,43] [] [] (v:=db (decide ((nth a1 v0_0)≤(nth a1 (IntKind.wrap .i64 (v0_0 - 1)))))) (ae.pickT rfl rfl hc8 rfl) rfl rfl rfl hc6 (by kernel_rfl) (by kernel_rfl) (by kernel_rfl) ?_
      refine Steps.runQ [30,44] [] [] (v:=db (decide ((nth a1 v0_0)≤(nth a1 (IntKind.wrap .i64 (v0_0 - 1)))))) (ae.pickF rfl rfl hc6 rfl) rfl (by kernel_rfl) (by kernel_rfl) ?_
      exact Steps.nil _
     cases h
     exact ⟨_,(GStep.keep [1,2,3,7,45]),rfl,rfl⟩
    refine aa.regionAny mixed (s':=?s12) (qs:=[⟨[1],[],[],[],[]⟩,⟨[7],[],[],[],[]⟩,⟨[15,16],[],[],[],[]⟩,⟨[17],[],[],[],[]⟩,⟨[18],[],[],[],[]⟩,⟨[19],[],[],[],[]⟩,⟨[1,20],[],[],[],[]⟩,⟨[7,20],[],[],[],[]⟩,⟨[20,21,22],[],[],[],[]⟩,⟨[20,23],[],[],[],[]⟩,⟨[3,20],[],[],[0],[]⟩,⟨[20,25],[0],[],[],[]⟩,⟨[20,26],[],[],[],[]⟩,⟨[20,24,27],[],[],[],[]⟩,⟨[20,28],[],[],[],[]⟩,⟨[29],[],[],[],[]⟩,⟨[7,30],[],[],[],[]⟩,⟨[30,31],[],[],[],[]⟩,⟨[30,32],[],[],[],[]⟩,⟨[1,33],[],[],[],[]⟩,⟨[7,33],[],[],[],[]⟩,⟨[33,34,35],[],[],[],[]⟩,⟨[33,36],[],[],[],[]⟩,⟨[1,33],[],[],[],[]⟩,⟨[7,33],[],[],[],[]⟩,⟨[33,39],[],[],[],[]⟩,⟨[33,38,40],[],[],[],[]⟩,⟨[33,41],[],[],[],[]⟩,⟨[33,37,42],[],[],[],[]⟩,⟨[30,33,43],[],[],[],[]⟩,⟨[30,44],[],[],[],[]⟩]) ?_ (by kernel_rfl) ?_
    rotate_left
    ·
     refine Steps.runQ [1] [] [] (v:=.d (af 1 (eI .i64) a1)) (ae.move rfl rfl) rfl (by kernel_rfl) (by kernel_rfl) ?_
     refine Steps.runQ [7] [] [] (v:=di v0_0) (ae.move rfl rfl) rfl (by kernel_rfl) (by kernel_rfl) ?_
     refine Steps.runQ [15,16] [] [] (ae.index rfl rfl rfl dQ hb2.1 hb2.2) rfl (by kernel_rfl) (by kernel_rfl) ?_
     refine Steps.runQ [17] [] [] (ae.loadV rfl rfl aX rfl) rfl (by kernel_rfl) (by kernel_rfl) ?_
     refine Steps.runQ [18] [] [] (v:=db (decide ((nth a1 v0_0) < 0))) (ae.lssI (k:=.i64) (m:=(nth a1 v0_0)) (n:=0) rfl rfl rfl) rfl (by kernel_rfl) (by kernel_rfl) ?_
     refine Steps.runQ [19] [] [] (v:=db (decide ((nth a1 v0_0) < 0))) (ae.move rfl rfl) rfl (by kernel_rfl) (by kernel_rfl) ?_
     refine Steps.grunQ [1,20] [] [] (v:=.d (af 1 (eI .i64) a1)) (ae.move rfl rfl) rfl rfl rfl hc3 (by kernel_rfl) (by kernel_rfl) (by kernel_rfl) ?_
     refine Steps.grunQ [7,20] [] [] (v:=di v0_0) (ae.move rfl rfl) rfl rfl rfl hc3 (by kernel_rfl) (by kernel_rfl) (by kernel_rfl) ?_
     refine Steps.grunQ [20,21,22] [] [] (ae.index rfl rfl rfl dQ hb5.1 hb5.2) rfl rfl rfl hc3 (by kernel_rfl) (by kernel_rfl) (by kernel_rfl) ?_
     refine Steps.grunQ [20,23] [] [] (ae.loadV rfl rfl aX rfl) rfl rfl rfl hc3 (by kernel_rfl) (by kernel_rfl) (by kernel_rfl) ?_
     refine Steps.grunQ [3,20] [] [0] (v:=.ptr 0 3) (ae.fieldAddr (id:=0) (off:=0) (fo:=3) rfl rfl fm rfl rfl) rfl rfl rfl hc3 (by kernel_rfl) (by kernel_rfl) (by kernel_rfl) ?_
     refine Steps.grunQ [20,25] [0] [] (v:=.d (af 7 aE a0.tokens)) (ae.load rfl rfl si rfl rfl) rfl rfl rfl hc3 (by kernel_rfl) (by kernel_rfl) (by kernel_rfl) ?_
     refine Steps.grunQ [20,26] [] [] (v:=di (a0.tokens.length:Int)) (ae.len rfl rfl n6) rfl rfl rfl hc3 (by kernel_rfl) (by kernel_rfl) (by kernel_rfl) ?_
     refine Steps.grunQ [20,24,27] [] [] (v:=db (decide ((nth a1 v0_0)≥(a0.tokens.length:Int)))) (ae.geqI (k:=.i64) (m:=(nth a1 v0_0)) (n:=(a0.tokens.length:Int)) rfl rfl rfl) rfl rfl rfl hc3 (by kernel_rfl) (by kernel_rfl) (by kernel_rfl) ?_
     refine Steps.runQ [20,28] [] [] (v:=db (decide ((nth a1 v0_0)≥(a0.tokens.length:Int)))) (ae.pickF rfl rfl hc3 rfl) rfl (by kernel_rfl) (by kernel_rfl) ?_
     refine Steps.runQ [29] [] [] (v:=db (decide ((nth a1 v0_0)≥(a0.tokens.length:Int)))) (ae.move rfl rfl) rfl (by kernel_rfl) (by kernel_rfl) ?_
     refine Steps.grunQ [7,30] [] [] (v:=di v0_0) (ae.move rfl rfl) rfl rfl rfl hc6 (by kernel_rfl) (by kernel_rfl) (by kernel_rfl) ?_
     refine Steps.grunQ [30,31] [] [] (v:=db (decide (v0_0 > 0))) (ae.gtrI (k:=.i64) (m:=v0_0) (n:=0) rfl rfl rfl) rfl rfl rfl hc6 (by kernel_rfl) (by kernel_rfl) (by kernel_rfl) ?_
     refine Steps.grunQ [30,32] [] [] (v:=db (decide (v0_0 > 0))) (ae.move rfl rfl) rfl rfl rfl hc6 (by kernel_rfl) (by kernel_rfl) (by kernel_rfl) ?_
     refine Steps.gpass [1,33] rfl rfl rfl hc8 rfl rfl ?_
     refine Steps.gpass [7,33] rfl rfl rfl hc8 rfl rfl ?_
     refine Steps.gpass [33,34,35] rfl rfl rfl hc8 rfl rfl ?_
     refine Steps.gpass [33,36] rfl rfl rfl hc8 rfl rfl ?_
     refine Steps.gpass [1,33] rfl rfl rfl hc8 rfl rfl ?_
     refine Steps.gpass [7,33] rfl rfl rfl hc8 rfl rfl ?_
     refine Steps.gpass [33,39] rfl rfl rfl hc8 rfl rfl ?_
     refine Steps.gpass [33,38,40] rfl rfl rfl hc8 rfl rfl ?_
     refine Steps.gpass [33,41] rfl rfl rfl hc8 rfl rfl ?_
     refine Steps.gpass [33,37,42] rfl rfl rfl hc8 rfl rfl ?_
     refine Steps.grunQ [30,33,43] [] [] (v:=db false) (ae.pickF rfl rfl hc8 rfl) rfl rfl rfl hc6 (by kernel_rfl) (by kernel_rfl) (by kernel_rfl) ?_
     refine Steps.runQ [30,44] [] [] (v:=db false) (ae.pickF rfl rfl hc6 rfl) rfl (by kernel_rfl) (by kernel_rfl) ?_
     exact Steps.nil _
    cases h
    exact ⟨_,(GStep.keep [1,2,3,7,45]),rfl,rfl⟩
   rintro e s' hq
   obtain ⟨rfl,rfl⟩:=hq
   refine aa.condI h rfl (fun hc15 h=>?_) (fun hc15 h=>?_)
   ·
    refine aa.sr (ab.ev0n [0] [(6,db false)] [] ?_)
    refine aa.ret ?_
    cases h
    exact ⟨_,(GStep.trans (GStep.keep [6]) (GStep.ren [] (by decide) rfl rfl)),rfl,Fin.mk2 (aB.one (.tmp rfl)) [] (by decide) rfl rfl rfl rfl⟩
   refine aa.skip ?_
   refine aa.seq ?_
   refine aD h fun hb16 h=>?_
   refine aD h fun hb17 h=>?_
   refine aa.ghost (GStep.resv 1) ?_
   refine aa.regionAny mixed (s':=?s23) (qs:=[⟨[3],[],[],[0],[]⟩,⟨[46],[0],[],[],[]⟩,⟨[1],[],[],[],[]⟩,⟨[7],[],[],[],[]⟩,⟨[48,49],[],[],[],[]⟩,⟨[50],[],[],[],[]⟩,⟨[47,51],[],[],[],[]⟩,⟨[52],[],[],[],[]⟩,⟨[],[],[1],[],[1]⟩,⟨[8,53],[],[1],[],[]⟩]) ?_ (by kernel_rfl) ?_
   rotate_left
   ·
    refine Steps.runQ [3] [] [0] (v:=.ptr 0 3) (ae.fieldAddr (id:=0) (off:=0) (fo:=3) rfl rfl fm rfl rfl) rfl (by kernel_rfl) (by kernel_rfl) ?_
    refine Steps.runQ [46] [0] [] (v:=.d (af 7 aE a0.tokens)) (ae.load rfl rfl si rfl rfl) rfl (by kernel_rfl) (by kernel_rfl) ?_
    refine Steps.runQ [1] [] [] (v:=.d (af 1 (eI .i64) a1)) (ae.move rfl rfl) rfl (by kernel_rfl) (by kernel_rfl) ?_
    refine Steps.runQ [7] [] [] (v:=di v0_0) (ae.move rfl rfl) rfl (by kernel_rfl) (by kernel_rfl) ?_
    refine Steps.runQ [48,49] [] [] (ae.index rfl rfl rfl dQ hb16.1 hb16.2) rfl (by kernel_rfl) (by kernel_rfl) ?_
    refine Steps.runQ [50] [] [] (ae.loadV rfl rfl aX rfl) rfl (by kernel_rfl) (by kernel_rfl) ?_
    refine Steps.runQ [47,51] [] [] (ae.index rfl rfl rfl n6 hb17.1 hb17.2) rfl (by kernel_rfl) (by kernel_rfl) ?_
    refine Steps.runQ [52] [] [] (ae.loadVA rfl rfl yJ rfl) rfl (by kernel_rfl) (by kernel_rfl) ?_
    refine Steps.run [] [] [1] [] [1] (v:=.ptr 1 0) (ae.put [1] (ae.alloc rfl yK) (by decide) rfl rfl rfl) rfl (by kernel_rfl) (by kernel_rfl) (by kernel_rfl) (by kernel_rfl) ?_
    refine Steps.hp (h':=[.live (.var (ah a0)),.live (.var [.d (.str (⟨#[]⟩:ByteArray)),di 0,.d (.str (⟨#[]⟩:ByteArray)),.nsl,.d (.str (⟨#[]⟩:ByteArray)),.nsl,di 0])]) rfl ?_
    refine Steps.run [8,53] [] [1] [] [] (ae.store rfl rfl rfl yJ rfl rfl rfl rfl rfl) rfl (by kernel_rfl) (by kernel_rfl) (by kernel_rfl) (by kernel_rfl) ?_
    refine Steps.hp (h':=[.live (.var (ah a0)),.live (.var (dp (nth a0.tokens (nth a1 v0_0))))]) rfl ?_
    exact Steps.nil _
   refine aa.seq ?_
   refine ao h fun x21 ho20 h=>?_
   refine aa.cut (Q':=fun e s'=>e = .normal∧s'=⟨[(1,.d (af 1 (eI .i64) a1)),(2,db a2),(3,.ptr 0 0),(7,di v0_0),(68,db x21)],[.live (.var (ah a0))]⟩) ?_ ?_
   ·
    have h:=ho20
    refine au h (fun hc18 h=>?_) (fun hc18 h=>?_)
    ·
     refine au h (fun hc19 h=>?_) (fun hc19 h=>?_)
     ·
      refine aa.region (ab.ev0n [0,0,1,0,0,0,0,2,0,0,0,0,0,0,0] [(68,db true)] [⟨_,hc18⟩,⟨_,hc19⟩] ?_)
      cases h
      exact ⟨_,(GStep.trans (GStep.keep [1,2,3,7,68]) (GStep.ren [0] (by decide) rfl rfl)),rfl,rfl⟩
     refine aa.region (ab.ev0 [0,0,1,0,0,0,0,3,3,3,4,4,4] [(60,db (decide ((nth a0.tokens (nth a1 v0_0)).literal=(⟨#[]⟩:ByteArray)))),(63,db (!a2)),(66,.tup [])] [⟨_,hc18⟩,⟨_,hc19⟩,⟨_,hc19⟩,⟨_,hc19⟩,⟨_,(congrArg not hc18)⟩,⟨_,(congrArg not hc18)⟩,⟨_,(congrArg not hc18)⟩] ?_)
     refine ab.gstep (v:=db false) (ae.pickF rfl rfl (congrArg not hc18) rfl) rfl rfl rfl hc19 rfl rfl ?_
     refine ab.ev0n [20] [(68,db false)] [⟨_,hc19⟩] ?_
     cases h
     exact ⟨_,(GStep.trans (GStep.keep [1,2,3,7,68]) (GStep.ren [0] (by decide) rfl rfl)),rfl,rfl⟩
    refine aa.region (ab.ev0 [0,0,2,0,0,0,0,0,0,0,3,3,3] [(60,db false),(63,db (!a2)),(66,db (!decide ((nth a0.tokens (nth a1 v0_0)).classF=0)))] [⟨_,hc18⟩,⟨_,(congrArg not hc18)⟩,⟨_,(congrArg not hc18)⟩,⟨_,(congrArg not hc18)⟩] ?_)
    refine ab.gstep (v:=db (!decide ((nth a0.tokens (nth a1 v0_0)).classF=0))) (ae.pickT rfl rfl (congrArg not hc18) rfl) rfl rfl rfl rfl rfl rfl ?_
    refine ab.ev0n [0] [(68,db (!decide ((nth a0.tokens (nth a1 v0_0)).classF=0)))] [] ?_
    cases h
    exact ⟨_,(GStep.trans (GStep.keep [1,2,3,7,68]) (GStep.ren [0] (by decide) rfl rfl)),rfl,rfl⟩
   rintro e s' hq
   obtain ⟨rfl,rfl⟩:=hq
   refine aa.condI h rfl (fun hc22 h=>?_) (fun hc22 h=>?_)
   ·
    refine aa.sr (ab.ev0n [0] [(6,db false)] [] ?_)
    refine aa.ret ?_
    cases h
    exact ⟨_,(GStep.trans (GStep.keep [6]) (GStep.ren [] (by decide) rfl rfl)),rfl,Fin.mk2 (aB.one (.tmp rfl)) [] (by decide) rfl rfl rfl rfl⟩
   refine aa.skip ?_
   refine aa.region (ab.ev0n [0,0,0] [(7,di (IntKind.wrap .i64 (v0_0+1)))] [] ?_)
   exact aM.ghost (GStep.keep [1,2,3,7]) (ih (IntKind.wrap .i64 (v0_0+1)) h)
  refine aa.exit ?_
  cases h
  exact ⟨_,(GStep.trans (GStep.keep [1]) (GStep.ren [] (by decide) rfl rfl)),rfl,rfl⟩
 rcases o26 with r24 | x25
 ·
  rintro e s' hq
  obtain ⟨rfl,hq⟩:=hq
  cases h
  exact ⟨_,GStep.refl _ _,.inr rfl,hq⟩
 rintro e s' hq
 obtain ⟨rfl,rfl⟩:=hq
 refine aa.sr (ab.ev0n [0,0,0,0] [(6,db (decide ((a1.length:Int) > 0)))] [] ?_)
 refine aa.ret ?_
 cases h
 exact ⟨_,(GStep.keep [6]),.inr rfl,Fin.mk2 (aB.one (.tmp rfl)) [] (by decide) rfl rfl rfl rfl⟩
noncomputable def eC (k:Nat)(a0:am)(a1:aA):Option Bool:=(((if (decide (a1.kind < 1))=true then some true else (if (decide (a1.kind > 5))=true then some true else ((gx k a1.ifF (a0.conditions.length:Int)).bind fun y3=>(if (!y3)=true then some true else ((gF a1).bind fun y5=>some (!y5)))))):Option Bool).bind fun x7=>(if x7=true then some false else (((if (decide (a1.kind=1))=true then some (decide (a1.kind=1)) else some (decide (a1.kind=2))):Option Bool).bind fun x11=>(if x11=true then (((if (decide (a1.parent < 0))=true then some true else (if (decide (a1.parent≥(a0.productions.length:Int)))=true then some true else (if (decide (a1.child < 0))=true then some true else some (decide (a1.child≥(a0.productions.length:Int)))))):Option Bool).bind fun x17=>(if x17=true then some false else (if (0:Int)≤a1.parent∧a1.parent < (a0.productions.length:Int) then (((if (decide (a1.atF≥0))=true then (if (decide (a1.atF < (((nth a0.productions a1.parent).right).length:Int)))=true then (if (0:Int)≤a1.atF∧a1.atF < (((nth a0.productions a1.parent).right).length:Int) then (if (!((nth ((nth a0.productions a1.parent).right) a1.atF).token))=true then (if (0:Int)≤a1.atF∧a1.atF < (((nth a0.productions a1.parent).right).length:Int) then (if (0:Int)≤a1.child∧a1.child < (a0.productions.length:Int) then some (decide ((nth ((nth a0.productions a1.parent).right) a1.atF).index=(nth a0.productions a1.child).left)) else none) else none) else some false) else none) else some false) else some false):Option Bool).bind fun x31=>some x31) else none))) else (((if (decide (a1.kind=3))=true then some (decide (a1.kind=3)) else some (decide (a1.kind=4))):Option Bool).bind fun x34=>(if x34=true then (((if (decide (a1.left≥0))=true then (if (decide (a1.left < (a0.nonterminals.length:Int)))=true then ((fY k a0 a1.tokens false).bind fun y38=>some y38) else some false) else some false):Option Bool).bind fun x40=>some x40) else (((if (decide (a1.token < 0))=true then some true else (if (decide (a1.token≥(a0.tokens.length:Int)))=true then some true else ((fY k a0 a1.tokens true).bind fun y43=>some (!y43)))):Option Bool).bind fun x45=>(if x45=true then some false else (if (0:Int)≤a1.token∧a1.token < (a0.tokens.length:Int) then (((if (decide ((nth a0.tokens a1.token).classF=0))=true then some (decide ((nth a0.tokens a1.token).literal=(⟨#[]⟩:ByteArray))) else some false):Option Bool).bind fun x50=>some x50) else none)))))))))
set_option maxRecDepth 100000 in
set_option maxHeartbeats 4000000 in
theorem p5 (k:Nat)(a0:am)(a1:aA)(r:Bool)(h:eC k a0 a1=some r):SC P 117 [.agg (ah a0),.agg (aW a1)] [] (db r) []:=by
 unfold eC at h
 refine SC.intro3 (N:=152) Tryz.func117 rfl rfl Tryz.ntmps117 rfl ?_
 refine aa.sr (ab.evn (h':=[.live (.var (ah a0)),.live (.var (aW a1))]) [0,0,0] [(2,.ptr 0 0),(3,.ptr 1 0)] [] ?_)
 refine aa.seq ?_
 refine aa.seq ?_
 refine ao h fun x7 ho6 h=>?_
 refine aa.cut (Q':=fun e s'=>e = .normal∧s'=⟨[(2,.ptr 0 0),(3,.ptr 1 0),(28,db x7)],[.live (.var (ah a0)),.live (.var (aW a1))]⟩) ?_ ?_
 ·
  have h:=ho6
  refine au h (fun hc1 h=>?_) (fun hc1 h=>?_)
  ·
   refine aa.region (ab.ev0n [0,0,0,0,2,0,0,0,0,0,0,0,0,0,0,0,0,0,0,0,0,0] [(28,db true)] [⟨_,hc1⟩] ?_)
   cases h
   exact ⟨_,(GStep.keep [2,3,28]),rfl,rfl⟩
  refine au h (fun hc2 h=>?_) (fun hc2 h=>?_)
  ·
   refine aa.region (ab.ev0n [0,0,0,0,1,0,0,0,0,2,0,0,0,0,0,0,0,0,0,0,0,0] [(28,db true)] [⟨_,hc1⟩,⟨_,hc2⟩] ?_)
   cases h
   exact ⟨_,(GStep.keep [2,3,28]),rfl,rfl⟩
  refine ao h fun y3 hy3 h=>?_
  refine au h (fun hc4 h=>?_) (fun hc4 h=>?_)
  ·
   refine aa.region (ab.ev0 [0,0,0,0,1,0,0,0,0,3,3,3,3,3] [(15,db (decide (a1.kind > 5))),(17,.agg (an a1.ifF)),(20,di (a0.conditions.length:Int))] [⟨_,hc1⟩,⟨_,hc2⟩,⟨_,hc2⟩,⟨_,hc2⟩,⟨_,hc2⟩,⟨_,hc2⟩] ?_)
   refine ab.gstep (v:=db y3) (ae.callS [] (mw k a1.ifF (a0.conditions.length:Int) _ hy3) rfl rfl ⟨⟨rfl,rfl,trivial⟩,rfl,trivial⟩ (by decide) rfl rfl trivial) rfl rfl rfl hc2 rfl rfl ?_
   refine ab.ev0n [3,20,0,2,0,0,0] [(28,db true)] [⟨_,hc2⟩,⟨_,hc2⟩,⟨_,hc4⟩] ?_
   cases h
   exact ⟨_,(GStep.keep [2,3,28]),rfl,rfl⟩
  refine ao h fun y5 hy5 h=>?_
  refine aa.region (ab.ev0 [0,0,0,0,1,0,0,0,0,3,3,3,3,3] [(15,db (decide (a1.kind > 5))),(17,.agg (an a1.ifF)),(20,di (a0.conditions.length:Int))] [⟨_,hc1⟩,⟨_,hc2⟩,⟨_,hc2⟩,⟨_,hc2⟩,⟨_,hc2⟩,⟨_,hc2⟩] ?_)
  refine ab.gstep (v:=db y3) (ae.callS [] (mw k a1.ifF (a0.conditions.length:Int) _ hy3) rfl rfl ⟨⟨rfl,rfl,trivial⟩,rfl,trivial⟩ (by decide) rfl rfl trivial) rfl rfl rfl hc2 rfl rfl ?_
  refine ab.ev0 [3,20,0,3] [(24,db (!y3)),(25,.agg (aW a1))] [⟨_,hc2⟩,⟨_,hc2⟩,⟨_,hc4⟩] ?_
  refine ab.gstep (v:=db y5) (ae.callS [] (qJ a1 _ hy5) rfl rfl ⟨⟨rfl,rfl,rfl,rfl,rfl,rfl,rfl,rfl,rfl,trivial⟩,trivial⟩ (by decide) rfl rfl trivial) rfl rfl rfl hc4 rfl rfl ?_
  refine ab.ev0n [3,20] [(28,db (!y5))] [⟨_,hc4⟩,⟨_,hc4⟩] ?_
  cases h
  exact ⟨_,(GStep.keep [2,3,28]),rfl,rfl⟩
 rintro e s' hq
 obtain ⟨rfl,rfl⟩:=hq
 refine aa.condI h rfl (fun hc8 h=>?_) (fun hc8 h=>?_)
 ·
  refine aa.sr (ab.ev0n [0] [(4,db false)] [] ?_)
  refine aa.ret ?_
  cases h
  exact ⟨_,(GStep.trans (GStep.keep [4]) (GStep.ren [] (by decide) rfl rfl)),.inr rfl,Fin.mk2 (aB.one (.tmp rfl)) [] (by decide) rfl rfl rfl rfl⟩
 refine aa.skip ?_
 refine aa.seq ?_
 refine aa.sr (ab.ev0n [0,0] [(30,di a1.kind)] [] ?_)
 refine aa.block ?_
 refine aa.seq ?_
 refine aa.sr (ab.ev0n [0,0] [(31,db (decide (a1.kind=1)))] [] ?_)
 refine ao h fun x11 ho10 h=>?_
 refine aa.cut (Q':=fun e s'=>e = .normal∧s'=⟨[(2,.ptr 0 0),(3,.ptr 1 0),(30,di a1.kind),(31,db x11)],[.live (.var (ah a0)),.live (.var (aW a1))]⟩) ?_ ?_
 ·
  have h:=ho10
  refine aa.condI h rfl (fun hc9 h=>?_) (fun hc9 h=>?_)
  ·
   refine aa.skip ?_
   cases h
   exact ⟨_,(GStep.keep [2,3,30,31]),rfl,rfl⟩
  refine aa.region (ab.ev0n [0,0] [(31,db (decide (a1.kind=2)))] [] ?_)
  cases h
  exact ⟨_,(GStep.keep [2,3,30,31]),rfl,rfl⟩
 rintro e s' hq
 obtain ⟨rfl,rfl⟩:=hq
 refine aa.condI h rfl (fun hc12 h=>?_) (fun hc12 h=>?_)
 ·
  refine aa.seq ?_
  refine aa.seq ?_
  refine ao h fun x17 ho16 h=>?_
  refine aa.cut (Q':=fun e s'=>e = .normal∧s'=⟨[(2,.ptr 0 0),(3,.ptr 1 0),(57,db x17)],[.live (.var (ah a0)),.live (.var (aW a1))]⟩) ?_ ?_
  ·
   have h:=ho16
   refine au h (fun hc13 h=>?_) (fun hc13 h=>?_)
   ·
    refine aa.region (ab.ev0n [0,0,0,0,2,0,0,0,0,0,0,0,0,0,0,0,0,0,0,0,0,0,0,0] [(57,db true)] [⟨_,hc13⟩] ?_)
    cases h
    exact ⟨_,(GStep.keep [2,3,57]),rfl,rfl⟩
   refine au h (fun hc14 h=>?_) (fun hc14 h=>?_)
   ·
    refine aa.region (ab.ev0n [0,0,0,0,1,0,0,0,0,0,0,0,2,0,0,0,0,0,0,0,0,0,0,0] [(57,db true)] [⟨_,hc13⟩,⟨_,hc14⟩] ?_)
    cases h
    exact ⟨_,(GStep.keep [2,3,57]),rfl,rfl⟩
   refine au h (fun hc15 h=>?_) (fun hc15 h=>?_)
   ·
    refine aa.region (ab.ev0n [0,0,0,0,1,0,0,0,0,0,0,0,1,0,0,0,0,2,0,0,0,0,0,0] [(57,db true)] [⟨_,hc13⟩,⟨_,hc14⟩,⟨_,hc15⟩] ?_)
    cases h
    exact ⟨_,(GStep.keep [2,3,57]),rfl,rfl⟩
   refine aa.region (ab.ev0n [0,0,0,0,1,0,0,0,0,0,0,0,1,0,0,0,0,1,0,0,0,0,0,0] [(57,db (decide (a1.child≥(a0.productions.length:Int))))] [⟨_,hc13⟩,⟨_,hc14⟩,⟨_,hc15⟩] ?_)
   cases h
   exact ⟨_,(GStep.keep [2,3,57]),rfl,rfl⟩
  rintro e s' hq
  obtain ⟨rfl,rfl⟩:=hq
  refine aa.condI h rfl (fun hc18 h=>?_) (fun hc18 h=>?_)
  ·
   refine aa.sr (ab.ev0n [0] [(4,db false)] [] ?_)
   refine aa.ret ?_
   cases h
   exact ⟨_,(GStep.trans (GStep.keep [4]) (GStep.ren [] (by decide) rfl rfl)),.inr rfl,Fin.mk2 (aB.one (.tmp rfl)) [] (by decide) rfl rfl rfl rfl⟩
  refine aa.skip ?_
  refine aa.seq ?_
  refine aD h fun hb19 h=>?_
  refine aa.region (ab.ev0n [0,0,0,0,0,0,0,0] [(5,.d (af 2 ay ((nth a0.productions a1.parent).right)))] [⟨_,hb19.1⟩,⟨_,hb19.2⟩] ?_)
  refine aa.seq ?_
  refine ao h fun x31 ho30 h=>?_
  refine aa.cut (Q':=fun e s'=>e = .normal∧s'=⟨[(4,db x31)],[]⟩) ?_ ?_
  ·
   have h:=ho30
   refine au h (fun hc20 h=>?_) (fun hc20 h=>?_)
   ·
    refine au h (fun hc21 h=>?_) (fun hc21 h=>?_)
    ·
     refine aD h fun hb22 h=>?_
     refine au h (fun hc23 h=>?_) (fun hc23 h=>?_)
     ·
      refine aD h fun hb24 h=>?_
      refine aD h fun hb25 h=>?_
      refine aa.regionAny mixed (s':=?s26) (qs:=[⟨[3],[],[],[1],[]⟩,⟨[65],[1],[],[],[]⟩,⟨[66],[],[],[],[]⟩,⟨[67],[],[],[],[]⟩,⟨[3,68],[],[],[1],[]⟩,⟨[68,69],[1],[],[],[]⟩,⟨[5,68],[],[],[],[]⟩,⟨[68,71],[],[],[],[]⟩,⟨[68,70,72],[],[],[],[]⟩,⟨[68,73],[],[],[],[]⟩,⟨[74],[],[],[],[]⟩,⟨[5,75],[],[],[],[]⟩,⟨[3,75],[],[],[1],[]⟩,⟨[75,77],[1],[],[],[]⟩,⟨[75,76,78],[],[],[],[]⟩,⟨[75,79],[],[],[],[]⟩,⟨[75,80],[],[],[],[]⟩,⟨[75,81],[],[],[],[]⟩,⟨[75,82],[],[],[],[]⟩,⟨[83],[],[],[],[]⟩,⟨[5,84],[],[],[],[]⟩,⟨[3,84],[],[],[1],[]⟩,⟨[84,86],[1],[],[],[]⟩,⟨[84,85,87],[],[],[],[]⟩,⟨[84,88],[],[],[],[]⟩,⟨[84,89],[],[],[],[]⟩,⟨[2,84],[],[],[0],[]⟩,⟨[84,91],[0],[],[],[]⟩,⟨[3,84],[],[],[1],[]⟩,⟨[84,93],[1],[],[],[]⟩,⟨[84,92,94],[],[],[],[]⟩,⟨[84,95],[],[],[],[]⟩,⟨[84,96],[],[],[],[]⟩,⟨[84,90,97],[],[],[],[]⟩,⟨[84,98],[],[],[],[]⟩,⟨[99],[],[],[],[]⟩]) ?_ (by kernel_rfl) ?_
      rotate_left
      ·
       refine Steps.runQ [3] [] [1] (v:=.ptr 1 2) (ae.fieldAddr (id:=1) (off:=0) (fo:=2) rfl rfl eJ rfl rfl) rfl (by kernel_rfl) (by kernel_rfl) ?_
       refine Steps.runQ [65] [1] [] (v:=di a1.atF) (ae.load rfl rfl aX rfl rfl) rfl (by kernel_rfl) (by kernel_rfl) ?_
       refine Steps.runQ [66] [] [] (v:=db (decide (a1.atF≥0))) (ae.geqI (k:=.i64) (m:=a1.atF) (n:=0) rfl rfl rfl) rfl (by kernel_rfl) (by kernel_rfl) ?_
       refine Steps.runQ [67] [] [] (v:=db (decide (a1.atF≥0))) (ae.move rfl rfl) rfl (by kernel_rfl) (by kernel_rfl) ?_
       refine Steps.grunQ [3,68] [] [1] (v:=.ptr 1 2) (ae.fieldAddr (id:=1) (off:=0) (fo:=2) rfl rfl eJ rfl rfl) rfl rfl rfl hc20 (by kernel_rfl) (by kernel_rfl) (by kernel_rfl) ?_
       refine Steps.grunQ [68,69] [1] [] (v:=di a1.atF) (ae.load rfl rfl aX rfl rfl) rfl rfl rfl hc20 (by kernel_rfl) (by kernel_rfl) (by kernel_rfl) ?_
       refine Steps.grunQ [5,68] [] [] (v:=.d (af 2 ay ((nth a0.productions a1.parent).right))) (ae.move rfl rfl) rfl rfl rfl hc20 (by kernel_rfl) (by kernel_rfl) (by kernel_rfl) ?_
       refine Steps.grunQ [68,71] [] [] (v:=di (((nth a0.productions a1.parent).right).length:Int)) (ae.len rfl rfl bL) rfl rfl rfl hc20 (by kernel_rfl) (by kernel_rfl) (by kernel_rfl) ?_
       refine Steps.grunQ [68,70,72] [] [] (v:=db (decide (a1.atF < (((nth a0.productions a1.parent).right).length:Int)))) (ae.lssI (k:=.i64) (m:=a1.atF) (n:=(((nth a0.productions a1.parent).right).length:Int)) rfl rfl rfl) rfl rfl rfl hc20 (by kernel_rfl) (by kernel_rfl) (by kernel_rfl) ?_
       refine Steps.runQ [68,73] [] [] (v:=db (decide (a1.atF < (((nth a0.productions a1.parent).right).length:Int)))) (ae.pickT rfl rfl hc20 rfl) rfl (by kernel_rfl) (by kernel_rfl) ?_
       refine Steps.runQ [74] [] [] (v:=db (decide (a1.atF < (((nth a0.productions a1.parent).right).length:Int)))) (ae.move rfl rfl) rfl (by kernel_rfl) (by kernel_rfl) ?_
       refine Steps.grunQ [5,75] [] [] (v:=.d (af 2 ay ((nth a0.productions a1.parent).right))) (ae.move rfl rfl) rfl rfl rfl hc21 (by kernel_rfl) (by kernel_rfl) (by kernel_rfl) ?_
       refine Steps.grunQ [3,75] [] [1] (v:=.ptr 1 2) (ae.fieldAddr (id:=1) (off:=0) (fo:=2) rfl rfl eJ rfl rfl) rfl rfl rfl hc21 (by kernel_rfl) (by kernel_rfl) (by kernel_rfl) ?_
       refine Steps.grunQ [75,77] [1] [] (v:=di a1.atF) (ae.load rfl rfl aX rfl rfl) rfl rfl rfl hc21 (by kernel_rfl) (by kernel_rfl) (by kernel_rfl) ?_
       refine Steps.grunQ [75,76,78] [] [] (ae.index rfl rfl rfl bL hb22.1 hb22.2) rfl rfl rfl hc21 (by kernel_rfl) (by kernel_rfl) (by kernel_rfl) ?_
       refine Steps.grunQ [75,79] [] [] (ae.fieldAddrV rfl rfl dA rfl rfl) rfl rfl rfl hc21 (by kernel_rfl) (by kernel_rfl) (by kernel_rfl) ?_
       refine Steps.grunQ [75,80] [] [] (ae.loadV rfl rfl fF rfl) rfl rfl rfl hc21 (by kernel_rfl) (by kernel_rfl) (by kernel_rfl) ?_
       refine Steps.grunQ [75,81] [] [] (v:=db (!((nth ((nth a0.productions a1.parent).right) a1.atF).token))) (ae.not rfl rfl) rfl rfl rfl hc21 (by kernel_rfl) (by kernel_rfl) (by kernel_rfl) ?_
       refine Steps.runQ [75,82] [] [] (v:=db (!((nth ((nth a0.productions a1.parent).right) a1.atF).token))) (ae.pickT rfl rfl hc21 rfl) rfl (by kernel_rfl) (by kernel_rfl) ?_
       refine Steps.runQ [83] [] [] (v:=db (!((nth ((nth a0.productions a1.parent).right) a1.atF).token))) (ae.move rfl rfl) rfl (by kernel_rfl) (by kernel_rfl) ?_
       refine Steps.grunQ [5,84] [] [] (v:=.d (af 2 ay ((nth a0.productions a1.parent).right))) (ae.move rfl rfl) rfl rfl rfl hc23 (by kernel_rfl) (by kernel_rfl) (by kernel_rfl) ?_
       refine Steps.grunQ [3,84] [] [1] (v:=.ptr 1 2) (ae.fieldAddr (id:=1) (off:=0) (fo:=2) rfl rfl eJ rfl rfl) rfl rfl rfl hc23 (by kernel_rfl) (by kernel_rfl) (by kernel_rfl) ?_
       refine Steps.grunQ [84,86] [1] [] (v:=di a1.atF) (ae.load rfl rfl aX rfl rfl) rfl rfl rfl hc23 (by kernel_rfl) (by kernel_rfl) (by kernel_rfl) ?_
       refine Steps.grunQ [84,85,87] [] [] (ae.index rfl rfl rfl bL hb24.1 hb24.2) rfl rfl rfl hc23 (by kernel_rfl) (by kernel_rfl) (by kernel_rfl) ?_
       refine Steps.grunQ [84,88] [] [] (ae.fieldAddrV rfl rfl dA rfl rfl) rfl rfl rfl hc23 (by kernel_rfl) (by kernel_rfl) (by kernel_rfl) ?_
       refine Steps.grunQ [84,89] [] [] (ae.loadV rfl rfl aX rfl) rfl rfl rfl hc23 (by kernel_rfl) (by kernel_rfl) (by kernel_rfl) ?_
       refine Steps.grunQ [2,84] [] [0] (v:=.ptr 0 5) (ae.fieldAddr (id:=0) (off:=0) (fo:=5) rfl rfl fm rfl rfl) rfl rfl rfl hc23 (by kernel_rfl) (by kernel_rfl) (by kernel_rfl) ?_
       refine Steps.grunQ [84,91] [0] [] (v:=.d (af 13 aq a0.productions)) (ae.load rfl rfl mj rfl rfl) rfl rfl rfl hc23 (by kernel_rfl) (by kernel_rfl) (by kernel_rfl) ?_
       refine Steps.grunQ [3,84] [] [1] (v:=.ptr 1 3) (ae.fieldAddr (id:=1) (off:=0) (fo:=3) rfl rfl eJ rfl rfl) rfl rfl rfl hc23 (by kernel_rfl) (by kernel_rfl) (by kernel_rfl) ?_
       refine Steps.grunQ [84,93] [1] [] (v:=di a1.child) (ae.load rfl rfl aX rfl rfl) rfl rfl rfl hc23 (by kernel_rfl) (by kernel_rfl) (by kernel_rfl) ?_
       refine Steps.grunQ [84,92,94] [] [] (ae.index rfl rfl rfl iA hb25.1 hb25.2) rfl rfl rfl hc23 (by kernel_rfl) (by kernel_rfl) (by kernel_rfl) ?_
       refine Steps.grunQ [84,95] [] [] (ae.fieldAddrV rfl rfl cz rfl rfl) rfl rfl rfl hc23 (by kernel_rfl) (by kernel_rfl) (by kernel_rfl) ?_
       refine Steps.grunQ [84,96] [] [] (ae.loadV rfl rfl aX rfl) rfl rfl rfl hc23 (by kernel_rfl) (by kernel_rfl) (by kernel_rfl) ?_
       refine Steps.grunQ [84,90,97] [] [] (v:=db (decide ((nth ((nth a0.productions a1.parent).right) a1.atF).index=(nth a0.productions a1.child).left))) (ae.eqlI (k:=.i64) (m:=(nth ((nth a0.productions a1.parent).right) a1.atF).index) (n:=(nth a0.productions a1.child).left) rfl rfl rfl) rfl rfl rfl hc23 (by kernel_rfl) (by kernel_rfl) (by kernel_rfl) ?_
       refine Steps.runQ [84,98] [] [] (v:=db (decide ((nth ((nth a0.productions a1.parent).right) a1.atF).index=(nth a0.productions a1.child).left))) (ae.pickT rfl rfl hc23 rfl) rfl (by kernel_rfl) (by kernel_rfl) ?_
       refine Steps.runQ [99] [] [] (v:=db (decide ((nth ((nth a0.productions a1.parent).right) a1.atF).index=(nth a0.productions a1.child).left))) (ae.assign rfl rfl) rfl (by kernel_rfl) (by kernel_rfl) ?_
       exact Steps.nil _
      cases h
      exact ⟨_,(GStep.trans (GStep.keep [4]) (GStep.ren [] (by decide) rfl rfl)),rfl,rfl⟩
     refine aa.regionAny mixed (s':=?s27) (qs:=[⟨[3],[],[],[1],[]⟩,⟨[65],[1],[],[],[]⟩,⟨[66],[],[],[],[]⟩,⟨[67],[],[],[],[]⟩,⟨[3,68],[],[],[1],[]⟩,⟨[68,69],[1],[],[],[]⟩,⟨[5,68],[],[],[],[]⟩,⟨[68,71],[],[],[],[]⟩,⟨[68,70,72],[],[],[],[]⟩,⟨[68,73],[],[],[],[]⟩,⟨[74],[],[],[],[]⟩,⟨[5,75],[],[],[],[]⟩,⟨[3,75],[],[],[1],[]⟩,⟨[75,77],[1],[],[],[]⟩,⟨[75,76,78],[],[],[],[]⟩,⟨[75,79],[],[],[],[]⟩,⟨[75,80],[],[],[],[]⟩,⟨[75,81],[],[],[],[]⟩,⟨[75,82],[],[],[],[]⟩,⟨[83],[],[],[],[]⟩,⟨[5,84],[],[],[],[]⟩,⟨[3,84],[],[],[],[]⟩,⟨[84,86],[],[],[],[]⟩,⟨[84,85,87],[],[],[],[]⟩,⟨[84,88],[],[],[],[]⟩,⟨[84,89],[],[],[],[]⟩,⟨[2,84],[],[],[],[]⟩,⟨[84,91],[],[],[],[]⟩,⟨[3,84],[],[],[],[]⟩,⟨[84,93],[],[],[],[]⟩,⟨[84,92,94],[],[],[],[]⟩,⟨[84,95],[],[],[],[]⟩,⟨[84,96],[],[],[],[]⟩,⟨[84,90,97],[],[],[],[]⟩,⟨[84,98],[],[],[],[]⟩,⟨[99],[],[],[],[]⟩]) ?_ (by kernel_rfl) ?_
     rotate_left
     ·
      refine Steps.runQ [3] [] [1] (v:=.ptr 1 2) (ae.fieldAddr (id:=1) (off:=0) (fo:=2) rfl rfl eJ rfl rfl) rfl (by kernel_rfl) (by kernel_rfl) ?_
      refine Steps.runQ [65] [1] [] (v:=di a1.atF) (ae.load rfl rfl aX rfl rfl) rfl (by kernel_rfl) (by kernel_rfl) ?_
      refine Steps.runQ [66] [] [] (v:=db (decide (a1.atF≥0))) (ae.geqI (k:=.i64) (m:=a1.atF) (n:=0) rfl rfl rfl) rfl (by kernel_rfl) (by kernel_rfl) ?_
      refine Steps.runQ [67] [] [] (v:=db (decide (a1.atF≥0))) (ae.move rfl rfl) rfl (by kernel_rfl) (by kernel_rfl) ?_
      refine Steps.grunQ [3,68] [] [1] (v:=.ptr 1 2) (ae.fieldAddr (id:=1) (off:=0) (fo:=2) rfl rfl eJ rfl rfl) rfl rfl rfl hc20 (by kernel_rfl) (by kernel_rfl) (by kernel_rfl) ?_
      refine Steps.grunQ [68,69] [1] [] (v:=di a1.atF) (ae.load rfl rfl aX rfl rfl) rfl rfl rfl hc20 (by kernel_rfl) (by kernel_rfl) (by kernel_rfl) ?_
      refine Steps.grunQ [5,68] [] [] (v:=.d (af 2 ay ((nth a0.productions a1.parent).right))) (ae.move rfl rfl) rfl rfl rfl hc20 (by kernel_rfl) (by kernel_rfl) (by kernel_rfl) ?_
      refine Steps.grunQ [68,71] [] [] (v:=di (((nth a0.productions a1.parent).right).length:Int)) (ae.len rfl rfl bL) rfl rfl rfl hc20 (by kernel_rfl) (by kernel_rfl) (by kernel_rfl) ?_
      refine Steps.grunQ [68,70,72] [] [] (v:=db (decide (a1.atF < (((nth a0.productions a1.parent).right).length:Int)))) (ae.lssI (k:=.i64) (m:=a1.atF) (n:=(((nth a0.productions a1.parent).right).length:Int)) rfl rfl rfl) rfl rfl rfl hc20 (by kernel_rfl) (by kernel_rfl) (by kernel_rfl) ?_
      refine Steps.runQ [68,73] [] [] (v:=db (decide (a1.atF < (((nth a0.productions a1.parent).right).length:Int)))) (ae.pickT rfl rfl hc20 rfl) rfl (by kernel_rfl) (by kernel_rfl) ?_
      refine Steps.runQ [74] [] [] (v:=db (decide (a1.atF < (((nth a0.productions a1.parent).right).length:Int)))) (ae.move rfl rfl) rfl (by kernel_rfl) (by kernel_rfl) ?_
      refine Steps.grunQ [5,75] [] [] (v:=.d (af 2 ay ((nth a0.productions a1.parent).right))) (ae.move rfl rfl) rfl rfl rfl hc21 (by kernel_rfl) (by kernel_rfl) (by kernel_rfl) ?_
      refine Steps.grunQ [3,75] [] [1] (v:=.ptr 1 2) (ae.fieldAddr (id:=1) (off:=0) (fo:=2) rfl rfl eJ rfl rfl) rfl rfl rfl hc21 (by kernel_rfl) (by kernel_rfl) (by kernel_rfl) ?_
      refine Steps.grunQ [75,77] [1] [] (v:=di a1.atF) (ae.load rfl rfl aX rfl rfl) rfl rfl rfl hc21 (by kernel_rfl) (by kernel_rfl) (by kernel_rfl) ?_
      refine Steps.grunQ [75,76,78] [] [] (ae.index rfl rfl rfl bL hb22.1 hb22.2) rfl rfl rfl hc21 (by kernel_rfl) (by kernel_rfl) (by kernel_rfl) ?_
      refine Steps.grunQ [75,79] [] [] (ae.fieldAddrV rfl rfl dA rfl rfl) rfl rfl rfl hc21 (by kernel_rfl) (by kernel_rfl) (by kernel_rfl) ?_
      refine Steps.grunQ [75,80] [] [] (ae.loadV rfl rfl fF rfl) rfl rfl rfl hc21 (by kernel_rfl) (by kernel_rfl) (by kernel_rfl) ?_
      refine Steps.grunQ [75,81] [] [] (v:=db (!((nth ((nth a0.productions a1.parent).right) a1.atF).token))) (ae.not rfl rfl) rfl rfl rfl hc21 (by kernel_rfl) (by kernel_rfl) (by kernel_rfl) ?_
      refine Steps.runQ [75,82] [] [] (v:=db (!((nth ((nth a0.productions a1.parent).right) a1.atF).token))) (ae.pickT rfl rfl hc21 rfl) rfl (by kernel_rfl) (by kernel_rfl) ?_
      refine Steps.runQ [83] [] [] (v:=db (!((nth ((nth a0.productions a1.parent).right) a1.atF).token))) (ae.move rfl rfl) rfl (by kernel_rfl) (by kernel_rfl) ?_
      refine Steps.gpass [5,84] rfl rfl rfl hc23 rfl rfl ?_
      refine Steps.gpass [3,84] rfl rfl rfl hc23 rfl rfl ?_
      refine Steps.gpass [84,86] rfl rfl rfl hc23 rfl rfl ?_
      refine Steps.gpass [84,85,87] rfl rfl rfl hc23 rfl rfl ?_
      refine Steps.gpass [84,88] rfl rfl rfl hc23 rfl rfl ?_
      refine Steps.gpass [84,89] rfl rfl rfl hc23 rfl rfl ?_
      refine Steps.gpass [2,84] rfl rfl rfl hc23 rfl rfl ?_
      refine Steps.gpass [84,91] rfl rfl rfl hc23 rfl rfl ?_
      refine Steps.gpass [3,84] rfl rfl rfl hc23 rfl rfl ?_
      refine Steps.gpass [84,93] rfl rfl rfl hc23 rfl rfl ?_
      refine Steps.gpass [84,92,94] rfl rfl rfl hc23 rfl rfl ?_
      refine Steps.gpass [84,95] rfl rfl rfl hc23 rfl rfl ?_
      refine Steps.gpass [84,96] rfl rfl rfl hc23 rfl rfl ?_
      refine Steps.gpass [84,90,97] rfl rfl rfl hc23 rfl rfl ?_
      refine Steps.runQ [84,98] [] [] (v:=db false) (ae.pickF rfl rfl hc23 rfl) rfl (by kernel_rfl) (by kernel_rfl) ?_
      refine Steps.runQ [99] [] [] (v:=db false) (ae.assign rfl rfl) rfl (by kernel_rfl) (by kernel_rfl) ?_
      exact Steps.nil _
     cases h
     exact ⟨_,(GStep.trans (GStep.keep [4]) (GStep.ren [] (by decide) rfl rfl)),rfl,rfl⟩
    refine aa.regionAny mixed (s':=?s28) (qs:=[⟨[3],[],[],[1],[]⟩,⟨[65],[1],[],[],[]⟩,⟨[66],[],[],[],[]⟩,⟨[67],[],[],[],[]⟩,⟨[3,68],[],[],[1],[]⟩,⟨[68,69],[1],[],[],[]⟩,⟨[5,68],[],[],[],[]⟩,⟨[68,71],[],[],[],[]⟩,⟨[68,70,72],[],[],[],[]⟩,⟨[68,73],[],[],[],[]⟩,⟨[74],[],[],[],[]⟩,⟨[5,75],[],[],[],[]⟩,⟨[3,75],[],[],[],[]⟩,⟨[75,77],[],[],[],[]⟩,⟨[75,76,78],[],[],[],[]⟩,⟨[75,79],[],[],[],[]⟩,⟨[75,80],[],[],[],[]⟩,⟨[75,81],[],[],[],[]⟩,⟨[75,82],[],[],[],[]⟩,⟨[83],[],[],[],[]⟩,⟨[5,84],[],[],[],[]⟩,⟨[3,84],[],[],[],[]⟩,⟨[84,86],[],[],[],[]⟩,⟨[84,85,87],[],[],[],[]⟩,⟨[84,88],[],[],[],[]⟩,⟨[84,89],[],[],[],[]⟩,⟨[2,84],[],[],[],[]⟩,⟨[84,91],[],[],[],[]⟩,⟨[3,84],[],[],[],[]⟩,⟨[84,93],[],[],[],[]⟩,⟨[84,92,94],[],[],[],[]⟩,⟨[84,95],[],[],[],[]⟩,⟨[84,96],[],[],[],[]⟩,⟨[84,90,97],[],[],[],[]⟩,⟨[84,98],[],[],[],[]⟩,⟨[99],[],[],[],[]⟩]) ?_ (by kernel_rfl) ?_
    rotate_left
    ·
     refine Steps.runQ [3] [] [1] (v:=.ptr 1 2) (ae.fieldAddr (id:=1) (off:=0) (fo:=2) rfl rfl eJ rfl rfl) rfl (by kernel_rfl) (by kernel_rfl) ?_
     refine Steps.runQ [65] [1] [] (v:=di a1.atF) (ae.load rfl rfl aX rfl rfl) rfl (by kernel_rfl) (by kernel_rfl) ?_
     refine Steps.runQ [66] [] [] (v:=db (decide (a1.atF≥0))) (ae.geqI (k:=.i64) (m:=a1.atF) (n:=0) rfl rfl rfl) rfl (by kernel_rfl) (by kernel_rfl) ?_
     refine Steps.runQ [67] [] [] (v:=db (decide (a1.atF≥0))) (ae.move rfl rfl) rfl (by kernel_rfl) (by kernel_rfl) ?_
     refine Steps.grunQ [3,68] [] [1] (v:=.ptr 1 2) (ae.fieldAddr (id:=1) (off:=0) (fo:=2) rfl rfl eJ rfl rfl) rfl rfl rfl hc20 (by kernel_rfl) (by kernel_rfl) (by kernel_rfl) ?_
     refine Steps.grunQ [68,69] [1] [] (v:=di a1.atF) (ae.load rfl rfl aX rfl rfl) rfl rfl rfl hc20 (by kernel_rfl) (by kernel_rfl) (by kernel_rfl) ?_
     refine Steps.grunQ [5,68] [] [] (v:=.d (af 2 ay ((nth a0.productions a1.parent).right))) (ae.move rfl rfl) rfl rfl rfl hc20 (by kernel_rfl) (by kernel_rfl) (by kernel_rfl) ?_
     refine Steps.grunQ [68,71] [] [] (v:=di (((nth a0.productions a1.parent).right).length:Int)) (ae.len rfl rfl bL) rfl rfl rfl hc20 (by kernel_rfl) (by kernel_rfl) (by kernel_rfl) ?_
     refine Steps.grunQ [68,70,72] [] [] (v:=db (decide (a1.atF < (((nth a0.productions a1.parent).right).length:Int)))) (ae.lssI (k:=.i64) (m:=a1.atF) (n:=(((nth a0.productions a1.parent).right).length:Int)) rfl rfl rfl) rfl rfl rfl hc20 (by kernel_rfl) (by kernel_rfl) (by kernel_rfl) ?_
     refine Steps.runQ [68,73] [] [] (v:=db (decide (a1.atF < (((nth a0.productions a1.parent).right).length:Int)))) (ae.pickT rfl rfl hc20 rfl) rfl (by kernel_rfl) (by kernel_rfl) ?_
     refine Steps.runQ [74] [] [] (v:=db (decide (a1.atF < (((nth a0.productions a1.parent).right).length:Int)))) (ae.move rfl rfl) rfl (by kernel_rfl) (by kernel_rfl) ?_
     refine Steps.gpass [5,75] rfl rfl rfl hc21 rfl rfl ?_
     refine Steps.gpass [3,75] rfl rfl rfl hc21 rfl rfl ?_
     refine Steps.gpass [75,77] rfl rfl rfl hc21 rfl rfl ?_
     refine Steps.gpass [75,76,78] rfl rfl rfl hc21 rfl rfl ?_
     refine Steps.gpass [75,79] rfl rfl rfl hc21 rfl rfl ?_
     refine Steps.gpass [75,80] rfl rfl rfl hc21 rfl rfl ?_
     refine Steps.gpass [75,81] rfl rfl rfl hc21 rfl rfl ?_
     refine Steps.runQ [75,82] [] [] (v:=db false) (ae.pickF rfl rfl hc21 rfl) rfl (by kernel_rfl) (by kernel_rfl) ?_
     refine Steps.runQ [83] [] [] (v:=db false) (ae.move rfl rfl) rfl (by kernel_rfl) (by kernel_rfl) ?_
     refine Steps.gpass [5,84] rfl rfl rfl rfl rfl rfl ?_
     refine Steps.gpass [3,84] rfl rfl rfl rfl rfl rfl ?_
     refine Steps.gpass [84,86] rfl rfl rfl rfl rfl rfl ?_
     refine Steps.gpass [84,85,87] rfl rfl rfl rfl rfl rfl ?_
     refine Steps.gpass [84,88] rfl rfl rfl rfl rfl rfl ?_
     refine Steps.gpass [84,89] rfl rfl rfl rfl rfl rfl ?_
     refine Steps.gpass [2,84] rfl rfl rfl rfl rfl rfl ?_
     refine Steps.gpass [84,91] rfl rfl rfl rfl rfl rfl ?_
     refine Steps.gpass [3,84] rfl rfl rfl rfl rfl rfl ?_
     refine Steps.gpass [84,93] rfl rfl rfl rfl rfl rfl ?_
     refine Steps.gpass [84,92,94] rfl rfl rfl rfl rfl rfl ?_
     refine Steps.gpass [84,95] rfl rfl rfl rfl rfl rfl ?_
     refine Steps.gpass [84,96] rfl rfl rfl rfl rfl rfl ?_
     refine Steps.gpass [84,90,97] rfl rfl rfl rfl rfl rfl ?_
     refine Steps.runQ [84,98] [] [] (v:=db false) (ae.pickF rfl rfl rfl rfl) rfl (by kernel_rfl) (by kernel_rfl) ?_
     refine Steps.runQ [99] [] [] (v:=db false) (ae.assign rfl rfl) rfl (by kernel_rfl) (by kernel_rfl) ?_
     exact Steps.nil _
    cases h
    exact ⟨_,(GStep.trans (GStep.keep [4]) (GStep.ren [] (by decide) rfl rfl)),rfl,rfl⟩
   refine aa.regionAny mixed (s':=?s29) (qs:=[⟨[3],[],[],[1],[]⟩,⟨[65],[1],[],[],[]⟩,⟨[66],[],[],[],[]⟩,⟨[67],[],[],[],[]⟩,⟨[3,68],[],[],[],[]⟩,⟨[68,69],[],[],[],[]⟩,⟨[5,68],[],[],[],[]⟩,⟨[68,71],[],[],[],[]⟩,⟨[68,70,72],[],[],[],[]⟩,⟨[68,73],[],[],[],[]⟩,⟨[74],[],[],[],[]⟩,⟨[5,75],[],[],[],[]⟩,⟨[3,75],[],[],[],[]⟩,⟨[75,77],[],[],[],[]⟩,⟨[75,76,78],[],[],[],[]⟩,⟨[75,79],[],[],[],[]⟩,⟨[75,80],[],[],[],[]⟩,⟨[75,81],[],[],[],[]⟩,⟨[75,82],[],[],[],[]⟩,⟨[83],[],[],[],[]⟩,⟨[5,84],[],[],[],[]⟩,⟨[3,84],[],[],[],[]⟩,⟨[84,86],[],[],[],[]⟩,⟨[84,85,87],[],[],[],[]⟩,⟨[84,88],[],[],[],[]⟩,⟨[84,89],[],[],[],[]⟩,⟨[2,84],[],[],[],[]⟩,⟨[84,91],[],[],[],[]⟩,⟨[3,84],[],[],[],[]⟩,⟨[84,93],[],[],[],[]⟩,⟨[84,92,94],[],[],[],[]⟩,⟨[84,95],[],[],[],[]⟩,⟨[84,96],[],[],[],[]⟩,⟨[84,90,97],[],[],[],[]⟩,⟨[84,98],[],[],[],[]⟩,⟨[99],[],[],[],[]⟩]) ?_ (by kernel_rfl) ?_
   rotate_left
   ·
    refine Steps.runQ [3] [] [1] (v:=.ptr 1 2) (ae.fieldAddr (id:=1) (off:=0) (fo:=2) rfl rfl eJ rfl rfl) rfl (by kernel_rfl) (by kernel_rfl) ?_
    refine Steps.runQ [65] [1] [] (v:=di a1.atF) (ae.load rfl rfl aX rfl rfl) rfl (by kernel_rfl) (by kernel_rfl) ?_
    refine Steps.runQ [66] [] [] (v:=db (decide (a1.atF≥0))) (ae.geqI (k:=.i64) (m:=a1.atF) (n:=0) rfl rfl rfl) rfl (by kernel_rfl) (by kernel_rfl) ?_
    refine Steps.runQ [67] [] [] (v:=db (decide (a1.atF≥0))) (ae.move rfl rfl) rfl (by kernel_rfl) (by kernel_rfl) ?_
    refine Steps.gpass [3,68] rfl rfl rfl hc20 rfl rfl ?_
    refine Steps.gpass [68,69] rfl rfl rfl hc20 rfl rfl ?_
    refine Steps.gpass [5,68] rfl rfl rfl hc20 rfl rfl ?_
    refine Steps.gpass [68,71] rfl rfl rfl hc20 rfl rfl ?_
    refine Steps.gpass [68,70,72] rfl rfl rfl hc20 rfl rfl ?_
    refine Steps.runQ [68,73] [] [] (v:=db false) (ae.pickF rfl rfl hc20 rfl) rfl (by kernel_rfl) (by kernel_rfl) ?_
    refine Steps.runQ [74] [] [] (v:=db false) (ae.move rfl rfl) rfl (by kernel_rfl) (by kernel_rfl) ?_
    refine Steps.gpass [5,75] rfl rfl rfl rfl rfl rfl ?_
    refine Steps.gpass [3,75] rfl rfl rfl rfl rfl rfl ?_
    refine Steps.gpass [75,77] rfl rfl rfl rfl rfl rfl ?_
    refine Steps.gpass [75,76,78] rfl rfl rfl rfl rfl rfl ?_
    refine Steps.gpass [75,79] rfl rfl rfl rfl rfl rfl ?_
    refine Steps.gpass [75,80] rfl rfl rfl rfl rfl rfl ?_
    refine Steps.gpass [75,81] rfl rfl rfl rfl rfl rfl ?_
    refine Steps.runQ [75,82] [] [] (v:=db false) (ae.pickF rfl rfl rfl rfl) rfl (by kernel_rfl) (by kernel_rfl) ?_
    refine Steps.runQ [83] [] [] (v:=db false) (ae.move rfl rfl) rfl (by kernel_rfl) (by kernel_rfl) ?_
    refine Steps.gpass [5,84] rfl rfl rfl rfl rfl rfl ?_
    refine Steps.gpass [3,84] rfl rfl rfl rfl rfl rfl ?_
    refine Steps.gpass [84,86] rfl rfl rfl rfl rfl rfl ?_
    refine Steps.gpass [84,85,87] rfl rfl rfl rfl rfl rfl ?_
    refine Steps.gpass [84,88] rfl rfl rfl rfl rfl rfl ?_
    refine Steps.gpass [84,89] rfl rfl rfl rfl rfl rfl ?_
    refine Steps.gpass [2,84] rfl rfl rfl rfl rfl rfl ?_
    refine Steps.gpass [84,91] rfl rfl rfl rfl rfl rfl ?_
    refine Steps.gpass [3,84] rfl rfl rfl rfl rfl rfl ?_
    refine Steps.gpass [84,93] rfl rfl rfl rfl rfl rfl ?_
    refine Steps.gpass [84,92,94] rfl rfl rfl rfl rfl rfl ?_
    refine Steps.gpass [84,95] rfl rfl rfl rfl rfl rfl ?_
    refine Steps.gpass [84,96] rfl rfl rfl rfl rfl rfl ?_
    refine Steps.gpass [84,90,97] rfl rfl rfl rfl rfl rfl ?_
    refine Steps.runQ [84,98] [] [] (v:=db false) (ae.pickF rfl rfl rfl rfl) rfl (by kernel_rfl) (by kernel_rfl) ?_
    refine Steps.runQ [99] [] [] (v:=db false) (ae.assign rfl rfl) rfl (by kernel_rfl) (by kernel_rfl) ?_
    exact Steps.nil _
   cases h
   exact ⟨_,(GStep.trans (GStep.keep [4]) (GStep.ren [] (by decide) rfl rfl)),rfl,rfl⟩
  rintro e s' hq
  obtain ⟨rfl,rfl⟩:=hq
  refine aa.ret ?_
  cases h
  exact ⟨_,(GStep.keep [4]),.inr rfl,Fin.mk2 (aB.one (.tmp rfl)) [] (by decide) rfl rfl rfl rfl⟩
 refine aa.seq ?_
 refine aa.sr (ab.ev0n [0,0] [(100,db (decide (a1.kind=3)))] [] ?_)
 refine ao h fun x34 ho33 h=>?_
 refine aa.cut (Q':=fun e s'=>e = .normal∧s'=⟨[(2,.ptr 0 0),(3,.ptr 1 0),(100,db x34)],[.live (.var (ah a0)),.live (.var (aW a1))]⟩) ?_ ?_
 ·
  have h:=ho33
  refine aa.condI h rfl (fun hc32 h=>?_) (fun hc32 h=>?_)
  ·
   refine aa.skip ?_
   cases h
   exact ⟨_,(GStep.keep [2,3,100]),rfl,rfl⟩
  refine aa.region (ab.ev0n [0,0] [(100,db (decide (a1.kind=4)))] [] ?_)
  cases h
  exact ⟨_,(GStep.keep [2,3,100]),rfl,rfl⟩
 rintro e s' hq
 obtain ⟨rfl,rfl⟩:=hq
 refine aa.condI h rfl (fun hc35 h=>?_) (fun hc35 h=>?_)
 ·
  refine aa.seq ?_
  refine ao h fun x40 ho39 h=>?_
  refine aa.cut (Q':=fun e s'=>e = .normal∧s'=⟨[(4,db x40)],[]⟩) ?_ ?_
  ·
   have h:=ho39
   refine au h (fun hc36 h=>?_) (fun hc36 h=>?_)
   ·
    refine au h (fun hc37 h=>?_) (fun hc37 h=>?_)
    ·
     refine ao h fun y38 hy38 h=>?_
     refine aa.region (ab.ev0 [0,0,0,0,1,0,0,0,0,0,0,0,3,3,3] [(114,db (decide (a1.left < (a0.nonterminals.length:Int)))),(115,.agg (ah a0)),(117,.d (af 1 (eI .i64) a1.tokens))] [⟨_,hc36⟩,⟨_,hc37⟩,⟨_,hc37⟩,⟨_,hc37⟩] ?_)
     refine ab.gstep (v:=db y38) (ae.callS [] (lz k a0 a1.tokens false _ hy38) rfl rfl ⟨⟨rfl,rfl,rfl,rfl,rfl,rfl,rfl,rfl,rfl,trivial⟩,rfl,rfl,trivial⟩ (by decide) rfl rfl trivial) rfl rfl rfl hc37 rfl rfl ?_
     refine ab.ev0n [10,0] [(4,db y38)] [⟨_,hc37⟩] ?_
     cases h
     exact ⟨_,(GStep.trans (GStep.keep [4]) (GStep.ren [] (by decide) rfl rfl)),rfl,rfl⟩
    refine aa.region (ab.ev0n [0,0,0,0,1,0,0,0,0,0,0,0,2,0,0,0,0,0] [(4,db false)] [⟨_,hc36⟩,⟨_,hc37⟩] ?_)
    cases h
    exact ⟨_,(GStep.trans (GStep.keep [4]) (GStep.ren [] (by decide) rfl rfl)),rfl,rfl⟩
   refine aa.region (ab.ev0n [0,0,0,0,2,0,0,0,0,0,0,0,0,0,0,0,0,0] [(4,db false)] [⟨_,hc36⟩] ?_)
   cases h
   exact ⟨_,(GStep.trans (GStep.keep [4]) (GStep.ren [] (by decide) rfl rfl)),rfl,rfl⟩
  rintro e s' hq
  obtain ⟨rfl,rfl⟩:=hq
  refine aa.ret ?_
  cases h
  exact ⟨_,(GStep.keep [4]),.inr rfl,Fin.mk2 (aB.one (.tmp rfl)) [] (by decide) rfl rfl rfl rfl⟩
 refine aa.skip ?_
 refine aa.seq ?_
 refine aa.seq ?_
 refine ao h fun x45 ho44 h=>?_
 refine aa.cut (Q':=fun e s'=>e = .normal∧s'=⟨[(2,.ptr 0 0),(3,.ptr 1 0),(137,db x45)],[.live (.var (ah a0)),.live (.var (aW a1))]⟩) ?_ ?_
 ·
  have h:=ho44
  refine au h (fun hc41 h=>?_) (fun hc41 h=>?_)
  ·
   refine aa.region (ab.ev0n [0,0,0,0,2,0,0,0,0,0,0,0,0,0,0,0,0,0] [(137,db true)] [⟨_,hc41⟩] ?_)
   cases h
   exact ⟨_,(GStep.keep [2,3,137]),rfl,rfl⟩
  refine au h (fun hc42 h=>?_) (fun hc42 h=>?_)
  ·
   refine aa.region (ab.ev0n [0,0,0,0,1,0,0,0,0,0,0,0,2,0,0,0,0,0] [(137,db true)] [⟨_,hc41⟩,⟨_,hc42⟩] ?_)
   cases h
   exact ⟨_,(GStep.keep [2,3,137]),rfl,rfl⟩
  refine ao h fun y43 hy43 h=>?_
  refine aa.region (ab.ev0 [0,0,0,0,1,0,0,0,0,0,0,0,3,3,3] [(131,db (decide (a1.token≥(a0.tokens.length:Int)))),(132,.agg (ah a0)),(134,.d (af 1 (eI .i64) a1.tokens))] [⟨_,hc41⟩,⟨_,hc42⟩,⟨_,hc42⟩,⟨_,hc42⟩] ?_)
  refine ab.gstep (v:=db y43) (ae.callS [] (lz k a0 a1.tokens true _ hy43) rfl rfl ⟨⟨rfl,rfl,rfl,rfl,rfl,rfl,rfl,rfl,rfl,trivial⟩,rfl,rfl,trivial⟩ (by decide) rfl rfl trivial) rfl rfl rfl hc42 rfl rfl ?_
  refine ab.ev0n [3,20] [(137,db (!y43))] [⟨_,hc42⟩,⟨_,hc42⟩] ?_
  cases h
  exact ⟨_,(GStep.keep [2,3,137]),rfl,rfl⟩
 rintro e s' hq
 obtain ⟨rfl,rfl⟩:=hq
 refine aa.condI h rfl (fun hc46 h=>?_) (fun hc46 h=>?_)
 ·
  refine aa.sr (ab.ev0n [0] [(4,db false)] [] ?_)
  refine aa.ret ?_
  cases h
  exact ⟨_,(GStep.trans (GStep.keep [4]) (GStep.ren [] (by decide) rfl rfl)),.inr rfl,Fin.mk2 (aB.one (.tmp rfl)) [] (by decide) rfl rfl rfl rfl⟩
 refine aa.skip ?_
 refine aa.seq ?_
 refine aD h fun hb47 h=>?_
 refine aa.region (ab.evn (h':=[.live (.var (ah a0)),.live (.var (aW a1)),.live (.var (dp (nth a0.tokens a1.token)))]) [0,0,0,0,0,0,0,0] [(6,.ptr 2 0)] [⟨_,hb47.1⟩,⟨_,hb47.2⟩] ?_)
 refine aa.seq ?_
 refine ao h fun x50 ho49 h=>?_
 refine aa.cut (Q':=fun e s'=>e = .normal∧s'=⟨[(4,db x50)],[]⟩) ?_ ?_
 ·
  have h:=ho49
  refine au h (fun hc48 h=>?_) (fun hc48 h=>?_)
  ·
   refine aa.region (ab.ev0n [0,0,0,0,1,0,0,0,0] [(4,db (decide ((nth a0.tokens a1.token).literal=(⟨#[]⟩:ByteArray))))] [⟨_,hc48⟩] ?_)
   cases h
   exact ⟨_,(GStep.trans (GStep.keep [4]) (GStep.ren [] (by decide) rfl rfl)),rfl,rfl⟩
  refine aa.region (ab.ev0n [0,0,0,0,2,0,0,0,0] [(4,db false)] [⟨_,hc48⟩] ?_)
  cases h
  exact ⟨_,(GStep.trans (GStep.keep [4]) (GStep.ren [] (by decide) rfl rfl)),rfl,rfl⟩
 rintro e s' hq
 obtain ⟨rfl,rfl⟩:=hq
 refine aa.ret ?_
 cases h
 exact ⟨_,(GStep.keep [4]),.inr rfl,Fin.mk2 (aB.one (.tmp rfl)) [] (by decide) rfl rfl rfl rfl⟩
noncomputable def dM (k:Nat)(a0:am)(a1:oz):Option am:=((fI k a1.ifF (a0.conditions.length:Int)).bind fun y1=>(if (a0.productions.length:Int)≠0 then (((if (decide ((Int.tmod a1.kind 8)=0))=true then some (decide ((Int.tmod a1.kind 8)=0)) else some (decide ((Int.tmod a1.kind 8)=1))):Option Bool).bind fun x5=>(if x5=true then ((cO k a0 (Int.tmod (IntKind.wrap .i64 a1.a) (a0.productions.length:Int))).bind fun y7=>(((if (!y7)=true then (if (a0.productions.length:Int)≠0 then (((if (!decide ((Int.tmod (IntKind.wrap .i64 a1.b) (a0.productions.length:Int))=(Int.tmod (IntKind.wrap .i64 a1.a) (a0.productions.length:Int))))=true then ((cO k a0 (Int.tmod (IntKind.wrap .i64 a1.b) (a0.productions.length:Int))).bind fun y11=>some (!y11)) else some false):Option Bool).bind fun x13=>(((if x13=true then (if (([(Int.tmod (IntKind.wrap .i64 a1.a) (a0.productions.length:Int))]:List Int).length+([(Int.tmod (IntKind.wrap .i64 a1.b) (a0.productions.length:Int))]:List Int).length)*8≤140737488355328 then some (([(Int.tmod (IntKind.wrap .i64 a1.a) (a0.productions.length:Int))]:List Int)++([(Int.tmod (IntKind.wrap .i64 a1.b) (a0.productions.length:Int))]:List Int)) else none) else some ([(Int.tmod (IntKind.wrap .i64 a1.a) (a0.productions.length:Int))]:List Int)):Option (List Int)).bind fun x17=>(if (([]:List aN).length+a0.levels.length)*64≤140737488355328 then (if (a0.levels.length+([(⟨x17,IntKind.wrap .i64 (Int.tmod a1.c 4),y1⟩:aN)]:List aN).length)*64≤140737488355328 then some (⟨a0.conditions,a0.family,a0.tokens,a0.nonterminals,a0.productions,a0.start,(a0.levels++([(⟨x17,IntKind.wrap .i64 (Int.tmod a1.c 4),y1⟩:aN)]:List aN)),a0.filters⟩:am) else none) else none))) else none) else some a0):Option am).bind fun x22=>some x22)) else (((if (decide ((Int.tmod a1.kind 8)=2))=true then some (decide ((Int.tmod a1.kind 8)=2)) else some (decide ((Int.tmod a1.kind 8)=3))):Option Bool).bind fun x25=>(((if x25=true then (if (a0.productions.length:Int)≠0 then some (.inl (⟨(IntKind.wrap .i64 ((IntKind.wrap .i64 (1+IntKind.wrap .i64 (Int.tmod a1.kind 8))) - 2)),(Int.tmod (IntKind.wrap .i64 a1.a) (a0.productions.length:Int)),(Int.tmod (IntKind.wrap .i64 a1.c) 16),(Int.tmod (IntKind.wrap .i64 a1.b) (a0.productions.length:Int)),0,0,[],y1⟩:aA)) else none) else (((if (decide ((Int.tmod a1.kind 8)=4))=true then some (decide ((Int.tmod a1.kind 8)=4)) else some (decide ((Int.tmod a1.kind 8)=5))):Option Bool).bind fun x30=>(((if x30=true then (if (a0.nonterminals.length:Int)≠0 then some (.inl (⟨(IntKind.wrap .i64 ((IntKind.wrap .i64 (3+IntKind.wrap .i64 (Int.tmod a1.kind 8))) - 4)),0,0,0,(Int.tmod (IntKind.wrap .i64 a1.a) (a0.nonterminals.length:Int)),0,([(Int.tmod (IntKind.wrap .i64 a1.b) 9)]:List Int),y1⟩:aA)) else none) else (if (decide ((Int.tmod a1.kind 8)=6))=true then some (.inl (⟨5,0,0,0,0,0,([5]:List Int),y1⟩:aA)) else (if (([]:List aL).length+a0.tokens.length)*112≤140737488355328 then (if (0:Int)≤(Int.tmod (IntKind.wrap .i64 a1.a) 9)∧(Int.tmod (IntKind.wrap .i64 a1.a) 9) < (a0.tokens.length:Int) then some (.inr (⟨a0.conditions,a0.family,(a0.tokens.set (Int.toNat (Int.tmod (IntKind.wrap .i64 a1.a) 9)) (⟨(a0.tokens.getD (Int.toNat (Int.tmod (IntKind.wrap .i64 a1.a) 9)) default).name,(a0.tokens.getD (Int.toNat (Int.tmod (IntKind.wrap .i64 a1.a) 9)) default).classF,(a0.tokens.getD (Int.toNat (Int.tmod (IntKind.wrap .i64 a1.a) 9)) default).literal,(a0.tokens.getD (Int.toNat (Int.tmod (IntKind.wrap .i64 a1.a) 9)) default).pattern,(a0.tokens.getD (Int.toNat (Int.tmod (IntKind.wrap .i64 a1.a) 9)) default).sample,y1⟩:aL)),a0.nonterminals,a0.productions,a0.start,a0.levels,a0.filters⟩:am)) else none) else none))):Option (aA⊕am)).bind fun o36=>match o36 with | .inl x37=>(some (.inl x37)) | .inr r38=>(some (.inr r38))))):Option (aA⊕am)).bind fun o39=>match o39 with | .inl x40=>((eC k a0 x40).bind fun y41=>(((if y41=true then (if (([]:List aA).length+a0.filters.length)*104≤140737488355328 then (if (a0.filters.length+([x40]:List aA).length)*104≤140737488355328 then some (⟨a0.conditions,a0.family,a0.tokens,a0.nonterminals,a0.productions,a0.start,a0.levels,(a0.filters++([x40]:List aA))⟩:am) else none) else none) else some a0):Option am).bind fun x47=>some x47)) | .inr r48=>(some r48))))) else none))
set_option maxRecDepth 100000 in
set_option maxHeartbeats 4000000 in
theorem oj (k:Nat)(a0:am)(a1:oz)(r:am)(h:dM k a0 a1=some r):SC P 42 [.agg (ah a0),.agg (cR a1)] [] (.agg (ah r)) []:=by
 unfold dM at h
 refine SC.intro3 (N:=156) Tryz.func42 rfl rfl Tryz.ntmps42 rfl ?_
 refine aa.sr (ab.evn (h':=[.live (.var (ah a0)),.live (.var (cR a1)),.live (.var [.nsl,.nsl,di 0,.nsl,.nsl,.nsl,di 0,.nsl,.nsl])]) [0,0,0] [(2,.ptr 0 0),(3,.ptr 1 0),(4,.ptr 2 0)] [] ?_)
 refine aa.seq ?_
 refine ao h fun y1 hy1 h=>?_
 refine aa.region (ab.ev0 [0,0,0,0,0] [(12,.d (.int .u8 a1.ifF)),(15,di (a0.conditions.length:Int))] [] ?_)
 refine ab.step (v:=.agg (an y1)) (ae.callS [] (nA k a1.ifF (a0.conditions.length:Int) _ hy1) rfl rfl ⟨rfl,rfl,trivial⟩ (by decide) rfl rfl trivial) rfl rfl rfl ?_
 refine ab.evn (h':=[.live (.var (ah a0)),.live (.var (cR a1)),.live (.var [.nsl,.nsl,di 0,.nsl,.nsl,.nsl,di 0,.nsl,.nsl]),.live (.var (an y1))]) [0,0] [(5,.ptr 3 0)] [] ?_
 refine aa.seq ?_
 refine aD h fun hz2 h=>?_
 refine aa.region (ab.ev0 [0,0,0,0,0,0] [(19,di (IntKind.wrap .i64 a1.a)),(22,di (a0.productions.length:Int))] [] ?_)
 refine ab.step (v:=di (Int.tmod (IntKind.wrap .i64 a1.a) (a0.productions.length:Int))) (ae.remI rfl rfl rfl hz2) rfl rfl rfl ?_
 refine ab.ev0n [0] [(6,di (Int.tmod (IntKind.wrap .i64 a1.a) (a0.productions.length:Int)))] [] ?_
 refine aa.sr (ab.evn (h':=[.live (.var (ah a0)),.live (.var (cR a1)),.live (.var [.nsl,.nsl,di 0,.nsl,.nsl,.nsl,di 0,.nsl,.nsl]),.live (.var (an y1)),.live (.var [di 0,di 0,di 0,di 0,di 0,di 0,.nsl,.d (af 3 ag y1.nodes),di y1.root])]) [0,0,0,0] [(7,.ptr 4 0)] [] ?_)
 refine aa.seq ?_
 refine aa.sr (ab.ev0n [0,0,0] [(28,.d (.int .u8 (Int.tmod a1.kind 8)))] [] ?_)
 refine aa.block ?_
 refine aa.seq ?_
 refine aa.sr (ab.ev0n [0,0] [(44,db (decide ((Int.tmod a1.kind 8)=0)))] [] ?_)
 refine ao h fun x5 ho4 h=>?_
 refine aa.cut (Q':=fun e s'=>e = .normal∧s'=⟨[(2,.ptr 0 0),(3,.ptr 1 0),(4,.ptr 2 0),(5,.ptr 3 0),(6,di (Int.tmod (IntKind.wrap .i64 a1.a) (a0.productions.length:Int))),(7,.ptr 4 0),(28,.d (.int .u8 (Int.tmod a1.kind 8))),(44,db x5)],[.live (.var (ah a0)),.live (.var (cR a1)),.live (.var [.nsl,.nsl,di 0,.nsl,.nsl,.nsl,di 0,.nsl,.nsl]),.live (.var (an y1)),.live (.var [di 0,di 0,di 0,di 0,di 0,di 0,.nsl,.d (af 3 ag y1.nodes),di y1.root])]⟩) ?_ ?_
 ·
  have h:=ho4
  refine aa.condI h rfl (fun hc3 h=>?_) (fun hc3 h=>?_)
  ·
   refine aa.skip ?_
   cases h
   exact ⟨_,(GStep.keep [2,3,4,5,6,7,28,44]),rfl,rfl⟩
  refine aa.region (ab.ev0n [0,0] [(44,db (decide ((Int.tmod a1.kind 8)=1)))] [] ?_)
  cases h
  exact ⟨_,(GStep.keep [2,3,4,5,6,7,28,44]),rfl,rfl⟩
 rintro e s' hq
 obtain ⟨rfl,rfl⟩:=hq
 refine aa.condI h rfl (fun hc6 h=>?_) (fun hc6 h=>?_)
 ·
  refine aa.seq ?_
  refine aa.seq ?_
  refine ao h fun y7 hy7 h=>?_
  refine aa.region (ab.ev0 [0,0] [(47,.agg (ah a0)),(48,di (Int.tmod (IntKind.wrap .i64 a1.a) (a0.productions.length:Int)))] [] ?_)
  refine ab.step (v:=db y7) (ae.callS [] (j5 k a0 (Int.tmod (IntKind.wrap .i64 a1.a) (a0.productions.length:Int)) _ hy7) rfl rfl ⟨⟨rfl,rfl,rfl,rfl,rfl,rfl,rfl,rfl,rfl,trivial⟩,rfl,trivial⟩ (by decide) rfl rfl trivial) rfl rfl rfl ?_
  refine ab.ev0n [0] [(50,db (!y7))] [] ?_
  refine ao h fun x22 ho21 h=>?_
  refine aa.cut (Q':=fun e s'=>e = .normal∧s'=⟨[(2,.ptr 0 0),(4,.ptr 1 0)],[.live (.var (ah x22)),.live (.var [.nsl,.nsl,di 0,.nsl,.nsl,.nsl,di 0,.nsl,.nsl])]⟩) ?_ ?_
  ·
   have h:=ho21
   refine aa.condI h rfl (fun hc8 h=>?_) (fun hc8 h=>?_)
   ·
    refine aa.sr (ab.ev0 [0] [(51,di (Int.tmod (IntKind.wrap .i64 a1.a) (a0.productions.length:Int)))] [] ?_)
    refine ab.step (v:=.osl 5 0 (([(Int.tmod (IntKind.wrap .i64 a1.a) (a0.productions.length:Int))]:List Int).length) 1) (ae.unex (ae.bsliceOX [di (Int.tmod (IntKind.wrap .i64 a1.a) (a0.productions.length:Int))] [.d (.int .i64 (Int.tmod (IntKind.wrap .i64 a1.a) (a0.productions.length:Int)))] (row (eI .i64) ([(Int.tmod (IntKind.wrap .i64 a1.a) (a0.productions.length:Int))]:List Int)) rfl dQ nI rfl rfl (by kernel_rfl) ⟨rfl,trivial⟩ (by kernel_rfl) (by kernel_rfl) rfl)) rfl rfl rfl ?_
    refine ab.hp (h':=[.live (.var (ah a0)),.live (.var (cR a1)),.live (.var [.nsl,.nsl,di 0,.nsl,.nsl,.nsl,di 0,.nsl,.nsl]),.live (.var (an y1)),.live (.var [di 0,di 0,di 0,di 0,di 0,di 0,.nsl,.d (af 3 ag y1.nodes),di y1.root]),.live (.arr 1 (([(Int.tmod (IntKind.wrap .i64 a1.a) (a0.productions.length:Int))]:List Int).length) false (row (eI .i64) ([(Int.tmod (IntKind.wrap .i64 a1.a) (a0.productions.length:Int))]:List Int)))]) (by kernel_rfl) ?_
    refine ab.evn (h':=[.live (.var (ah a0)),.live (.var (cR a1)),.live (.var [.nsl,.nsl,di 0,.nsl,.nsl,.nsl,di 0,.nsl,.nsl]),.live (.var (an y1)),.live (.var [di 0,di 0,di 0,di 0,di 0,di 0,.nsl,.d (af 3 ag y1.nodes),di y1.root]),.live (.arr 1 (([(Int.tmod (IntKind.wrap .i64 a1.a) (a0.productions.length:Int))]:List Int).length) false (row (eI .i64) ([(Int.tmod (IntKind.wrap .i64 a1.a) (a0.productions.length:Int))]:List Int))),.live (.var [.osl 5 0 (([(Int.tmod (IntKind.wrap .i64 a1.a) (a0.productions.length:Int))]:List Int).length) 1,di (IntKind.wrap .i64 (Int.tmod a1.c 4)),.d (af 3 ag y1.nodes),di y1.root])]) [0,0,0,0,0,0,0,0] [(8,.ptr 6 0)] [] ?_
    refine aa.seq ?_
    refine aD h fun hz9 h=>?_
    refine aa.region (ab.ev0 [0,0,0,0,0,0] [(61,di (IntKind.wrap .i64 a1.b)),(64,di (a0.productions.length:Int))] [] ?_)
    refine ab.step (v:=di (Int.tmod (IntKind.wrap .i64 a1.b) (a0.productions.length:Int))) (ae.remI rfl rfl rfl hz9) rfl rfl rfl ?_
    refine ab.ev0n [0] [(9,di (Int.tmod (IntKind.wrap .i64 a1.b) (a0.productions.length:Int)))] [] ?_
    refine aa.seq ?_
    refine aa.seq ?_
    refine ao h fun x13 ho12 h=>?_
    refine aa.cut (Q':=fun e s'=>e = .normal∧s'=⟨[(2,.ptr 0 0),(4,.ptr 1 0),(8,.ptr 2 0),(9,di (Int.tmod (IntKind.wrap .i64 a1.b) (a0.productions.length:Int))),(74,db x13)],[.live (.var (ah a0)),.live (.var [.nsl,.nsl,di 0,.nsl,.nsl,.nsl,di 0,.nsl,.nsl]),.live (.var [.osl 3 0 (([(Int.tmod (IntKind.wrap .i64 a1.a) (a0.productions.length:Int))]:List Int).length) 1,di (IntKind.wrap .i64 (Int.tmod a1.c 4)),.d (af 3 ag y1.nodes),di y1.root]),.live (.arr 1 (([(Int.tmod (IntKind.wrap .i64 a1.a) (a0.productions.length:Int))]:List Int).length) false (row (eI .i64) ([(Int.tmod (IntKind.wrap .i64 a1.a) (a0.productions.length:Int))]:List Int)))]⟩) ?_ ?_
    ·
     have h:=ho12
     refine au h (fun hc10 h=>?_) (fun hc10 h=>?_)
     ·
      refine ao h fun y11 hy11 h=>?_
      refine aa.region (ab.ev0 [0,0,0,0,3,3] [(69,db (!decide ((Int.tmod (IntKind.wrap .i64 a1.b) (a0.productions.length:Int))=(Int.tmod (IntKind.wrap .i64 a1.a) (a0.productions.length:Int))))),(70,.agg (ah a0)),(71,di (Int.tmod (IntKind.wrap .i64 a1.b) (a0.productions.length:Int)))] [⟨_,hc10⟩,⟨_,hc10⟩] ?_)
      refine ab.gstep (v:=db y11) (ae.callS [] (j5 k a0 (Int.tmod (IntKind.wrap .i64 a1.b) (a0.productions.length:Int)) _ hy11) rfl rfl ⟨⟨rfl,rfl,rfl,rfl,rfl,rfl,rfl,rfl,rfl,trivial⟩,rfl,trivial⟩ (by decide) rfl rfl trivial) rfl rfl rfl hc10 rfl rfl ?_
      refine ab.ev0n [3,10] [(74,db (!y11))] [⟨_,hc10⟩,⟨_,hc10⟩] ?_
      cases h
      exact ⟨_,(GStep.trans (GStep.keep [2,4,8,9,74]) (GStep.ren [0,2,6,5] (by decide) rfl rfl)),rfl,rfl⟩
     refine aa.region (ab.ev0n [0,0,0,0,2,0,0,0,0] [(74,db false)] [⟨_,hc10⟩] ?_)
     cases h
     exact ⟨_,(GStep.trans (GStep.keep [2,4,8,9,74]) (GStep.ren [0,2,6,5] (by decide) rfl rfl)),rfl,rfl⟩
    rintro e s' hq
    obtain ⟨rfl,rfl⟩:=hq
    refine ao h fun x17 ho16 h=>?_
    refine aa.cut (Q':=fun e s'=>e = .normal∧s'=⟨[(2,.ptr 0 0),(4,.ptr 1 0),(8,.ptr 2 0)],[.live (.var (ah a0)),.live (.var [.nsl,.nsl,di 0,.nsl,.nsl,.nsl,di 0,.nsl,.nsl]),.live (.var [.osl 3 0 x17.length 1,di (IntKind.wrap .i64 (Int.tmod a1.c 4)),.d (af 3 ag y1.nodes),di y1.root]),.live (.arr 1 x17.length false (row (eI .i64) x17))]⟩) ?_ ?_
    ·
     have h:=ho16
     refine aa.condI h rfl (fun hc14 h=>?_) (fun hc14 h=>?_)
     ·
      refine aD h fun hz15 h=>?_
      refine aa.region (ab.ev0 [0,0,0] [(76,.osl 3 0 (([(Int.tmod (IntKind.wrap .i64 a1.a) (a0.productions.length:Int))]:List Int).length) 1),(77,di (Int.tmod (IntKind.wrap .i64 a1.b) (a0.productions.length:Int)))] [] ?_)
      refine ab.step (v:=.d (af 1 (eI .i64) ([(Int.tmod (IntKind.wrap .i64 a1.b) (a0.productions.length:Int))]:List Int))) (ae.bsliceX [di (Int.tmod (IntKind.wrap .i64 a1.b) (a0.productions.length:Int))] [.d (.int .i64 (Int.tmod (IntKind.wrap .i64 a1.b) (a0.productions.length:Int)))] (row (eI .i64) ([(Int.tmod (IntKind.wrap .i64 a1.b) (a0.productions.length:Int))]:List Int)) rfl dQ nI rfl rfl (by kernel_rfl) ⟨rfl,trivial⟩ (by kernel_rfl) (by kernel_rfl)) rfl rfl rfl ?_
      refine ab.step (v:=.osl 4 0 ((([(Int.tmod (IntKind.wrap .i64 a1.a) (a0.productions.length:Int))]:List Int)++([(Int.tmod (IntKind.wrap .i64 a1.b) (a0.productions.length:Int))]:List Int)).length) 1) (ae.appTn (eI .i64) ([(Int.tmod (IntKind.wrap .i64 a1.a) (a0.productions.length:Int))]:List Int) ([(Int.tmod (IntKind.wrap .i64 a1.b) (a0.productions.length:Int))]:List Int) rfl rfl rfl rfl rfl dQ zw Aa rfl hz15) rfl rfl rfl ?_
      refine ab.hp (h':=[.live (.var (ah a0)),.live (.var [.nsl,.nsl,di 0,.nsl,.nsl,.nsl,di 0,.nsl,.nsl]),.live (.var [.osl 3 0 (([(Int.tmod (IntKind.wrap .i64 a1.a) (a0.productions.length:Int))]:List Int).length) 1,di (IntKind.wrap .i64 (Int.tmod a1.c 4)),.d (af 3 ag y1.nodes),di y1.root]),.freed,.live (.arr 1 ((([(Int.tmod (IntKind.wrap .i64 a1.a) (a0.productions.length:Int))]:List Int)++([(Int.tmod (IntKind.wrap .i64 a1.b) (a0.productions.length:Int))]:List Int)).length) false (row (eI .i64) (([(Int.tmod (IntKind.wrap .i64 a1.a) (a0.productions.length:Int))]:List Int)++([(Int.tmod (IntKind.wrap .i64 a1.b) (a0.productions.length:Int))]:List Int))))]) (by kernel_rfl) ?_
      refine ab.evn (h':=[.live (.var (ah a0)),.live (.var [.nsl,.nsl,di 0,.nsl,.nsl,.nsl,di 0,.nsl,.nsl]),.live (.var [.osl 4 0 ((([(Int.tmod (IntKind.wrap .i64 a1.a) (a0.productions.length:Int))]:List Int)++([(Int.tmod (IntKind.wrap .i64 a1.b) (a0.productions.length:Int))]:List Int)).length) 1,di (IntKind.wrap .i64 (Int.tmod a1.c 4)),.d (af 3 ag y1.nodes),di y1.root]),.freed,.live (.arr 1 ((([(Int.tmod (IntKind.wrap .i64 a1.a) (a0.productions.length:Int))]:List Int)++([(Int.tmod (IntKind.wrap .i64 a1.b) (a0.productions.length:Int))]:List Int)).length) false (row (eI .i64) (([(Int.tmod (IntKind.wrap .i64 a1.a) (a0.productions.length:Int))]:List Int)++([(Int.tmod (IntKind.wrap .i64 a1.b) (a0.productions.length:Int))]:List Int))))]) [0,0] [] [] ?_
      cases h
      exact ⟨_,(GStep.trans (GStep.keep [2,4,8]) (GStep.ren [0,1,2,4] (by decide) rfl rfl)),rfl,rfl⟩
     refine aa.skip ?_
     cases h
     exact ⟨_,(GStep.keep [2,4,8]),rfl,rfl⟩
    rintro e s' hq
    obtain ⟨rfl,rfl⟩:=hq
    refine aD h fun hz18 h=>?_
    refine aD h fun hz19 h=>?_
    refine aa.ghost (GStep.resv 3) ?_
    refine aa.regionAny mixed (s':=?s20) (qs:=[⟨[],[],[4],[],[4]⟩,⟨[2],[],[],[0],[]⟩,⟨[82],[0],[],[],[]⟩,⟨[81,83],[],[4,5],[],[5]⟩,⟨[8],[2],[],[3],[]⟩,⟨[85],[],[2,3],[],[]⟩,⟨[84,86],[],[5,6],[],[6]⟩,⟨[2],[],[],[0],[]⟩,⟨[87,88],[],[0],[6],[]⟩]) ?_ (by kernel_rfl) ?_
    rotate_left
    ·
     refine Steps.run [] [] [4] [] [4] (v:=.osl 4 0 (([]:List aN).length) 4) (ae.put [4] (ae.unex (ae.bsliceOX [] [] (row aH ([]:List aN)) rfl qg vO rfl rfl (by kernel_rfl) trivial (by kernel_rfl) (by kernel_rfl) rfl)) (by decide) rfl rfl rfl) rfl (by kernel_rfl) (by kernel_rfl) (by kernel_rfl) (by kernel_rfl) ?_
     refine Steps.hp (h':=[.live (.var (ah a0)),.live (.var [.nsl,.nsl,di 0,.nsl,.nsl,.nsl,di 0,.nsl,.nsl]),.live (.var [.osl 3 0 x17.length 1,di (IntKind.wrap .i64 (Int.tmod a1.c 4)),.d (af 3 ag y1.nodes),di y1.root]),.live (.arr 1 x17.length false (row (eI .i64) x17)),.live (.arr 4 (([]:List aN).length) false (row aH ([]:List aN))),.resv,.resv]) rfl ?_
     refine Steps.runQ [2] [] [0] (v:=.ptr 0 7) (ae.fieldAddr (id:=0) (off:=0) (fo:=7) rfl rfl fm rfl rfl) rfl (by kernel_rfl) (by kernel_rfl) ?_
     refine Steps.runQ [82] [0] [] (v:=.d (af 4 aH a0.levels)) (ae.load rfl rfl yG rfl rfl) rfl (by kernel_rfl) (by kernel_rfl) ?_
     refine Steps.run [81,83] [] [4,5] [] [5] (v:=.osl 5 0 a0.levels.length 4) (ae.put [5] (ae.appTn aH ([]:List aN) a0.levels rfl rfl rfl rfl rfl qg yo yz rfl hz18) (by decide) rfl rfl rfl) rfl (by kernel_rfl) (by kernel_rfl) (by kernel_rfl) (by kernel_rfl) ?_
     refine Steps.hp (h':=[.live (.var (ah a0)),.live (.var [.nsl,.nsl,di 0,.nsl,.nsl,.nsl,di 0,.nsl,.nsl]),.live (.var [.osl 3 0 x17.length 1,di (IntKind.wrap .i64 (Int.tmod a1.c 4)),.d (af 3 ag y1.nodes),di y1.root]),.live (.arr 1 x17.length false (row (eI .i64) x17)),.freed,.live (.arr 4 a0.levels.length false (row aH a0.levels)),.resv]) rfl ?_
     refine Steps.runQ [8] [2] [3] (ae.loadA rfl rfl Ak rfl rfl) rfl (by kernel_rfl) (by kernel_rfl) ?_
     refine Steps.run [85] [] [2,3] [] [] (v:=.d (af 4 aH ([(⟨x17,IntKind.wrap .i64 (Int.tmod a1.c 4),y1⟩:aN)]:List aN))) (ae.gh (GStep.shutG 3 rfl (by repeat' (first | trivial | (intro _; exact ⟨Nat.le_of_eq (Nat.zero_add _),rfl⟩) | (intro h; exact absurd h (by decide)) | refine ⟨?_,?_⟩)) (by repeat' (first | trivial | (intro _; exact ⟨Nat.le_of_eq (Nat.zero_add _),rfl⟩) | (intro h; exact absurd h (by decide)) | refine ⟨?_,?_⟩))) (ae.bsliceX [.d (af 1 (eI .i64) x17),di (IntKind.wrap .i64 (Int.tmod a1.c 4)),.d (af 3 ag y1.nodes),di y1.root] [.d (af 1 (eI .i64) x17),.d (.int .i64 (IntKind.wrap .i64 (Int.tmod a1.c 4))),.d (af 3 ag y1.nodes),.d (.int .i64 y1.root)] (row aH ([(⟨x17,IntKind.wrap .i64 (Int.tmod a1.c 4),y1⟩:aN)]:List aN)) rfl qg vO rfl rfl (by kernel_rfl) ⟨rfl,rfl,rfl,rfl,trivial⟩ (by kernel_rfl) (by kernel_rfl))) rfl (by kernel_rfl) (by kernel_rfl) (by kernel_rfl) (by kernel_rfl) ?_
     refine Steps.hp (h':=[.live (.var (ah a0)),.live (.var [.nsl,.nsl,di 0,.nsl,.nsl,.nsl,di 0,.nsl,.nsl]),.live (.var (lE (⟨x17,IntKind.wrap .i64 (Int.tmod a1.c 4),y1⟩:aN))),.freed,.freed,.live (.arr 4 a0.levels.length false (row aH a0.levels)),.resv]) rfl ?_
     refine Steps.run [84,86] [] [5,6] [] [6] (v:=.osl 6 0 ((a0.levels++([(⟨x17,IntKind.wrap .i64 (Int.tmod a1.c 4),y1⟩:aN)]:List aN)).length) 4) (ae.put [6] (ae.appTn aH a0.levels ([(⟨x17,IntKind.wrap .i64 (Int.tmod a1.c 4),y1⟩:aN)]:List aN) rfl rfl rfl rfl rfl qg yo yz rfl hz19) (by decide) rfl rfl rfl) rfl (by kernel_rfl) (by kernel_rfl) (by kernel_rfl) (by kernel_rfl) ?_
     refine Steps.hp (h':=[.live (.var (ah a0)),.live (.var [.nsl,.nsl,di 0,.nsl,.nsl,.nsl,di 0,.nsl,.nsl]),.live (.var (lE (⟨x17,IntKind.wrap .i64 (Int.tmod a1.c 4),y1⟩:aN))),.freed,.freed,.freed,.live (.arr 4 ((a0.levels++([(⟨x17,IntKind.wrap .i64 (Int.tmod a1.c 4),y1⟩:aN)]:List aN)).length) false (row aH (a0.levels++([(⟨x17,IntKind.wrap .i64 (Int.tmod a1.c 4),y1⟩:aN)]:List aN))))]) rfl ?_
     refine Steps.runQ [2] [] [0] (v:=.ptr 0 7) (ae.fieldAddr (id:=0) (off:=0) (fo:=7) rfl rfl fm rfl rfl) rfl (by kernel_rfl) (by kernel_rfl) ?_
     refine Steps.run [87,88] [] [0] [6] [] (ae.store rfl rfl rfl yG rfl rfl rfl rfl rfl) rfl (by kernel_rfl) (by kernel_rfl) (by kernel_rfl) (by kernel_rfl) ?_
     refine Steps.hp (h':=[.live (.var [.d (af 1 eS a0.conditions),.d (af 3 ag a0.family.nodes),di a0.family.root,.d (af 7 aE a0.tokens),.d (af 1 eS a0.nonterminals),.d (af 13 aq a0.productions),di a0.start,.osl 6 0 ((a0.levels++([(⟨x17,IntKind.wrap .i64 (Int.tmod a1.c 4),y1⟩:aN)]:List aN)).length) 4,.d (af 9 aC a0.filters)]),.live (.var [.nsl,.nsl,di 0,.nsl,.nsl,.nsl,di 0,.nsl,.nsl]),.live (.var (lE (⟨x17,IntKind.wrap .i64 (Int.tmod a1.c 4),y1⟩:aN))),.freed,.freed,.freed,.live (.arr 4 ((a0.levels++([(⟨x17,IntKind.wrap .i64 (Int.tmod a1.c 4),y1⟩:aN)]:List aN)).length) false (row aH (a0.levels++([(⟨x17,IntKind.wrap .i64 (Int.tmod a1.c 4),y1⟩:aN)]:List aN))))]) rfl ?_
     exact Steps.nil _
    cases h
    exact ⟨_,(GStep.trans (GStep.keep [2,4]) (GStep.trans (GStep.shutG 6 rfl ⟨trivial,trivial,trivial⟩ ⟨⟨trivial,trivial,trivial,trivial,trivial,trivial,trivial,(fun _=>⟨Nat.le_of_eq (Nat.zero_add _),rfl⟩),trivial,trivial⟩,⟨trivial,trivial,trivial,trivial,trivial,trivial,trivial,trivial,trivial,trivial⟩,⟨trivial,trivial,trivial,trivial,trivial⟩,trivial,trivial,trivial,trivial,trivial⟩) (GStep.ren [0,1] (by decide) rfl rfl))),rfl,rfl⟩
   refine aa.skip ?_
   cases h
   exact ⟨_,(GStep.trans (GStep.keep [2,4]) (GStep.ren [0,2] (by decide) rfl rfl)),rfl,rfl⟩
  rintro e s' hq
  obtain ⟨rfl,rfl⟩:=hq
  refine aa.sr (ab.evn (h':=[.live (.var (ah x22)),.live (.var (ah x22))]) [0,0] [] [] ?_)
  refine aa.ret ?_
  cases h
  exact ⟨_,(GStep.trans (GStep.keep [4]) (GStep.ren [1] (by decide) rfl rfl)),.inr rfl,Fin.mk2 (aB.one (.cellA rfl en rfl rfl)) [] (by decide) rfl rfl rfl ⟨rfl,rfl,rfl,rfl,rfl,rfl,rfl,rfl,rfl,trivial⟩⟩
 refine aa.seq ?_
 refine aa.sr (ab.ev0n [0,0] [(90,db (decide ((Int.tmod a1.kind 8)=2)))] [] ?_)
 refine ao h fun x25 ho24 h=>?_
 refine aa.cut (Q':=fun e s'=>e = .normal∧s'=⟨[(2,.ptr 0 0),(3,.ptr 1 0),(4,.ptr 2 0),(5,.ptr 3 0),(6,di (Int.tmod (IntKind.wrap .i64 a1.a) (a0.productions.length:Int))),(7,.ptr 4 0),(28,.d (.int .u8 (Int.tmod a1.kind 8))),(90,db x25)],[.live (.var (ah a0)),.live (.var (cR a1)),.live (.var [.nsl,.nsl,di 0,.nsl,.nsl,.nsl,di 0,.nsl,.nsl]),.live (.var (an y1)),.live (.var [di 0,di 0,di 0,di 0,di 0,di 0,.nsl,.d (af 3 ag y1.nodes),di y1.root])]⟩) ?_ ?_
 ·
  have h:=ho24
  refine aa.condI h rfl (fun hc23 h=>?_) (fun hc23 h=>?_)
  ·
   refine aa.skip ?_
   cases h
   exact ⟨_,(GStep.keep [2,3,4,5,6,7,28,90]),rfl,rfl⟩
  refine aa.region (ab.ev0n [0,0] [(90,db (decide ((Int.tmod a1.kind 8)=3)))] [] ?_)
  cases h
  exact ⟨_,(GStep.keep [2,3,4,5,6,7,28,90]),rfl,rfl⟩
 rintro e s' hq
 obtain ⟨rfl,rfl⟩:=hq
 refine ao h fun o39 ho39 h=>?_
 refine aa.cut (Q':=fun e s'=>match o39 with | .inl x40=>(e = .normal∧s'=⟨[(2,.ptr 0 0),(4,.ptr 1 0),(7,.ptr 2 0)],[.live (.var (ah a0)),.live (.var [.nsl,.nsl,di 0,.nsl,.nsl,.nsl,di 0,.nsl,.nsl]),.live (.var (aW x40))]⟩) | .inr r48=>((e = .ret)∧Fin P (Tryz.f42.results) 0 [] (.agg (ah r48)) s')) ?_ ?_
 ·
  have h:=ho39
  refine aa.condI h rfl (fun hc26 h=>?_) (fun hc26 h=>?_)
  ·
   refine aa.sr (ab.evn (h':=[.live (.var (ah a0)),.live (.var (cR a1)),.live (.var [.nsl,.nsl,di 0,.nsl,.nsl,.nsl,di 0,.nsl,.nsl]),.live (.var (an y1)),.live (.var [di (IntKind.wrap .i64 ((IntKind.wrap .i64 (1+IntKind.wrap .i64 (Int.tmod a1.kind 8))) - 2)),di 0,di 0,di 0,di 0,di 0,.nsl,.d (af 3 ag y1.nodes),di y1.root])]) [0,0,0,0,0,0,0,0] [] [] ?_)
   refine aa.sr (ab.evn (h':=[.live (.var (ah a0)),.live (.var (cR a1)),.live (.var [.nsl,.nsl,di 0,.nsl,.nsl,.nsl,di 0,.nsl,.nsl]),.live (.var (an y1)),.live (.var [di (IntKind.wrap .i64 ((IntKind.wrap .i64 (1+IntKind.wrap .i64 (Int.tmod a1.kind 8))) - 2)),di (Int.tmod (IntKind.wrap .i64 a1.a) (a0.productions.length:Int)),di 0,di 0,di 0,di 0,.nsl,.d (af 3 ag y1.nodes),di y1.root])]) [0,0,0] [] [] ?_)
   refine aa.sr (ab.evn (h':=[.live (.var (ah a0)),.live (.var (cR a1)),.live (.var [.nsl,.nsl,di 0,.nsl,.nsl,.nsl,di 0,.nsl,.nsl]),.live (.var (an y1)),.live (.var [di (IntKind.wrap .i64 ((IntKind.wrap .i64 (1+IntKind.wrap .i64 (Int.tmod a1.kind 8))) - 2)),di (Int.tmod (IntKind.wrap .i64 a1.a) (a0.productions.length:Int)),di (Int.tmod (IntKind.wrap .i64 a1.c) 16),di 0,di 0,di 0,.nsl,.d (af 3 ag y1.nodes),di y1.root])]) [0,0,0,0,0,0] [] [] ?_)
   refine aD h fun hz27 h=>?_
   refine aa.region (ab.ev0 [0,0,0,0,0,0] [(109,di (IntKind.wrap .i64 a1.b)),(112,di (a0.productions.length:Int))] [] ?_)
   refine ab.step (v:=di (Int.tmod (IntKind.wrap .i64 a1.b) (a0.productions.length:Int))) (ae.remI rfl rfl rfl hz27) rfl rfl rfl ?_
   refine ab.evn (h':=[.live (.var (ah a0)),.live (.var (cR a1)),.live (.var [.nsl,.nsl,di 0,.nsl,.nsl,.nsl,di 0,.nsl,.nsl]),.live (.var (an y1)),.live (.var [di (IntKind.wrap .i64 ((IntKind.wrap .i64 (1+IntKind.wrap .i64 (Int.tmod a1.kind 8))) - 2)),di (Int.tmod (IntKind.wrap .i64 a1.a) (a0.productions.length:Int)),di (Int.tmod (IntKind.wrap .i64 a1.c) 16),di (Int.tmod (IntKind.wrap .i64 a1.b) (a0.productions.length:Int)),di 0,di 0,.nsl,.d (af 3 ag y1.nodes),di y1.root])]) [0,0] [] [] ?_
   cases h
   exact ⟨_,(GStep.trans (GStep.keep [2,4,7]) (GStep.trans (GStep.ren [0,2,4] (by decide) rfl rfl) (GStep.sub (s':=⟨[(2,.ptr 0 0),(4,.ptr 1 0),(7,.ptr 2 0)],[.live (.var (ah a0)),.live (.var [.nsl,.nsl,di 0,.nsl,.nsl,.nsl,di 0,.nsl,.nsl]),.live (.var (aW (⟨(IntKind.wrap .i64 ((IntKind.wrap .i64 (1+IntKind.wrap .i64 (Int.tmod a1.kind 8))) - 2)),(Int.tmod (IntKind.wrap .i64 a1.a) (a0.productions.length:Int)),(Int.tmod (IntKind.wrap .i64 a1.c) 16),(Int.tmod (IntKind.wrap .i64 a1.b) (a0.productions.length:Int)),0,0,[],y1⟩:aA)))]⟩) ⟨⟨rfl,aF.refl _⟩,⟨rfl,aF.refl _⟩,⟨rfl,aF.refl _⟩,trivial⟩ ⟨⟨aF.refl _,aF.refl _,aF.refl _,aF.refl _,aF.refl _,aF.refl _,aF.refl _,aF.refl _,aF.refl _,trivial⟩,⟨aF.refl _,aF.refl _,aF.refl _,aF.refl _,aF.refl _,aF.refl _,aF.refl _,aF.refl _,aF.refl _,trivial⟩,⟨aF.refl _,aF.refl _,aF.refl _,aF.refl _,aF.refl _,aF.refl _,trivial,aF.refl _,aF.refl _,trivial⟩,trivial⟩))),rfl,rfl⟩
  refine aa.seq ?_
  refine aa.sr (ab.ev0n [0,0] [(115,db (decide ((Int.tmod a1.kind 8)=4)))] [] ?_)
  refine ao h fun x30 ho29 h=>?_
  refine aa.cut (Q':=fun e s'=>e = .normal∧s'=⟨[(2,.ptr 0 0),(3,.ptr 1 0),(4,.ptr 2 0),(5,.ptr 3 0),(7,.ptr 4 0),(28,.d (.int .u8 (Int.tmod a1.kind 8))),(115,db x30)],[.live (.var (ah a0)),.live (.var (cR a1)),.live (.var [.nsl,.nsl,di 0,.nsl,.nsl,.nsl,di 0,.nsl,.nsl]),.live (.var (an y1)),.live (.var [di 0,di 0,di 0,di 0,di 0,di 0,.nsl,.d (af 3 ag y1.nodes),di y1.root])]⟩) ?_ ?_
  ·
   have h:=ho29
   refine aa.condI h rfl (fun hc28 h=>?_) (fun hc28 h=>?_)
   ·
    refine aa.skip ?_
    cases h
    exact ⟨_,(GStep.keep [2,3,4,5,7,28,115]),rfl,rfl⟩
   refine aa.region (ab.ev0n [0,0] [(115,db (decide ((Int.tmod a1.kind 8)=5)))] [] ?_)
   cases h
   exact ⟨_,(GStep.keep [2,3,4,5,7,28,115]),rfl,rfl⟩
  rintro e s' hq
  obtain ⟨rfl,rfl⟩:=hq
  refine ao h fun o36 ho36 h=>?_
  refine aa.cut (Q':=fun e s'=>match o36 with | .inl x37=>(e = .normal∧s'=⟨[(2,.ptr 0 0),(4,.ptr 1 0),(7,.ptr 2 0)],[.live (.var (ah a0)),.live (.var [.nsl,.nsl,di 0,.nsl,.nsl,.nsl,di 0,.nsl,.nsl]),.live (.var (aW x37))]⟩) | .inr r38=>((e = .ret)∧Fin P (Tryz.f42.results) 0 [] (.agg (ah r38)) s')) ?_ ?_
  ·
   have h:=ho36
   refine aa.condI h rfl (fun hc31 h=>?_) (fun hc31 h=>?_)
   ·
    refine aa.sr (ab.evn (h':=[.live (.var (ah a0)),.live (.var (cR a1)),.live (.var [.nsl,.nsl,di 0,.nsl,.nsl,.nsl,di 0,.nsl,.nsl]),.live (.var (an y1)),.live (.var [di (IntKind.wrap .i64 ((IntKind.wrap .i64 (3+IntKind.wrap .i64 (Int.tmod a1.kind 8))) - 4)),di 0,di 0,di 0,di 0,di 0,.nsl,.d (af 3 ag y1.nodes),di y1.root])]) [0,0,0,0,0,0,0,0] [] [] ?_)
    refine aa.seq ?_
    refine aD h fun hz32 h=>?_
    refine aa.region (ab.ev0 [0,0,0,0,0,0] [(127,di (IntKind.wrap .i64 a1.a)),(130,di (a0.nonterminals.length:Int))] [] ?_)
    refine ab.step (v:=di (Int.tmod (IntKind.wrap .i64 a1.a) (a0.nonterminals.length:Int))) (ae.remI rfl rfl rfl hz32) rfl rfl rfl ?_
    refine ab.evn (h':=[.live (.var (ah a0)),.live (.var (cR a1)),.live (.var [.nsl,.nsl,di 0,.nsl,.nsl,.nsl,di 0,.nsl,.nsl]),.live (.var (an y1)),.live (.var [di (IntKind.wrap .i64 ((IntKind.wrap .i64 (3+IntKind.wrap .i64 (Int.tmod a1.kind 8))) - 4)),di 0,di 0,di 0,di (Int.tmod (IntKind.wrap .i64 a1.a) (a0.nonterminals.length:Int)),di 0,.nsl,.d (af 3 ag y1.nodes),di y1.root])]) [0,0] [] [] ?_
    refine aa.region (ab.ev0 [0,0,0,0] [(136,di (Int.tmod (IntKind.wrap .i64 a1.b) 9))] [] ?_)
    refine ab.step (v:=.d (af 1 (eI .i64) ([(Int.tmod (IntKind.wrap .i64 a1.b) 9)]:List Int))) (ae.bsliceX [di (Int.tmod (IntKind.wrap .i64 a1.b) 9)] [.d (.int .i64 (Int.tmod (IntKind.wrap .i64 a1.b) 9))] (row (eI .i64) ([(Int.tmod (IntKind.wrap .i64 a1.b) 9)]:List Int)) rfl dQ nI rfl rfl (by kernel_rfl) ⟨rfl,trivial⟩ (by kernel_rfl) (by kernel_rfl)) rfl rfl rfl ?_
    refine ab.evn (h':=[.live (.var (ah a0)),.live (.var (cR a1)),.live (.var [.nsl,.nsl,di 0,.nsl,.nsl,.nsl,di 0,.nsl,.nsl]),.live (.var (an y1)),.live (.var (aW (⟨(IntKind.wrap .i64 ((IntKind.wrap .i64 (3+IntKind.wrap .i64 (Int.tmod a1.kind 8))) - 4)),0,0,0,(Int.tmod (IntKind.wrap .i64 a1.a) (a0.nonterminals.length:Int)),0,([(Int.tmod (IntKind.wrap .i64 a1.b) 9)]:List Int),y1⟩:aA)))]) [0,0] [] [] ?_
    cases h
    exact ⟨_,(GStep.trans (GStep.keep [2,4,7]) (GStep.ren [0,2,4] (by decide) rfl rfl)),rfl,rfl⟩
   refine aa.sr (ab.ev0n [0,0] [(139,db (decide ((Int.tmod a1.kind 8)=6)))] [] ?_)
   refine aa.condI h rfl (fun hc33 h=>?_) (fun hc33 h=>?_)
   ·
    refine aa.sr (ab.evn (h':=[.live (.var (ah a0)),.live (.var (cR a1)),.live (.var [.nsl,.nsl,di 0,.nsl,.nsl,.nsl,di 0,.nsl,.nsl]),.live (.var (an y1)),.live (.var [di 5,di 0,di 0,di 0,di 0,di 0,.nsl,.d (af 3 ag y1.nodes),di y1.root])]) [0,0] [] [] ?_)
    refine aa.region ?_
    refine ab.step (v:=.d (af 1 (eI .i64) ([5]:List Int))) (ae.bsliceX [di 5] [.d (.int .i64 5)] (row (eI .i64) ([5]:List Int)) rfl dQ nI rfl rfl (by kernel_rfl) ⟨rfl,trivial⟩ (by kernel_rfl) (by kernel_rfl)) rfl rfl rfl ?_
    refine ab.evn (h':=[.live (.var (ah a0)),.live (.var (cR a1)),.live (.var [.nsl,.nsl,di 0,.nsl,.nsl,.nsl,di 0,.nsl,.nsl]),.live (.var (an y1)),.live (.var (aW (⟨5,0,0,0,0,0,([5]:List Int),y1⟩:aA)))]) [0,0] [] [] ?_
    cases h
    exact ⟨_,(GStep.trans (GStep.keep [2,4,7]) (GStep.ren [0,2,4] (by decide) rfl rfl)),rfl,rfl⟩
   refine aa.seq ?_
   refine aD h fun hz34 h=>?_
   refine aa.region ?_
   refine ab.step (v:=.osl 5 0 (([]:List aL).length) 7) (ae.unex (ae.bsliceOX [] [] (row aE ([]:List aL)) rfl n6 yK rfl rfl (by kernel_rfl) trivial (by kernel_rfl) (by kernel_rfl) rfl)) rfl rfl rfl ?_
   refine ab.hp (h':=[.live (.var (ah a0)),.live (.var (cR a1)),.live (.var [.nsl,.nsl,di 0,.nsl,.nsl,.nsl,di 0,.nsl,.nsl]),.live (.var (an y1)),.live (.var [di 0,di 0,di 0,di 0,di 0,di 0,.nsl,.d (af 3 ag y1.nodes),di y1.root]),.live (.arr 7 (([]:List aL).length) false (row aE ([]:List aL)))]) (by kernel_rfl) ?_
   refine ab.ev0 [0,0] [(31,.d (af 7 aE a0.tokens))] [] ?_
   refine ab.step (v:=.osl 6 0 a0.tokens.length 7) (ae.appTn aE ([]:List aL) a0.tokens rfl rfl rfl rfl rfl n6 zX z9 rfl hz34) rfl rfl rfl ?_
   refine ab.hp (h':=[.live (.var (ah a0)),.live (.var (cR a1)),.live (.var [.nsl,.nsl,di 0,.nsl,.nsl,.nsl,di 0,.nsl,.nsl]),.live (.var (an y1)),.live (.var [di 0,di 0,di 0,di 0,di 0,di 0,.nsl,.d (af 3 ag y1.nodes),di y1.root]),.freed,.live (.arr 7 a0.tokens.length false (row aE a0.tokens))]) (by kernel_rfl) ?_
   refine ab.ev0n [0] [(10,.osl 6 0 a0.tokens.length 7)] [] ?_
   refine aa.seq ?_
   refine aD h fun hb35 h=>?_
   refine aa.region (ab.ev0 [0,0,0,0,0,0,0,0] [(38,.agg (an y1)),(40,.eptr 6 (Int.toNat (Int.tmod (IntKind.wrap .i64 a1.a) 9)) 5 7)] [⟨_,hb35.1⟩,⟨_,hb35.2⟩] ?_)
   refine ab.step0 (ae.storeN aE a0.tokens (⟨(a0.tokens.getD (Int.toNat (Int.tmod (IntKind.wrap .i64 a1.a) 9)) default).name,(a0.tokens.getD (Int.toNat (Int.tmod (IntKind.wrap .i64 a1.a) 9)) default).classF,(a0.tokens.getD (Int.toNat (Int.tmod (IntKind.wrap .i64 a1.a) 9)) default).literal,(a0.tokens.getD (Int.toNat (Int.tmod (IntKind.wrap .i64 a1.a) 9)) default).pattern,(a0.tokens.getD (Int.toNat (Int.tmod (IntKind.wrap .i64 a1.a) 9)) default).sample,y1⟩:aL) rfl rfl rfl rfl bq rfl (by have:=hb35; omega) rfl rfl rfl rfl rfl rfl ⟨rfl,rfl,rfl,rfl,rfl,rfl,rfl,trivial⟩) rfl rfl ?_
   refine ab.hp (h':=[.live (.var (ah a0)),.live (.var (cR a1)),.live (.var [.nsl,.nsl,di 0,.nsl,.nsl,.nsl,di 0,.nsl,.nsl]),.live (.var (an y1)),.live (.var [di 0,di 0,di 0,di 0,di 0,di 0,.nsl,.d (af 3 ag y1.nodes),di y1.root]),.freed,.live (.arr 7 a0.tokens.length false (row aE (a0.tokens.set (Int.toNat (Int.tmod (IntKind.wrap .i64 a1.a) 9)) (⟨(a0.tokens.getD (Int.toNat (Int.tmod (IntKind.wrap .i64 a1.a) 9)) default).name,(a0.tokens.getD (Int.toNat (Int.tmod (IntKind.wrap .i64 a1.a) 9)) default).classF,(a0.tokens.getD (Int.toNat (Int.tmod (IntKind.wrap .i64 a1.a) 9)) default).literal,(a0.tokens.getD (Int.toNat (Int.tmod (IntKind.wrap .i64 a1.a) 9)) default).pattern,(a0.tokens.getD (Int.toNat (Int.tmod (IntKind.wrap .i64 a1.a) 9)) default).sample,y1⟩:aL))))]) (by kernel_rfl) ?_
   refine ab.nil ?_
   refine aa.sr (ab.evn (h':=[.live (.var [.d (af 1 eS a0.conditions),.d (af 3 ag a0.family.nodes),di a0.family.root,.osl 6 0 a0.tokens.length 7,.d (af 1 eS a0.nonterminals),.d (af 13 aq a0.productions),di a0.start,.d (af 4 aH a0.levels),.d (af 9 aC a0.filters)]),.live (.var (cR a1)),.live (.var [.nsl,.nsl,di 0,.nsl,.nsl,.nsl,di 0,.nsl,.nsl]),.live (.var (an y1)),.live (.var [di 0,di 0,di 0,di 0,di 0,di 0,.nsl,.d (af 3 ag y1.nodes),di y1.root]),.freed,.live (.arr 7 a0.tokens.length false (row aE (a0.tokens.set (Int.toNat (Int.tmod (IntKind.wrap .i64 a1.a) 9)) (⟨(a0.tokens.getD (Int.toNat (Int.tmod (IntKind.wrap .i64 a1.a) 9)) default).name,(a0.tokens.getD (Int.toNat (Int.tmod (IntKind.wrap .i64 a1.a) 9)) default).classF,(a0.tokens.getD (Int.toNat (Int.tmod (IntKind.wrap .i64 a1.a) 9)) default).literal,(a0.tokens.getD (Int.toNat (Int.tmod (IntKind.wrap .i64 a1.a) 9)) default).pattern,(a0.tokens.getD (Int.toNat (Int.tmod (IntKind.wrap .i64 a1.a) 9)) default).sample,y1⟩:aL))))]) [0,0,0] [] [] ?_)
   refine aa.sr (ab.evn (h':=[.live (.var [.d (af 1 eS a0.conditions),.d (af 3 ag a0.family.nodes),di a0.family.root,.osl 6 0 a0.tokens.length 7,.d (af 1 eS a0.nonterminals),.d (af 13 aq a0.productions),di a0.start,.d (af 4 aH a0.levels),.d (af 9 aC a0.filters)]),.live (.var (cR a1)),.live (.var [.d (af 1 eS a0.conditions),.d (af 3 ag a0.family.nodes),di a0.family.root,.osl 6 0 a0.tokens.length 7,.d (af 1 eS a0.nonterminals),.d (af 13 aq a0.productions),di a0.start,.d (af 4 aH a0.levels),.d (af 9 aC a0.filters)]),.live (.var (an y1)),.live (.var [di 0,di 0,di 0,di 0,di 0,di 0,.nsl,.d (af 3 ag y1.nodes),di y1.root]),.freed,.live (.arr 7 a0.tokens.length false (row aE (a0.tokens.set (Int.toNat (Int.tmod (IntKind.wrap .i64 a1.a) 9)) (⟨(a0.tokens.getD (Int.toNat (Int.tmod (IntKind.wrap .i64 a1.a) 9)) default).name,(a0.tokens.getD (Int.toNat (Int.tmod (IntKind.wrap .i64 a1.a) 9)) default).classF,(a0.tokens.getD (Int.toNat (Int.tmod (IntKind.wrap .i64 a1.a) 9)) default).literal,(a0.tokens.getD (Int.toNat (Int.tmod (IntKind.wrap .i64 a1.a) 9)) default).pattern,(a0.tokens.getD (Int.toNat (Int.tmod (IntKind.wrap .i64 a1.a) 9)) default).sample,y1⟩:aL))))]) [0,0] [] [] ?_)
   refine aa.ret ?_
   cases h
   exact ⟨_,(GStep.trans (GStep.keep [4]) (GStep.trans (GStep.eqv (s1:=⟨[(4,.ptr 2 0)],[.live (.var [.d (af 1 eS a0.conditions),.d (af 3 ag a0.family.nodes),di a0.family.root,.osl 6 0 a0.tokens.length 7,.d (af 1 eS a0.nonterminals),.d (af 13 aq a0.productions),di a0.start,.d (af 4 aH a0.levels),.d (af 9 aC a0.filters)]),.live (.var (cR a1)),.live (.var [.d (af 1 eS a0.conditions),.d (af 3 ag a0.family.nodes),di a0.family.root,.osl 6 0 a0.tokens.length 7,.d (af 1 eS a0.nonterminals),.d (af 13 aq a0.productions),di a0.start,.d (af 4 aH a0.levels),.d (af 9 aC a0.filters)]),.live (.var (an y1)),.live (.var [di 0,di 0,di 0,di 0,di 0,di 0,.nsl,.d (af 3 ag y1.nodes),di y1.root]),.freed,.live (.arr 7 a0.tokens.length false (row aE (a0.tokens.set (Int.toNat (Int.tmod (IntKind.wrap .i64 a1.a) 9)) (⟨(a0.tokens.getD (Int.toNat (Int.tmod (IntKind.wrap .i64 a1.a) 9)) default).name,(a0.tokens.getD (Int.toNat (Int.tmod (IntKind.wrap .i64 a1.a) 9)) default).classF,(a0.tokens.getD (Int.toNat (Int.tmod (IntKind.wrap .i64 a1.a) 9)) default).literal,(a0.tokens.getD (Int.toNat (Int.tmod (IntKind.wrap .i64 a1.a) 9)) default).pattern,(a0.tokens.getD (Int.toNat (Int.tmod (IntKind.wrap .i64 a1.a) 9)) default).sample,y1⟩:aL))))]⟩) (s':=⟨[(4,.ptr 2 0)],[.live (.var [.d (af 1 eS a0.conditions),.d (af 3 ag a0.family.nodes),di a0.family.root,.osl 6 0 ((a0.tokens.set (Int.toNat (Int.tmod (IntKind.wrap .i64 a1.a) 9)) (⟨(a0.tokens.getD (Int.toNat (Int.tmod (IntKind.wrap .i64 a1.a) 9)) default).name,(a0.tokens.getD (Int.toNat (Int.tmod (IntKind.wrap .i64 a1.a) 9)) default).classF,(a0.tokens.getD (Int.toNat (Int.tmod (IntKind.wrap .i64 a1.a) 9)) default).literal,(a0.tokens.getD (Int.toNat (Int.tmod (IntKind.wrap .i64 a1.a) 9)) default).pattern,(a0.tokens.getD (Int.toNat (Int.tmod (IntKind.wrap .i64 a1.a) 9)) default).sample,y1⟩:aL)).length) 7,.d (af 1 eS a0.nonterminals),.d (af 13 aq a0.productions),di a0.start,.d (af 4 aH a0.levels),.d (af 9 aC a0.filters)]),.live (.var (cR a1)),.live (.var [.d (af 1 eS a0.conditions),.d (af 3 ag a0.family.nodes),di a0.family.root,.osl 6 0 ((a0.tokens.set (Int.toNat (Int.tmod (IntKind.wrap .i64 a1.a) 9)) (⟨(a0.tokens.getD (Int.toNat (Int.tmod (IntKind.wrap .i64 a1.a) 9)) default).name,(a0.tokens.getD (Int.toNat (Int.tmod (IntKind.wrap .i64 a1.a) 9)) default).classF,(a0.tokens.getD (Int.toNat (Int.tmod (IntKind.wrap .i64 a1.a) 9)) default).literal,(a0.tokens.getD (Int.toNat (Int.tmod (IntKind.wrap .i64 a1.a) 9)) default).pattern,(a0.tokens.getD (Int.toNat (Int.tmod (IntKind.wrap .i64 a1.a) 9)) default).sample,y1⟩:aL)).length) 7,.d (af 1 eS a0.nonterminals),.d (af 13 aq a0.productions),di a0.start,.d (af 4 aH a0.levels),.d (af 9 aC a0.filters)]),.live (.var (an y1)),.live (.var [di 0,di 0,di 0,di 0,di 0,di 0,.nsl,.d (af 3 ag y1.nodes),di y1.root]),.freed,.live (.arr 7 ((a0.tokens.set (Int.toNat (Int.tmod (IntKind.wrap .i64 a1.a) 9)) (⟨(a0.tokens.getD (Int.toNat (Int.tmod (IntKind.wrap .i64 a1.a) 9)) default).name,(a0.tokens.getD (Int.toNat (Int.tmod (IntKind.wrap .i64 a1.a) 9)) default).classF,(a0.tokens.getD (Int.toNat (Int.tmod (IntKind.wrap .i64 a1.a) 9)) default).literal,(a0.tokens.getD (Int.toNat (Int.tmod (IntKind.wrap .i64 a1.a) 9)) default).pattern,(a0.tokens.getD (Int.toNat (Int.tmod (IntKind.wrap .i64 a1.a) 9)) default).sample,y1⟩:aL)).length) false (row aE (a0.tokens.set (Int.toNat (Int.tmod (IntKind.wrap .i64 a1.a) 9)) (⟨(a0.tokens.getD (Int.toNat (Int.tmod (IntKind.wrap .i64 a1.a) 9)) default).name,(a0.tokens.getD (Int.toNat (Int.tmod (IntKind.wrap .i64 a1.a) 9)) default).classF,(a0.tokens.getD (Int.toNat (Int.tmod (IntKind.wrap .i64 a1.a) 9)) default).literal,(a0.tokens.getD (Int.toNat (Int.tmod (IntKind.wrap .i64 a1.a) 9)) default).pattern,(a0.tokens.getD (Int.toNat (Int.tmod (IntKind.wrap .i64 a1.a) 9)) default).sample,y1⟩:aL))))]⟩) rfl (by simp only [List.length_set])) (GStep.trans (GStep.shutG 6 rfl ⟨trivial,trivial⟩ ⟨⟨trivial,trivial,trivial,(fun _=>⟨Nat.le_of_eq (Nat.zero_add _),rfl⟩),trivial,trivial,trivial,trivial,trivial,trivial⟩,⟨trivial,trivial,trivial,trivial,trivial,trivial⟩,⟨trivial,trivial,trivial,(fun _=>⟨Nat.le_of_eq (Nat.zero_add _),rfl⟩),trivial,trivial,trivial,trivial,trivial,trivial⟩,⟨trivial,trivial,trivial⟩,⟨trivial,trivial,trivial,trivial,trivial,trivial,trivial,trivial,trivial,trivial⟩,trivial,trivial,trivial⟩) (GStep.ren [2] (by decide) rfl rfl)))),rfl,Fin.mk2 (aB.one (.cellA rfl en rfl rfl)) [] (by decide) rfl rfl rfl ⟨rfl,rfl,rfl,rfl,rfl,rfl,rfl,rfl,rfl,trivial⟩⟩
  rcases o36 with x37 | r38
  ·
   rintro e s' hq
   obtain ⟨rfl,rfl⟩:=hq
   cases h
   exact ⟨_,(GStep.keep [2,4,7]),rfl,rfl⟩
  rintro e s' hq
  obtain ⟨rfl,hq⟩:=hq
  cases h
  exact ⟨_,GStep.refl _ _,rfl,hq⟩
 rcases o39 with x40 | r48
 ·
  rintro e s' hq
  obtain ⟨rfl,rfl⟩:=hq
  refine aa.seq ?_
  refine aa.seq ?_
  refine ao h fun y41 hy41 h=>?_
  refine aa.region (ab.ev0 [0,0] [(144,.agg (ah a0)),(145,.agg (aW x40))] [] ?_)
  refine ab.step (v:=db y41) (ae.callS [] (p5 k a0 x40 _ hy41) rfl rfl ⟨⟨rfl,rfl,rfl,rfl,rfl,rfl,rfl,rfl,rfl,trivial⟩,⟨rfl,rfl,rfl,rfl,rfl,rfl,rfl,rfl,rfl,trivial⟩,trivial⟩ (by decide) rfl rfl trivial) rfl rfl rfl ?_
  refine ab.nil ?_
  refine ao h fun x47 ho46 h=>?_
  refine aa.cut (Q':=fun e s'=>e = .normal∧s'=⟨[(2,.ptr 0 0),(4,.ptr 1 0)],[.live (.var (ah x47)),.live (.var [.nsl,.nsl,di 0,.nsl,.nsl,.nsl,di 0,.nsl,.nsl])]⟩) ?_ ?_
  ·
   have h:=ho46
   refine aa.condI h rfl (fun hc42 h=>?_) (fun hc42 h=>?_)
   ·
    refine aD h fun hz43 h=>?_
    refine aD h fun hz44 h=>?_
    refine aa.ghost (GStep.resv 3) ?_
    refine aa.regionAny mixed (s':=?s45) (qs:=[⟨[],[],[3],[],[3]⟩,⟨[2],[],[],[0],[]⟩,⟨[148],[0],[],[],[]⟩,⟨[147,149],[],[3,4],[],[4]⟩,⟨[7],[2],[],[],[]⟩,⟨[151],[],[],[],[]⟩,⟨[150,152],[],[4,5],[],[5]⟩,⟨[2],[],[],[0],[]⟩,⟨[153,154],[],[0],[5],[]⟩]) ?_ (by kernel_rfl) ?_
    rotate_left
    ·
     refine Steps.run [] [] [3] [] [3] (v:=.osl 3 0 (([]:List aA).length) 9) (ae.put [3] (ae.unex (ae.bsliceOX [] [] (row aC ([]:List aA)) rfl mf qm rfl rfl (by kernel_rfl) trivial (by kernel_rfl) (by kernel_rfl) rfl)) (by decide) rfl rfl rfl) rfl (by kernel_rfl) (by kernel_rfl) (by kernel_rfl) (by kernel_rfl) ?_
     refine Steps.hp (h':=[.live (.var (ah a0)),.live (.var [.nsl,.nsl,di 0,.nsl,.nsl,.nsl,di 0,.nsl,.nsl]),.live (.var (aW x40)),.live (.arr 9 (([]:List aA).length) false (row aC ([]:List aA))),.resv,.resv]) rfl ?_
     refine Steps.runQ [2] [] [0] (v:=.ptr 0 8) (ae.fieldAddr (id:=0) (off:=0) (fo:=8) rfl rfl fm rfl rfl) rfl (by kernel_rfl) (by kernel_rfl) ?_
     refine Steps.runQ [148] [0] [] (v:=.d (af 9 aC a0.filters)) (ae.load rfl rfl yH rfl rfl) rfl (by kernel_rfl) (by kernel_rfl) ?_
     refine Steps.run [147,149] [] [3,4] [] [4] (v:=.osl 4 0 a0.filters.length 9) (ae.put [4] (ae.appTn aC ([]:List aA) a0.filters rfl rfl rfl rfl rfl mf yp yA rfl hz43) (by decide) rfl rfl rfl) rfl (by kernel_rfl) (by kernel_rfl) (by kernel_rfl) (by kernel_rfl) ?_
     refine Steps.hp (h':=[.live (.var (ah a0)),.live (.var [.nsl,.nsl,di 0,.nsl,.nsl,.nsl,di 0,.nsl,.nsl]),.live (.var (aW x40)),.freed,.live (.arr 9 a0.filters.length false (row aC a0.filters)),.resv]) rfl ?_
     refine Steps.runQ [7] [2] [] (ae.loadA rfl rfl Al rfl rfl) rfl (by kernel_rfl) (by kernel_rfl) ?_
     refine Steps.runQ [151] [] [] (v:=.d (af 9 aC ([x40]:List aA))) (ae.bsliceX [di x40.kind,di x40.parent,di x40.atF,di x40.child,di x40.left,di x40.token,.d (af 1 (eI .i64) x40.tokens),.d (af 3 ag x40.ifF.nodes),di x40.ifF.root] [.d (.int .i64 x40.kind),.d (.int .i64 x40.parent),.d (.int .i64 x40.atF),.d (.int .i64 x40.child),.d (.int .i64 x40.left),.d (.int .i64 x40.token),.d (af 1 (eI .i64) x40.tokens),.d (af 3 ag x40.ifF.nodes),.d (.int .i64 x40.ifF.root)] (row aC ([x40]:List aA)) rfl mf qm rfl rfl (by kernel_rfl) ⟨rfl,rfl,rfl,rfl,rfl,rfl,rfl,rfl,rfl,trivial⟩ (by kernel_rfl) (by kernel_rfl)) rfl (by kernel_rfl) (by kernel_rfl) ?_
     refine Steps.run [150,152] [] [4,5] [] [5] (v:=.osl 5 0 ((a0.filters++([x40]:List aA)).length) 9) (ae.put [5] (ae.appTn aC a0.filters ([x40]:List aA) rfl rfl rfl rfl rfl mf yp yA rfl hz44) (by decide) rfl rfl rfl) rfl (by kernel_rfl) (by kernel_rfl) (by kernel_rfl) (by kernel_rfl) ?_
     refine Steps.hp (h':=[.live (.var (ah a0)),.live (.var [.nsl,.nsl,di 0,.nsl,.nsl,.nsl,di 0,.nsl,.nsl]),.live (.var (aW x40)),.freed,.freed,.live (.arr 9 ((a0.filters++([x40]:List aA)).length) false (row aC (a0.filters++([x40]:List aA))))]) rfl ?_
     refine Steps.runQ [2] [] [0] (v:=.ptr 0 8) (ae.fieldAddr (id:=0) (off:=0) (fo:=8) rfl rfl fm rfl rfl) rfl (by kernel_rfl) (by kernel_rfl) ?_
     refine Steps.run [153,154] [] [0] [5] [] (ae.store rfl rfl rfl yH rfl rfl rfl rfl rfl) rfl (by kernel_rfl) (by kernel_rfl) (by kernel_rfl) (by kernel_rfl) ?_
     refine Steps.hp (h':=[.live (.var [.d (af 1 eS a0.conditions),.d (af 3 ag a0.family.nodes),di a0.family.root,.d (af 7 aE a0.tokens),.d (af 1 eS a0.nonterminals),.d (af 13 aq a0.productions),di a0.start,.d (af 4 aH a0.levels),.osl 5 0 ((a0.filters++([x40]:List aA)).length) 9]),.live (.var [.nsl,.nsl,di 0,.nsl,.nsl,.nsl,di 0,.nsl,.nsl]),.live (.var (aW x40)),.freed,.freed,.live (.arr 9 ((a0.filters++([x40]:List aA)).length) false (row aC (a0.filters++([x40]:List aA))))]) rfl ?_
     exact Steps.nil _
    cases h
    exact ⟨_,(GStep.trans (GStep.keep [2,4]) (GStep.trans (GStep.shutG 5 rfl ⟨trivial,trivial,trivial⟩ ⟨⟨trivial,trivial,trivial,trivial,trivial,trivial,trivial,trivial,(fun _=>⟨Nat.le_of_eq (Nat.zero_add _),rfl⟩),trivial⟩,⟨trivial,trivial,trivial,trivial,trivial,trivial,trivial,trivial,trivial,trivial⟩,⟨trivial,trivial,trivial,trivial,trivial,trivial,trivial,trivial,trivial,trivial⟩,trivial,trivial,trivial,trivial⟩) (GStep.ren [0,1] (by decide) rfl rfl))),rfl,rfl⟩
   refine aa.skip ?_
   cases h
   exact ⟨_,(GStep.trans (GStep.keep [2,4]) (GStep.ren [0,1] (by decide) rfl rfl)),rfl,rfl⟩
  rintro e s' hq
  obtain ⟨rfl,rfl⟩:=hq
  refine aa.sr (ab.evn (h':=[.live (.var (ah x47)),.live (.var (ah x47))]) [0,0] [] [] ?_)
  refine aa.ret ?_
  cases h
  exact ⟨_,(GStep.trans (GStep.keep [4]) (GStep.ren [1] (by decide) rfl rfl)),.inr rfl,Fin.mk2 (aB.one (.cellA rfl en rfl rfl)) [] (by decide) rfl rfl rfl ⟨rfl,rfl,rfl,rfl,rfl,rfl,rfl,rfl,rfl,trivial⟩⟩
 rintro e s' hq
 obtain ⟨rfl,hq⟩:=hq
 cases h
 exact ⟨_,GStep.refl _ _,.inr rfl,hq⟩
noncomputable def ca (k:Nat)(a0:Raw)(x26:am)(v:Int×am):Option am:=match k,v with
  | 0,_=>none
  | k+1,(v0_0,v0_1)=>(((if (decide (v0_0 < (a0.rules.length:Int)))=true then some (decide (v0_0 < 6)) else some false):Option Bool).bind fun x29=>(if x29=true then (if (0:Int)≤v0_0∧v0_0 < (a0.rules.length:Int) then ((dM k v0_1 (nth a0.rules v0_0)).bind fun y32=>(ca k a0 x26 ((IntKind.wrap .i64 (v0_0+1)),y32))) else none) else some v0_1))
theorem fB:type_of% (@ca.eq_2):=@ca.eq_2
noncomputable def bZ (k:Nat)(a0:Raw)(x11:Int×am)(x18:am)(v:Int×am):Option am:=match k,v with
  | 0,_=>none
  | k+1,(v0_0,v0_1)=>(((if (decide (v0_0 < (a0.lines.length:Int)))=true then some (decide (v0_0 < x11.1)) else some false):Option Bool).bind fun x21=>(if x21=true then (if (0:Int)≤v0_0∧v0_0 < (a0.lines.length:Int) then ((dL k v0_1 (nth a0.lines v0_0) (decide ((Int.tmod a0.base 8) < 6))).bind fun y24=>(bZ k a0 x11 x18 ((IntKind.wrap .i64 (v0_0+1)),y24))) else none) else some v0_1))
theorem fz:type_of% (@bZ.eq_2):=@bZ.eq_2
noncomputable def it (k:Nat)(a0:Raw):Option am:=((gE (Int.tmod a0.base 8)).bind fun y1=>(((if (!(decide ((Int.tmod a0.base 8) < 6)))=true then (if (0:Int)≤(IntKind.wrap .i64 (1+(Int.tmod (IntKind.wrap .i64 (IntKind.wrap .u8 (Int.tdiv a0.n 4))) 3)))∧(IntKind.wrap .i64 (1+(Int.tmod (IntKind.wrap .i64 (IntKind.wrap .u8 (Int.tdiv a0.n 4))) 3)))≤(([(⟨#[83]⟩:ByteArray),(⟨#[80]⟩:ByteArray),(⟨#[81]⟩:ByteArray)]:List ByteArray).length:Int) then ((l6 (([(⟨#[83]⟩:ByteArray),(⟨#[80]⟩:ByteArray),(⟨#[81]⟩:ByteArray)]:List ByteArray).take (Int.toNat (IntKind.wrap .i64 (1+(Int.tmod (IntKind.wrap .i64 (IntKind.wrap .u8 (Int.tdiv a0.n 4))) 3)))))).bind fun y4=>(if (0:Int)≤IntKind.wrap .i64 (Int.tmod a0.n 4)∧IntKind.wrap .i64 (Int.tmod a0.n 4)≤(([(⟨#[65]⟩:ByteArray),(⟨#[66]⟩:ByteArray),(⟨#[67]⟩:ByteArray)]:List ByteArray).length:Int) then ((lx 0).bind fun y6=>((l8 (⟨#[102,105,114,115,116]⟩:ByteArray) 0 ([y6]:List aw)).bind fun y7=>(if ([(⟨y7.1,y7.2.1,y7.2.2.1,(⟨[],y7.2.2.2.1⟩:ap),y7.2.2.2.2.1,y7.2.2.2.2.2.1,[],(⟨y7.2.2.2.2.2.2.1,y7.2.2.2.2.2.2.2.1,y7.2.2.2.2.2.2.2.2.1,y7.2.2.2.2.2.2.2.2.2.1,y7.2.2.2.2.2.2.2.2.2.2⟩:cY)⟩:aj)]:List aj).length*160≤140737488355328 then some (10,(⟨(([(⟨#[65]⟩:ByteArray),(⟨#[66]⟩:ByteArray),(⟨#[67]⟩:ByteArray)]:List ByteArray).take (Int.toNat (IntKind.wrap .i64 (Int.tmod a0.n 4)))),(⟨[],y4.2.1⟩:ap),y4.2.2.1,y4.2.2.2.1,([(⟨y7.1,y7.2.1,y7.2.2.1,(⟨[],y7.2.2.2.1⟩:ap),y7.2.2.2.2.1,y7.2.2.2.2.2.1,[],(⟨y7.2.2.2.2.2.2.1,y7.2.2.2.2.2.2.2.1,y7.2.2.2.2.2.2.2.2.1,y7.2.2.2.2.2.2.2.2.2.1,y7.2.2.2.2.2.2.2.2.2.2⟩:cY)⟩:aj)]:List aj),y4.2.2.2.2,[],[]⟩:am)) else none))) else none)) else none) else some (6,y1)):Option (Int×am)).bind fun x11=>((dN k a0.family (x11.2.conditions.length:Int)).bind fun y12=>(((if (decide ((a0.family.length:Int) > 0))=true then some (!decide (y12.root=0)) else some false):Option Bool).bind fun x15=>(((if x15=true then some (⟨x11.2.conditions,y12,x11.2.tokens,x11.2.nonterminals,x11.2.productions,x11.2.start,x11.2.levels,x11.2.filters⟩:am) else some x11.2):Option am).bind fun x18=>(((bZ k a0 x11 x18 (0,x18)):Option am).bind fun x26=>(((ca k a0 x26 (0,x26)):Option am).bind fun x34=>some x34)))))))
set_option maxRecDepth 100000 in
set_option maxHeartbeats 4000000 in
theorem rR (k:Nat)(a0:Raw)(r:am)(h:it k a0=some r):SC P 13 [.agg (eo a0)] [] (.agg (ah r)) []:=by
 unfold it at h
 refine SC.intro3 (N:=99) Tryz.func13 rfl rfl Tryz.ntmps13 rfl ?_
 refine aa.sr (ab.evn (h':=[.live (.var (eo a0)),.live (.var [.nsl,.nsl,di 0,.nsl,.nsl,.nsl,di 0,.nsl,.nsl])]) [0,0] [(1,.ptr 0 0),(2,.ptr 1 0)] [] ?_)
 refine aa.sr (ab.ev0n [0,0,0,0,0] [(3,db (decide ((Int.tmod a0.base 8) < 6)))] [] ?_)
 refine aa.seq ?_
 refine ao h fun y1 hy1 h=>?_
 refine aa.region (ab.ev0 [0,0,0] [(15,.d (.int .u8 (Int.tmod a0.base 8)))] [] ?_)
 refine ab.step (v:=.agg (ah y1)) (ae.callS [] (qI (Int.tmod a0.base 8) _ hy1) rfl rfl ⟨rfl,trivial⟩ (by decide) rfl rfl trivial) rfl rfl rfl ?_
 refine ab.evn (h':=[.live (.var (eo a0)),.live (.var [.nsl,.nsl,di 0,.nsl,.nsl,.nsl,di 0,.nsl,.nsl]),.live (.var (ah y1))]) [0,0] [(4,.ptr 2 0)] [] ?_
 refine aa.sr (ab.ev0n [0] [(5,di 6)] [] ?_)
 refine aa.seq ?_
 refine aa.sr (ab.ev0n [0,0] [(18,db (!(decide ((Int.tmod a0.base 8) < 6))))] [] ?_)
 refine ao h fun x11 ho10 h=>?_
 refine aa.cut (Q':=fun e s'=>e = .normal∧s'=⟨[(1,.ptr 0 0),(2,.ptr 1 0),(3,db (decide ((Int.tmod a0.base 8) < 6))),(4,.ptr 2 0),(5,di x11.1)],[.live (.var (eo a0)),.live (.var [.nsl,.nsl,di 0,.nsl,.nsl,.nsl,di 0,.nsl,.nsl]),.live (.var (ah x11.2))]⟩) ?_ ?_
 ·
  have h:=ho10
  refine aa.condI h rfl (fun hc2 h=>?_) (fun hc2 h=>?_)
  ·
   refine aa.seq ?_
   refine aD h fun hz3 h=>?_
   refine ao h fun y4 hy4 h=>?_
   refine aa.region ?_
   refine ab.step (v:=.d (af 1 eS ([(⟨#[83]⟩:ByteArray),(⟨#[80]⟩:ByteArray),(⟨#[81]⟩:ByteArray)]:List ByteArray))) (ae.bsliceX [.d (.str (⟨#[83]⟩:ByteArray)),.d (.str (⟨#[80]⟩:ByteArray)),.d (.str (⟨#[81]⟩:ByteArray))] [.d (.str (⟨#[83]⟩:ByteArray)),.d (.str (⟨#[80]⟩:ByteArray)),.d (.str (⟨#[81]⟩:ByteArray))] (row eS ([(⟨#[83]⟩:ByteArray),(⟨#[80]⟩:ByteArray),(⟨#[81]⟩:ByteArray)]:List ByteArray)) rfl qf yk rfl rfl (by kernel_rfl) ⟨rfl,rfl,rfl,trivial⟩ (by kernel_rfl) (by kernel_rfl)) rfl rfl rfl ?_
   refine ab.ev0 [0,0,0,0,0,0] [(25,di (IntKind.wrap .i64 (1+(Int.tmod (IntKind.wrap .i64 (IntKind.wrap .u8 (Int.tdiv a0.n 4))) 3))))] [] ?_
   refine ab.step (v:=.d (af 1 eS (([(⟨#[83]⟩:ByteArray),(⟨#[80]⟩:ByteArray),(⟨#[81]⟩:ByteArray)]:List ByteArray).take (Int.toNat (IntKind.wrap .i64 (1+(Int.tmod (IntKind.wrap .i64 (IntKind.wrap .u8 (Int.tdiv a0.n 4))) 3))))))) (ae.sliceHT eS ([(⟨#[83]⟩:ByteArray),(⟨#[80]⟩:ByteArray),(⟨#[81]⟩:ByteArray)]:List ByteArray) rfl rfl rfl qf hz3.1 hz3.2) rfl rfl rfl ?_
   refine ab.step (v:=.agg [.d (af 1 eS y4.1),.nsl,di y4.2.1,.d (af 7 aE y4.2.2.1),.d (af 1 eS y4.2.2.2.1),.nsl,di y4.2.2.2.2,.nsl,.nsl]) (ae.callS [] (rQ (([(⟨#[83]⟩:ByteArray),(⟨#[80]⟩:ByteArray),(⟨#[81]⟩:ByteArray)]:List ByteArray).take (Int.toNat (IntKind.wrap .i64 (1+(Int.tmod (IntKind.wrap .i64 (IntKind.wrap .u8 (Int.tdiv a0.n 4))) 3))))) _ hy4) rfl rfl ⟨rfl,trivial⟩ (by decide) rfl rfl trivial) rfl rfl rfl ?_
   refine ab.evn (h':=[.live (.var (eo a0)),.live (.var [.nsl,.nsl,di 0,.nsl,.nsl,.nsl,di 0,.nsl,.nsl]),.live (.var [.d (af 1 eS y4.1),.nsl,di y4.2.1,.d (af 7 aE y4.2.2.1),.d (af 1 eS y4.2.2.2.1),.nsl,di y4.2.2.2.2,.nsl,.nsl])]) [0] [] [] ?_
   refine aa.seq ?_
   refine aD h fun hz5 h=>?_
   refine aa.region ?_
   refine ab.step (v:=.d (af 1 eS ([(⟨#[65]⟩:ByteArray),(⟨#[66]⟩:ByteArray),(⟨#[67]⟩:ByteArray)]:List ByteArray))) (ae.bsliceX [.d (.str (⟨#[65]⟩:ByteArray)),.d (.str (⟨#[66]⟩:ByteArray)),.d (.str (⟨#[67]⟩:ByteArray))] [.d (.str (⟨#[65]⟩:ByteArray)),.d (.str (⟨#[66]⟩:ByteArray)),.d (.str (⟨#[67]⟩:ByteArray))] (row eS ([(⟨#[65]⟩:ByteArray),(⟨#[66]⟩:ByteArray),(⟨#[67]⟩:ByteArray)]:List ByteArray)) rfl qf yk rfl rfl (by kernel_rfl) ⟨rfl,rfl,rfl,trivial⟩ (by kernel_rfl) (by kernel_rfl)) rfl rfl rfl ?_
   refine ab.ev0 [0,0,0,0] [(32,di (IntKind.wrap .i64 (Int.tmod a0.n 4)))] [] ?_
   refine ab.step (v:=.d (af 1 eS (([(⟨#[65]⟩:ByteArray),(⟨#[66]⟩:ByteArray),(⟨#[67]⟩:ByteArray)]:List ByteArray).take (Int.toNat (IntKind.wrap .i64 (Int.tmod a0.n 4)))))) (ae.sliceHT eS ([(⟨#[65]⟩:ByteArray),(⟨#[66]⟩:ByteArray),(⟨#[67]⟩:ByteArray)]:List ByteArray) rfl rfl rfl qf hz5.1 hz5.2) rfl rfl rfl ?_
   refine ab.evn (h':=[.live (.var (eo a0)),.live (.var [.nsl,.nsl,di 0,.nsl,.nsl,.nsl,di 0,.nsl,.nsl]),.live (.var [.d (af 1 eS (([(⟨#[65]⟩:ByteArray),(⟨#[66]⟩:ByteArray),(⟨#[67]⟩:ByteArray)]:List ByteArray).take (Int.toNat (IntKind.wrap .i64 (Int.tmod a0.n 4))))),.nsl,di y4.2.1,.d (af 7 aE y4.2.2.1),.d (af 1 eS y4.2.2.2.1),.nsl,di y4.2.2.2.2,.nsl,.nsl])]) [0,0] [] [] ?_
   refine aa.seq ?_
   refine ao h fun y6 hy6 h=>?_
   refine ao h fun y7 hy7 h=>?_
   refine aD h fun hz8 h=>?_
   refine aa.ghost (GStep.resv 2) ?_
   refine aa.regionAny mixed (s':=?s9) (qs:=[⟨[4],[],[],[2],[]⟩,⟨[35],[2],[],[],[]⟩,⟨[],[],[],[],[]⟩,⟨[37],[],[],[],[]⟩,⟨[38],[],[],[],[]⟩,⟨[39],[],[],[],[]⟩,⟨[36,40],[],[3,4],[],[3,4]⟩,⟨[4],[],[],[2],[]⟩,⟨[41,42],[],[2],[4],[]⟩]) ?_ (by kernel_rfl) ?_
   rotate_left
   ·
    refine Steps.runQ [4] [] [2] (v:=.ptr 2 5) (ae.fieldAddr (id:=2) (off:=0) (fo:=5) rfl rfl fm rfl rfl) rfl (by kernel_rfl) (by kernel_rfl) ?_
    refine Steps.runQ [35] [2] [] (v:=.nsl) (ae.load rfl rfl mj rfl rfl) rfl (by kernel_rfl) (by kernel_rfl) ?_
    refine Steps.runQ [] [] [] (v:=.agg (bW y6)) (ae.callS [] (pY 0 _ hy6) rfl rfl ⟨rfl,trivial⟩ (by decide) rfl rfl trivial) rfl (by kernel_rfl) (by kernel_rfl) ?_
    refine Steps.runQ [37] [] [] (v:=.d (af 2 ay ([y6]:List aw))) (ae.bsliceX [db y6.token,di y6.index] [.d (.bool y6.token),.d (.int .i64 y6.index)] (row ay ([y6]:List aw)) rfl bL kD rfl rfl (by kernel_rfl) ⟨rfl,rfl,trivial⟩ (by kernel_rfl) (by kernel_rfl)) rfl (by kernel_rfl) (by kernel_rfl) ?_
    refine Steps.runQ [38] [] [] (v:=.agg [.d (.str y7.1),di y7.2.1,.d (af 2 ay y7.2.2.1),.nsl,di y7.2.2.2.1,db y7.2.2.2.2.1,di y7.2.2.2.2.2.1,.nsl,db y7.2.2.2.2.2.2.1,di y7.2.2.2.2.2.2.2.1,di y7.2.2.2.2.2.2.2.2.1,di y7.2.2.2.2.2.2.2.2.2.1,di y7.2.2.2.2.2.2.2.2.2.2]) (ae.callS [] (rS (⟨#[102,105,114,115,116]⟩:ByteArray) 0 ([y6]:List aw) _ hy7) rfl rfl ⟨rfl,rfl,rfl,trivial⟩ (by decide) rfl rfl trivial) rfl (by kernel_rfl) (by kernel_rfl) ?_
    refine Steps.runQ [39] [] [] (v:=.d (af 13 aq ([(⟨y7.1,y7.2.1,y7.2.2.1,(⟨[],y7.2.2.2.1⟩:ap),y7.2.2.2.2.1,y7.2.2.2.2.2.1,[],(⟨y7.2.2.2.2.2.2.1,y7.2.2.2.2.2.2.2.1,y7.2.2.2.2.2.2.2.2.1,y7.2.2.2.2.2.2.2.2.2.1,y7.2.2.2.2.2.2.2.2.2.2⟩:cY)⟩:aj)]:List aj))) (ae.bsliceX [.d (.str y7.1),di y7.2.1,.d (af 2 ay y7.2.2.1),.nsl,di y7.2.2.2.1,db y7.2.2.2.2.1,di y7.2.2.2.2.2.1,.nsl,db y7.2.2.2.2.2.2.1,di y7.2.2.2.2.2.2.2.1,di y7.2.2.2.2.2.2.2.2.1,di y7.2.2.2.2.2.2.2.2.2.1,di y7.2.2.2.2.2.2.2.2.2.2] [.d (.str y7.1),.d (.int .i64 y7.2.1),.d (af 2 ay y7.2.2.1),.d (af 3 ag []),.d (.int .i64 y7.2.2.2.1),.d (.bool y7.2.2.2.2.1),.d (.int .i64 y7.2.2.2.2.2.1),.d (af 3 bi []),.d (.bool y7.2.2.2.2.2.2.1),.d (.int .i64 y7.2.2.2.2.2.2.2.1),.d (.int .i64 y7.2.2.2.2.2.2.2.2.1),.d (.int .i64 y7.2.2.2.2.2.2.2.2.2.1),.d (.int .i64 y7.2.2.2.2.2.2.2.2.2.2)] (row aq ([(⟨y7.1,y7.2.1,y7.2.2.1,(⟨[],y7.2.2.2.1⟩:ap),y7.2.2.2.2.1,y7.2.2.2.2.2.1,[],(⟨y7.2.2.2.2.2.2.1,y7.2.2.2.2.2.2.2.1,y7.2.2.2.2.2.2.2.2.1,y7.2.2.2.2.2.2.2.2.2.1,y7.2.2.2.2.2.2.2.2.2.2⟩:cY)⟩:aj)]:List aj)) rfl iA ql rfl rfl (by kernel_rfl) ⟨rfl,rfl,rfl,trivial,rfl,rfl,rfl,trivial,rfl,rfl,rfl,rfl,rfl,trivial⟩ (by kernel_rfl) (by kernel_rfl)) rfl (by kernel_rfl) (by kernel_rfl) ?_
    refine Steps.run [36,40] [] [3,4] [] [3,4] (v:=.osl 4 0 (([(⟨y7.1,y7.2.1,y7.2.2.1,(⟨[],y7.2.2.2.1⟩:ap),y7.2.2.2.2.1,y7.2.2.2.2.2.1,[],(⟨y7.2.2.2.2.2.2.1,y7.2.2.2.2.2.2.2.1,y7.2.2.2.2.2.2.2.2.1,y7.2.2.2.2.2.2.2.2.2.1,y7.2.2.2.2.2.2.2.2.2.2⟩:cY)⟩:aj)]:List aj).length) 13) (ae.put [3,4] (ae.appN aq ([(⟨y7.1,y7.2.1,y7.2.2.1,(⟨[],y7.2.2.2.1⟩:ap),y7.2.2.2.2.1,y7.2.2.2.2.2.1,[],(⟨y7.2.2.2.2.2.2.1,y7.2.2.2.2.2.2.2.1,y7.2.2.2.2.2.2.2.2.1,y7.2.2.2.2.2.2.2.2.2.1,y7.2.2.2.2.2.2.2.2.2.2⟩:cY)⟩:aj)]:List aj) rfl rfl rfl iA rV rY rfl rfl hz8) (by decide) rfl rfl rfl) rfl (by kernel_rfl) (by kernel_rfl) (by kernel_rfl) (by kernel_rfl) ?_
    refine Steps.hp (h':=[.live (.var (eo a0)),.live (.var [.nsl,.nsl,di 0,.nsl,.nsl,.nsl,di 0,.nsl,.nsl]),.live (.var [.d (af 1 eS (([(⟨#[65]⟩:ByteArray),(⟨#[66]⟩:ByteArray),(⟨#[67]⟩:ByteArray)]:List ByteArray).take (Int.toNat (IntKind.wrap .i64 (Int.tmod a0.n 4))))),.nsl,di y4.2.1,.d (af 7 aE y4.2.2.1),.d (af 1 eS y4.2.2.2.1),.nsl,di y4.2.2.2.2,.nsl,.nsl]),.freed,.live (.arr 13 (([(⟨y7.1,y7.2.1,y7.2.2.1,(⟨[],y7.2.2.2.1⟩:ap),y7.2.2.2.2.1,y7.2.2.2.2.2.1,[],(⟨y7.2.2.2.2.2.2.1,y7.2.2.2.2.2.2.2.1,y7.2.2.2.2.2.2.2.2.1,y7.2.2.2.2.2.2.2.2.2.1,y7.2.2.2.2.2.2.2.2.2.2⟩:cY)⟩:aj)]:List aj).length) false (row aq ([(⟨y7.1,y7.2.1,y7.2.2.1,(⟨[],y7.2.2.2.1⟩:ap),y7.2.2.2.2.1,y7.2.2.2.2.2.1,[],(⟨y7.2.2.2.2.2.2.1,y7.2.2.2.2.2.2.2.1,y7.2.2.2.2.2.2.2.2.1,y7.2.2.2.2.2.2.2.2.2.1,y7.2.2.2.2.2.2.2.2.2.2⟩:cY)⟩:aj)]:List aj)))]) rfl ?_
    refine Steps.runQ [4] [] [2] (v:=.ptr 2 5) (ae.fieldAddr (id:=2) (off:=0) (fo:=5) rfl rfl fm rfl rfl) rfl (by kernel_rfl) (by kernel_rfl) ?_
    refine Steps.run [41,42] [] [2] [4] [] (ae.store rfl rfl rfl mj rfl rfl rfl rfl rfl) rfl (by kernel_rfl) (by kernel_rfl) (by kernel_rfl) (by kernel_rfl) ?_
    refine Steps.hp (h':=[.live (.var (eo a0)),.live (.var [.nsl,.nsl,di 0,.nsl,.nsl,.nsl,di 0,.nsl,.nsl]),.live (.var [.d (af 1 eS (([(⟨#[65]⟩:ByteArray),(⟨#[66]⟩:ByteArray),(⟨#[67]⟩:ByteArray)]:List ByteArray).take (Int.toNat (IntKind.wrap .i64 (Int.tmod a0.n 4))))),.nsl,di y4.2.1,.d (af 7 aE y4.2.2.1),.d (af 1 eS y4.2.2.2.1),.osl 4 0 (([(⟨y7.1,y7.2.1,y7.2.2.1,(⟨[],y7.2.2.2.1⟩:ap),y7.2.2.2.2.1,y7.2.2.2.2.2.1,[],(⟨y7.2.2.2.2.2.2.1,y7.2.2.2.2.2.2.2.1,y7.2.2.2.2.2.2.2.2.1,y7.2.2.2.2.2.2.2.2.2.1,y7.2.2.2.2.2.2.2.2.2.2⟩:cY)⟩:aj)]:List aj).length) 13,di y4.2.2.2.2,.nsl,.nsl]),.freed,.live (.arr 13 (([(⟨y7.1,y7.2.1,y7.2.2.1,(⟨[],y7.2.2.2.1⟩:ap),y7.2.2.2.2.1,y7.2.2.2.2.2.1,[],(⟨y7.2.2.2.2.2.2.1,y7.2.2.2.2.2.2.2.1,y7.2.2.2.2.2.2.2.2.1,y7.2.2.2.2.2.2.2.2.2.1,y7.2.2.2.2.2.2.2.2.2.2⟩:cY)⟩:aj)]:List aj).length) false (row aq ([(⟨y7.1,y7.2.1,y7.2.2.1,(⟨[],y7.2.2.2.1⟩:ap),y7.2.2.2.2.1,y7.2.2.2.2.2.1,[],(⟨y7.2.2.2.2.2.2.1,y7.2.2.2.2.2.2.2.1,y7.2.2.2.2.2.2.2.2.1,y7.2.2.2.2.2.2.2.2.2.1,y7.2.2.2.2.2.2.2.2.2.2⟩:cY)⟩:aj)]:List aj)))]) rfl ?_
    exact Steps.nil _
   refine aa.region (ab.ev0n [0] [(5,di 10)] [] ?_)
   cases h
   exact ⟨_,(GStep.trans (GStep.keep [1,2,3,4,5]) (GStep.trans (GStep.shutG 4 rfl ⟨trivial,trivial,trivial,trivial,trivial,trivial⟩ ⟨⟨trivial,trivial,trivial,trivial,trivial,trivial⟩,⟨trivial,trivial,trivial,trivial,trivial,trivial,trivial,trivial,trivial,trivial⟩,⟨trivial,trivial,trivial,trivial,trivial,(fun _=>⟨Nat.le_of_eq (Nat.zero_add _),rfl⟩),trivial,trivial,trivial,trivial⟩,trivial,trivial,trivial⟩) (GStep.trans (GStep.ren [0,1,2] (by decide) rfl rfl) (GStep.sub (s':=⟨[(1,.ptr 0 0),(2,.ptr 1 0),(3,db (decide ((Int.tmod a0.base 8) < 6))),(4,.ptr 2 0),(5,di 10)],[.live (.var (eo a0)),.live (.var [.nsl,.nsl,di 0,.nsl,.nsl,.nsl,di 0,.nsl,.nsl]),.live (.var (ah (⟨(([(⟨#[65]⟩:ByteArray),(⟨#[66]⟩:ByteArray),(⟨#[67]⟩:ByteArray)]:List ByteArray).take (Int.toNat (IntKind.wrap .i64 (Int.tmod a0.n 4)))),(⟨[],y4.2.1⟩:ap),y4.2.2.1,y4.2.2.2.1,([(⟨y7.1,y7.2.1,y7.2.2.1,(⟨[],y7.2.2.2.1⟩:ap),y7.2.2.2.2.1,y7.2.2.2.2.2.1,[],(⟨y7.2.2.2.2.2.2.1,y7.2.2.2.2.2.2.2.1,y7.2.2.2.2.2.2.2.2.1,y7.2.2.2.2.2.2.2.2.2.1,y7.2.2.2.2.2.2.2.2.2.2⟩:cY)⟩:aj)]:List aj),y4.2.2.2.2,[],[]⟩:am)))]⟩) ⟨⟨rfl,aF.refl _⟩,⟨rfl,aF.refl _⟩,⟨rfl,aF.refl _⟩,⟨rfl,aF.refl _⟩,⟨rfl,aF.refl _⟩,trivial⟩ ⟨⟨aF.refl _,aF.refl _,aF.refl _,aF.refl _,aF.refl _,trivial⟩,⟨aF.refl _,aF.refl _,aF.refl _,aF.refl _,aF.refl _,aF.refl _,aF.refl _,aF.refl _,aF.refl _,trivial⟩,⟨aF.refl _,trivial,aF.refl _,aF.refl _,aF.refl _,aF.refl _,aF.refl _,trivial,trivial,trivial⟩,trivial⟩)))),rfl,rfl⟩
  refine aa.skip ?_
  cases h
  exact ⟨_,(GStep.keep [1,2,3,4,5]),rfl,rfl⟩
 rintro e s' hq
 obtain ⟨rfl,rfl⟩:=hq
 refine aa.seq ?_
 refine ao h fun y12 hy12 h=>?_
 refine aa.region (ab.ev0 [0,0,0,0,0] [(44,.d (af 1 (eI .u8) a0.family)),(47,di (x11.2.conditions.length:Int))] [] ?_)
 refine ab.step (v:=.agg (an y12)) (ae.callS [] (mu k a0.family (x11.2.conditions.length:Int) _ hy12) rfl rfl ⟨rfl,rfl,trivial⟩ (by decide) rfl rfl trivial) rfl rfl rfl ?_
 refine ab.evn (h':=[.live (.var (eo a0)),.live (.var [.nsl,.nsl,di 0,.nsl,.nsl,.nsl,di 0,.nsl,.nsl]),.live (.var (ah x11.2)),.live (.var (an y12))]) [0,0] [(6,.ptr 3 0)] [] ?_
 refine aa.seq ?_
 refine aa.seq ?_
 refine ao h fun x15 ho14 h=>?_
 refine aa.cut (Q':=fun e s'=>e = .normal∧s'=⟨[(1,.ptr 0 0),(2,.ptr 1 0),(3,db (decide ((Int.tmod a0.base 8) < 6))),(4,.ptr 2 0),(5,di x11.1),(6,.ptr 3 0),(57,db x15)],[.live (.var (eo a0)),.live (.var [.nsl,.nsl,di 0,.nsl,.nsl,.nsl,di 0,.nsl,.nsl]),.live (.var (ah x11.2)),.live (.var (an y12))]⟩) ?_ ?_
 ·
  have h:=ho14
  refine au h (fun hc13 h=>?_) (fun hc13 h=>?_)
  ·
   refine aa.region (ab.ev0n [0,0,0,0,0,1,0,0,0] [(57,db (!decide (y12.root=0)))] [⟨_,hc13⟩] ?_)
   cases h
   exact ⟨_,(GStep.keep [1,2,3,4,5,6,57]),rfl,rfl⟩
  refine aa.region (ab.ev0n [0,0,0,0,0,2,0,0,0] [(57,db false)] [⟨_,hc13⟩] ?_)
  cases h
  exact ⟨_,(GStep.keep [1,2,3,4,5,6,57]),rfl,rfl⟩
 rintro e s' hq
 obtain ⟨rfl,rfl⟩:=hq
 refine ao h fun x18 ho17 h=>?_
 refine aa.cut (Q':=fun e s'=>e = .normal∧s'=⟨[(1,.ptr 0 0),(2,.ptr 1 0),(3,db (decide ((Int.tmod a0.base 8) < 6))),(4,.ptr 2 0),(5,di x11.1)],[.live (.var (eo a0)),.live (.var [.nsl,.nsl,di 0,.nsl,.nsl,.nsl,di 0,.nsl,.nsl]),.live (.var (ah x18))]⟩) ?_ ?_
 ·
  have h:=ho17
  refine aa.condI h rfl (fun hc16 h=>?_) (fun hc16 h=>?_)
  ·
   refine aa.region (ab.evn (h':=[.live (.var (eo a0)),.live (.var [.nsl,.nsl,di 0,.nsl,.nsl,.nsl,di 0,.nsl,.nsl]),.live (.var (ah (⟨x11.2.conditions,y12,x11.2.tokens,x11.2.nonterminals,x11.2.productions,x11.2.start,x11.2.levels,x11.2.filters⟩:am))),.live (.var (an y12))]) [0,0,0] [] [] ?_)
   cases h
   exact ⟨_,(GStep.trans (GStep.keep [1,2,3,4,5]) (GStep.ren [0,1,2] (by decide) rfl rfl)),rfl,rfl⟩
  refine aa.skip ?_
  cases h
  exact ⟨_,(GStep.trans (GStep.keep [1,2,3,4,5]) (GStep.ren [0,1,2] (by decide) rfl rfl)),rfl,rfl⟩
 rintro e s' hq
 obtain ⟨rfl,rfl⟩:=hq
 refine aa.seq ?_
 refine aa.sr (ab.ev0n [0] [(7,di 0)] [] ?_)
 refine aa.block ?_
 refine ao h fun x26 ho36 h=>?_
 refine aa.cut (Q':=fun e s'=>e = .exit 0∧s'=⟨[(1,.ptr 0 0),(2,.ptr 1 0),(4,.ptr 2 0)],[.live (.var (eo a0)),.live (.var [.nsl,.nsl,di 0,.nsl,.nsl,.nsl,di 0,.nsl,.nsl]),.live (.var (ah x26))]⟩) ?_ ?_
 ·
  have h:=ho36
  refine aa.ghost (GStep.keep [1,2,3,4,5,7]) ?_
  refine aa.loopI (F:=fun k v=>bZ k a0 x11 x18 v) (fun v=>⟨[(1,.ptr 0 0),(2,.ptr 1 0),(3,db (decide ((Int.tmod a0.base 8) < 6))),(4,.ptr 2 0),(5,di x11.1),(7,di v.1)],[.live (.var (eo a0)),.live (.var [.nsl,.nsl,di 0,.nsl,.nsl,.nsl,di 0,.nsl,.nsl]),.live (.var (ah v.2))]⟩) (k:=k) (v:=(0,x18)) h rfl (fun _=>rfl) ?_
  intro k v ih h
  obtain ⟨v0_0,v0_1⟩:=v
  have h:=(fz ..).symm.trans h
  refine aa.seq ?_
  refine aa.seq ?_
  refine ao h fun x21 ho20 h=>?_
  refine aa.cut (Q':=fun e s'=>e = .normal∧s'=⟨[(1,.ptr 0 0),(2,.ptr 1 0),(3,db (decide ((Int.tmod a0.base 8) < 6))),(4,.ptr 2 0),(5,di x11.1),(7,di v0_0),(69,db x21)],[.live (.var (eo a0)),.live (.var [.nsl,.nsl,di 0,.nsl,.nsl,.nsl,di 0,.nsl,.nsl]),.live (.var (ah v0_1))]⟩) ?_ ?_
  ·
   have h:=ho20
   refine au h (fun hc19 h=>?_) (fun hc19 h=>?_)
   ·
    refine aa.region (ab.ev0n [0,0,0,0,0,0,1,0,0,0] [(69,db (decide (v0_0 < x11.1)))] [⟨_,hc19⟩] ?_)
    cases h
    exact ⟨_,(GStep.keep [1,2,3,4,5,7,69]),rfl,rfl⟩
   refine aa.region (ab.ev0n [0,0,0,0,0,0,2,0,0,0] [(69,db false)] [⟨_,hc19⟩] ?_)
   cases h
   exact ⟨_,(GStep.keep [1,2,3,4,5,7,69]),rfl,rfl⟩
  rintro e s' hq
  obtain ⟨rfl,rfl⟩:=hq
  refine aa.condI h rfl (fun hc22 h=>?_) (fun hc22 h=>?_)
  ·
   refine aa.skip ?_
   refine aa.seq ?_
   refine aa.block ?_
   refine aD h fun hb23 h=>?_
   refine ao h fun y24 hy24 h=>?_
   refine aa.regionAny mixed (s':=?s25) (qs:=[⟨[4],[2],[],[],[]⟩,⟨[1],[],[],[0],[]⟩,⟨[73],[0],[],[],[]⟩,⟨[7],[],[],[],[]⟩,⟨[74,75],[],[],[],[]⟩,⟨[76],[],[],[],[]⟩,⟨[3],[],[],[],[]⟩,⟨[72,77,78],[],[],[],[]⟩,⟨[4,79],[],[2],[],[]⟩]) ?_ (by kernel_rfl) ?_
   rotate_left
   ·
    refine Steps.runQ [4] [2] [] (ae.loadA rfl rfl en rfl rfl) rfl (by kernel_rfl) (by kernel_rfl) ?_
    refine Steps.runQ [1] [] [0] (v:=.ptr 0 3) (ae.fieldAddr (id:=0) (off:=0) (fo:=3) rfl rfl yE rfl rfl) rfl (by kernel_rfl) (by kernel_rfl) ?_
    refine Steps.runQ [73] [0] [] (v:=.d (af 4 nQ a0.lines)) (ae.load rfl rfl Ai rfl rfl) rfl (by kernel_rfl) (by kernel_rfl) ?_
    refine Steps.runQ [7] [] [] (v:=di v0_0) (ae.move rfl rfl) rfl (by kernel_rfl) (by kernel_rfl) ?_
    refine Steps.runQ [74,75] [] [] (ae.index rfl rfl rfl Ae hb23.1 hb23.2) rfl (by kernel_rfl) (by kernel_rfl) ?_
    refine Steps.runQ [76] [] [] (ae.loadVA rfl rfl zN rfl) rfl (by kernel_rfl) (by kernel_rfl) ?_
    refine Steps.runQ [3] [] [] (v:=db (decide ((Int.tmod a0.base 8) < 6))) (ae.move rfl rfl) rfl (by kernel_rfl) (by kernel_rfl) ?_
    refine Steps.runQ [72,77,78] [] [] (v:=.agg (ah y24)) (ae.callS [] (oi k v0_1 (nth a0.lines v0_0) (decide ((Int.tmod a0.base 8) < 6)) _ hy24) rfl rfl ⟨⟨rfl,rfl,rfl,rfl,rfl,rfl,rfl,rfl,rfl,trivial⟩,⟨rfl,rfl,rfl,rfl,trivial⟩,rfl,trivial⟩ (by decide) rfl rfl trivial) rfl (by kernel_rfl) (by kernel_rfl) ?_
    refine Steps.run [4,79] [] [2] [] [] (ae.store rfl rfl rfl en rfl rfl rfl rfl rfl) rfl (by kernel_rfl) (by kernel_rfl) (by kernel_rfl) (by kernel_rfl) ?_
    refine Steps.hp (h':=[.live (.var (eo a0)),.live (.var [.nsl,.nsl,di 0,.nsl,.nsl,.nsl,di 0,.nsl,.nsl]),.live (.var (ah y24))]) rfl ?_
    exact Steps.nil _
   refine aa.region (ab.ev0n [0,0,0] [(7,di (IntKind.wrap .i64 (v0_0+1)))] [] ?_)
   exact aM.ghost (GStep.keep [1,2,3,4,5,7]) (ih ((IntKind.wrap .i64 (v0_0+1)),y24) h)
  refine aa.exit ?_
  cases h
  exact ⟨_,(GStep.keep [1,2,4]),rfl,rfl⟩
 rintro e s' hq
 obtain ⟨rfl,rfl⟩:=hq
 refine aa.seq ?_
 refine aa.sr (ab.ev0n [0] [(8,di 0)] [] ?_)
 refine aa.block ?_
 refine ao h fun x34 ho35 h=>?_
 refine aa.cut (Q':=fun e s'=>e = .exit 2∧s'=⟨[(2,.ptr 0 0),(4,.ptr 1 0)],[.live (.var [.nsl,.nsl,di 0,.nsl,.nsl,.nsl,di 0,.nsl,.nsl]),.live (.var (ah x34))]⟩) ?_ ?_
 ·
  have h:=ho35
  refine aa.ghost (GStep.keep [1,2,4,8]) ?_
  refine aa.loopI (F:=fun k v=>ca k a0 x26 v) (fun v=>⟨[(1,.ptr 0 0),(2,.ptr 1 0),(4,.ptr 2 0),(8,di v.1)],[.live (.var (eo a0)),.live (.var [.nsl,.nsl,di 0,.nsl,.nsl,.nsl,di 0,.nsl,.nsl]),.live (.var (ah v.2))]⟩) (k:=k) (v:=(0,x26)) h rfl (fun _=>rfl) ?_
  intro k v ih h
  obtain ⟨v0_0,v0_1⟩:=v
  have h:=(fB ..).symm.trans h
  refine aa.seq ?_
  refine aa.seq ?_
  refine ao h fun x29 ho28 h=>?_
  refine aa.cut (Q':=fun e s'=>e = .normal∧s'=⟨[(1,.ptr 0 0),(2,.ptr 1 0),(4,.ptr 2 0),(8,di v0_0),(88,db x29)],[.live (.var (eo a0)),.live (.var [.nsl,.nsl,di 0,.nsl,.nsl,.nsl,di 0,.nsl,.nsl]),.live (.var (ah v0_1))]⟩) ?_ ?_
  ·
   have h:=ho28
   refine au h (fun hc27 h=>?_) (fun hc27 h=>?_)
   ·
    refine aa.region (ab.ev0n [0,0,0,0,0,0,1,0,0] [(88,db (decide (v0_0 < 6)))] [⟨_,hc27⟩] ?_)
    cases h
    exact ⟨_,(GStep.keep [1,2,4,8,88]),rfl,rfl⟩
   refine aa.region (ab.ev0n [0,0,0,0,0,0,2,0,0] [(88,db false)] [⟨_,hc27⟩] ?_)
   cases h
   exact ⟨_,(GStep.keep [1,2,4,8,88]),rfl,rfl⟩
  rintro e s' hq
  obtain ⟨rfl,rfl⟩:=hq
  refine aa.condI h rfl (fun hc30 h=>?_) (fun hc30 h=>?_)
  ·
   refine aa.skip ?_
   refine aa.seq ?_
   refine aa.block ?_
   refine aD h fun hb31 h=>?_
   refine ao h fun y32 hy32 h=>?_
   refine aa.regionAny mixed (s':=?s33) (qs:=[⟨[4],[2],[],[],[]⟩,⟨[1],[],[],[0],[]⟩,⟨[92],[0],[],[],[]⟩,⟨[8],[],[],[],[]⟩,⟨[93,94],[],[],[],[]⟩,⟨[95],[],[],[],[]⟩,⟨[91,96],[],[],[],[]⟩,⟨[4,97],[],[2],[],[]⟩]) ?_ (by kernel_rfl) ?_
   rotate_left
   ·
    refine Steps.runQ [4] [2] [] (ae.loadA rfl rfl en rfl rfl) rfl (by kernel_rfl) (by kernel_rfl) ?_
    refine Steps.runQ [1] [] [0] (v:=.ptr 0 4) (ae.fieldAddr (id:=0) (off:=0) (fo:=4) rfl rfl yE rfl rfl) rfl (by kernel_rfl) (by kernel_rfl) ?_
    refine Steps.runQ [92] [0] [] (v:=.d (af 5 nR a0.rules)) (ae.load rfl rfl Aj rfl rfl) rfl (by kernel_rfl) (by kernel_rfl) ?_
    refine Steps.runQ [8] [] [] (v:=di v0_0) (ae.move rfl rfl) rfl (by kernel_rfl) (by kernel_rfl) ?_
    refine Steps.runQ [93,94] [] [] (ae.index rfl rfl rfl Af hb31.1 hb31.2) rfl (by kernel_rfl) (by kernel_rfl) ?_
    refine Steps.runQ [95] [] [] (ae.loadVA rfl rfl zO rfl) rfl (by kernel_rfl) (by kernel_rfl) ?_
    refine Steps.runQ [91,96] [] [] (v:=.agg (ah y32)) (ae.callS [] (oj k v0_1 (nth a0.rules v0_0) _ hy32) rfl rfl ⟨⟨rfl,rfl,rfl,rfl,rfl,rfl,rfl,rfl,rfl,trivial⟩,⟨rfl,rfl,rfl,rfl,rfl,trivial⟩,trivial⟩ (by decide) rfl rfl trivial) rfl (by kernel_rfl) (by kernel_rfl) ?_
    refine Steps.run [4,97] [] [2] [] [] (ae.store rfl rfl rfl en rfl rfl rfl rfl rfl) rfl (by kernel_rfl) (by kernel_rfl) (by kernel_rfl) (by kernel_rfl) ?_
    refine Steps.hp (h':=[.live (.var (eo a0)),.live (.var [.nsl,.nsl,di 0,.nsl,.nsl,.nsl,di 0,.nsl,.nsl]),.live (.var (ah y32))]) rfl ?_
    exact Steps.nil _
   refine aa.region (ab.ev0n [0,0,0] [(8,di (IntKind.wrap .i64 (v0_0+1)))] [] ?_)
   exact aM.ghost (GStep.keep [1,2,4,8]) (ih ((IntKind.wrap .i64 (v0_0+1)),y32) h)
  refine aa.exit ?_
  cases h
  exact ⟨_,(GStep.trans (GStep.keep [2,4]) (GStep.ren [1,2] (by decide) rfl rfl)),rfl,rfl⟩
 rintro e s' hq
 obtain ⟨rfl,rfl⟩:=hq
 refine aa.sr (ab.evn (h':=[.live (.var (ah x34)),.live (.var (ah x34))]) [0,0] [] [] ?_)
 refine aa.ret ?_
 cases h
 exact ⟨_,(GStep.trans (GStep.keep [2]) (GStep.ren [0] (by decide) rfl rfl)),.inr rfl,Fin.mk2 (aB.one (.cellA rfl en rfl rfl)) [] (by decide) rfl rfl rfl ⟨rfl,rfl,rfl,rfl,rfl,rfl,rfl,rfl,rfl,trivial⟩⟩
noncomputable def eU (a0:aj):Option Bool:=some (decide ((if (a0.layout.length:Int) > (a0.right.length:Int) then (a0.layout.length:Int) else (a0.right.length:Int)) > 16))
set_option maxRecDepth 100000 in
set_option maxHeartbeats 4000000 in
theorem mX (a0:aj)(r:Bool)(h:eU a0=some r):SC P 146 [.agg (az a0)] [] (db r) []:=by
 unfold eU at h
 refine SC.intro3 (N:=11) Tryz.func146 rfl rfl Tryz.ntmps146 rfl ?_
 refine aa.sr (ab.evn (h':=[.live (.var (az a0))]) [0,0] [(1,.ptr 0 0)] [] ?_)
 refine aa.sr (ab.ev0 [0,0,0,0,0,0] [(5,di (a0.right.length:Int)),(8,di (a0.layout.length:Int))] [] ?_)
 refine ab.step (v:=di (if (a0.layout.length:Int) > (a0.right.length:Int) then (a0.layout.length:Int) else (a0.right.length:Int))) (jC rfl rfl) rfl rfl rfl ?_
 refine ab.ev0n [0,0] [(2,db (decide ((if (a0.layout.length:Int) > (a0.right.length:Int) then (a0.layout.length:Int) else (a0.right.length:Int)) > 16)))] [] ?_
 refine aa.ret ?_
 cases h
 exact ⟨_,(GStep.trans (GStep.keep [2]) (GStep.ren [] (by decide) rfl rfl)),.inr rfl,Fin.mk2 (aB.one (.tmp rfl)) [] (by decide) rfl rfl rfl rfl⟩
noncomputable def bU (k:Nat)(a0:List aj)(v:Int):Option (Int⊕Unit):=match k,v with
  | 0,_=>none
  | k+1,v0_0=>(if (decide (v0_0 < (a0.length:Int)))=true then (if (0:Int)≤v0_0∧v0_0 < (a0.length:Int) then ((eU (nth a0 v0_0)).bind fun y3=>(if y3=true then some (.inl v0_0) else (bU k a0 (IntKind.wrap .i64 (v0_0+1))))) else none) else some (.inr ()))
theorem dI:type_of% (@bU.eq_2):=@bU.eq_2
noncomputable def fl (k:Nat)(a0:List aj):Option Int:=(((bU k a0 0):Option (Int⊕Unit)).bind fun o7=>match o7 with | .inl r5=>(some r5) | .inr x6=>(some (-1)))
set_option maxRecDepth 100000 in
set_option maxHeartbeats 4000000 in
theorem lI (k:Nat)(a0:List aj)(r:Int)(h:fl k a0=some r):SC P 197 [.d (af 13 aq a0),.d (.fn 146)] [] (di r) []:=by
 unfold fl at h
 refine SC.intro3 (N:=19) Tryz.func197 rfl rfl Tryz.ntmps197 rfl ?_
 refine aa.sr (ab.ev0n [0] [] [] ?_)
 refine aa.seq ?_
 refine aa.sr (ab.ev0n [0,0,0] [(7,di (a0.length:Int)),(8,di 0)] [] ?_)
 refine aa.block ?_
 refine ao h fun o7 ho7 h=>?_
 refine aa.cut (Q':=fun e s'=>match o7 with | .inl r5=>((e = .ret)∧Fin P (Tryz.f197.results) 0 [] (di r5) s') | .inr x6=>(e = .exit 0∧s'=⟨[],[]⟩)) ?_ ?_
 ·
  have h:=ho7
  refine aa.ghost (GStep.keep [0,1,7,8]) ?_
  refine aa.loopI (F:=fun k v=>bU k a0 v) (fun v=>⟨[(0,.d (af 13 aq a0)),(1,.d (.fn 146)),(7,di (a0.length:Int)),(8,di v)],[]⟩) (k:=k) (v:=0) h rfl (fun _=>rfl) ?_
  intro k v0_0 ih h
  have h:=(dI ..).symm.trans h
  refine aa.sr (ab.ev0n [0] [(9,db (decide (v0_0 < (a0.length:Int))))] [] ?_)
  refine aa.seq ?_
  refine aa.condI h rfl (fun hc1 h=>?_) (fun hc1 h=>?_)
  ·
   refine aa.skip ?_
   refine aa.seq ?_
   refine aa.block ?_
   refine aa.sr (ab.ev0n [0,0] [(5,di v0_0)] [] ?_)
   refine aa.seq ?_
   refine aD h fun hb2 h=>?_
   refine ao h fun y3 hy3 h=>?_
   refine aa.region (ab.ev0 [0,0,0,0,0] [(11,.d (.fn 146)),(15,.agg (az (nth a0 v0_0)))] [⟨_,hb2.1⟩,⟨_,hb2.2⟩] ?_)
   refine ab.step (v:=db y3) (ae.callS [] (mX (nth a0 v0_0) _ hy3) rfl rfl ⟨⟨rfl,rfl,rfl,rfl,rfl,rfl,rfl,rfl,rfl,rfl,rfl,rfl,rfl,trivial⟩,trivial⟩ (by decide) rfl rfl trivial) rfl rfl rfl ?_
   refine ab.nil ?_
   refine aa.condI h rfl (fun hc4 h=>?_) (fun hc4 h=>?_)
   ·
    refine aa.sr (ab.ev0n [0,0] [(4,di v0_0)] [] ?_)
    refine aa.ret ?_
    cases h
    exact ⟨_,(GStep.keep [4]),rfl,Fin.mk2 (aB.one (.tmp rfl)) [] (by decide) rfl rfl rfl rfl⟩
   refine aa.skip ?_
   refine aa.region (ab.ev0n [0,0] [(8,di (IntKind.wrap .i64 (v0_0+1)))] [] ?_)
   exact aM.ghost (GStep.keep [0,1,7,8]) (ih (IntKind.wrap .i64 (v0_0+1)) h)
  refine aa.exit ?_
  cases h
  exact ⟨_,(GStep.keep []),rfl,rfl⟩
 rcases o7 with r5 | x6
 ·
  rintro e s' hq
  obtain ⟨rfl,hq⟩:=hq
  cases h
  exact ⟨_,GStep.refl _ _,.inr rfl,hq⟩
 rintro e s' hq
 obtain ⟨rfl,rfl⟩:=hq
 refine aa.sr (ab.ev0n [0] [(4,di (-1))] [] ?_)
 refine aa.ret ?_
 cases h
 exact ⟨_,(GStep.keep [4]),.inr rfl,Fin.mk2 (aB.one (.tmp rfl)) [] (by decide) rfl rfl rfl rfl⟩
noncomputable def gm (k:Nat)(a0:List aj):Option Bool:=((fl k a0).bind fun y1=>some (decide (y1≥0)))
set_option maxRecDepth 100000 in
set_option maxHeartbeats 4000000 in
theorem oc (k:Nat)(a0:List aj)(r:Bool)(h:gm k a0=some r):SC P 145 [.d (af 13 aq a0),.d (.fn 146)] [] (db r) []:=by
 unfold gm at h
 refine SC.intro3 (N:=9) Tryz.func145 rfl rfl Tryz.ntmps145 rfl ?_
 refine aa.sr (ab.ev0n [0] [] [] ?_)
 refine aa.seq ?_
 refine ao h fun y1 hy1 h=>?_
 refine aa.region (ab.ev0 [0,0] [(5,.d (af 13 aq a0)),(6,.d (.fn 146))] [] ?_)
 refine ab.step (v:=di y1) (ae.callS [] (lI k a0 _ hy1) rfl rfl ⟨rfl,rfl,trivial⟩ (by decide) rfl rfl trivial) rfl rfl rfl ?_
 refine ab.ev0n [0,0] [(4,db (decide (y1≥0)))] [] ?_
 refine aa.ret ?_
 cases h
 exact ⟨_,(GStep.keep [4]),.inr rfl,Fin.mk2 (aB.one (.tmp rfl)) [] (by decide) rfl rfl rfl rfl⟩
noncomputable def eO (k:Nat)(a0:am):Option Bool:=(((if (decide ((a0.conditions.length:Int) > 64))=true then some true else (if (decide ((a0.tokens.length:Int) > 256))=true then some true else some (decide ((a0.filters.length:Int) > 4096)))):Option Bool).bind fun x4=>(if x4=true then some true else (if (decide ((if (a0.levels.length:Int) > (if (a0.productions.length:Int) > (a0.nonterminals.length:Int) then (a0.productions.length:Int) else (a0.nonterminals.length:Int)) then (a0.levels.length:Int) else (if (a0.productions.length:Int) > (a0.nonterminals.length:Int) then (a0.productions.length:Int) else (a0.nonterminals.length:Int))) > 2000))=true then some true else ((gm k a0.productions).bind fun y7=>some y7))))
set_option maxRecDepth 100000 in
set_option maxHeartbeats 4000000 in
theorem oO (k:Nat)(a0:am)(r:Bool)(h:eO k a0=some r):SC P 74 [.agg (ah a0)] [] (db r) []:=by
 unfold eO at h
 refine SC.intro3 (N:=33) Tryz.func74 rfl rfl Tryz.ntmps74 rfl ?_
 refine aa.sr (ab.evn (h':=[.live (.var (ah a0))]) [0,0] [(1,.ptr 0 0)] [] ?_)
 refine aa.seq ?_
 refine aa.seq ?_
 refine ao h fun x4 ho3 h=>?_
 refine aa.cut (Q':=fun e s'=>e = .normal∧s'=⟨[(1,.ptr 0 0),(18,db x4)],[.live (.var (ah a0))]⟩) ?_ ?_
 ·
  have h:=ho3
  refine au h (fun hc1 h=>?_) (fun hc1 h=>?_)
  ·
   refine aa.region (ab.ev0n [0,0,0,0,0,2,0,0,0,0,0,0,0,0,0,0] [(18,db true)] [⟨_,hc1⟩] ?_)
   cases h
   exact ⟨_,(GStep.keep [1,18]),rfl,rfl⟩
  refine au h (fun hc2 h=>?_) (fun hc2 h=>?_)
  ·
   refine aa.region (ab.ev0n [0,0,0,0,0,1,0,0,0,0,0,2,0,0,0,0] [(18,db true)] [⟨_,hc1⟩,⟨_,hc2⟩] ?_)
   cases h
   exact ⟨_,(GStep.keep [1,18]),rfl,rfl⟩
  refine aa.region (ab.ev0n [0,0,0,0,0,1,0,0,0,0,0,1,0,0,0,0] [(18,db (decide ((a0.filters.length:Int) > 4096)))] [⟨_,hc1⟩,⟨_,hc2⟩] ?_)
  cases h
  exact ⟨_,(GStep.keep [1,18]),rfl,rfl⟩
 rintro e s' hq
 obtain ⟨rfl,rfl⟩:=hq
 refine aa.condI h rfl (fun hc5 h=>?_) (fun hc5 h=>?_)
 ·
  refine aa.sr (ab.ev0n [0] [(2,db true)] [] ?_)
  refine aa.ret ?_
  cases h
  exact ⟨_,(GStep.trans (GStep.keep [2]) (GStep.ren [] (by decide) rfl rfl)),.inr rfl,Fin.mk2 (aB.one (.tmp rfl)) [] (by decide) rfl rfl rfl rfl⟩
 refine aa.skip ?_
 refine aa.seq ?_
 refine aa.sr (ab.ev0 [0,0,0,0,0,0,0,0,0] [(21,di (a0.nonterminals.length:Int)),(24,di (a0.productions.length:Int)),(27,di (a0.levels.length:Int))] [] ?_)
 refine ab.step (v:=di (if (a0.levels.length:Int) > (if (a0.productions.length:Int) > (a0.nonterminals.length:Int) then (a0.productions.length:Int) else (a0.nonterminals.length:Int)) then (a0.levels.length:Int) else (if (a0.productions.length:Int) > (a0.nonterminals.length:Int) then (a0.productions.length:Int) else (a0.nonterminals.length:Int)))) (jC rfl rfl) rfl rfl rfl ?_
 refine ab.ev0n [0] [(29,db (decide ((if (a0.levels.length:Int) > (if (a0.productions.length:Int) > (a0.nonterminals.length:Int) then (a0.productions.length:Int) else (a0.nonterminals.length:Int)) then (a0.levels.length:Int) else (if (a0.productions.length:Int) > (a0.nonterminals.length:Int) then (a0.productions.length:Int) else (a0.nonterminals.length:Int))) > 2000)))] [] ?_
 refine aa.condI h rfl (fun hc6 h=>?_) (fun hc6 h=>?_)
 ·
  refine aa.sr (ab.ev0n [0] [(2,db true)] [] ?_)
  refine aa.ret ?_
  cases h
  exact ⟨_,(GStep.trans (GStep.keep [2]) (GStep.ren [] (by decide) rfl rfl)),.inr rfl,Fin.mk2 (aB.one (.tmp rfl)) [] (by decide) rfl rfl rfl rfl⟩
 refine aa.skip ?_
 refine aa.seq ?_
 refine ao h fun y7 hy7 h=>?_
 refine aa.region (ab.ev0 [0,0] [(31,.d (af 13 aq a0.productions))] [] ?_)
 refine ab.step (v:=db y7) (ae.callS [] (oc k a0.productions _ hy7) rfl rfl ⟨rfl,rfl,trivial⟩ (by decide) rfl rfl trivial) rfl rfl rfl ?_
 refine ab.ev0n [0] [(2,db y7)] [] ?_
 refine aa.ret ?_
 cases h
 exact ⟨_,(GStep.trans (GStep.keep [2]) (GStep.ren [] (by decide) rfl rfl)),.inr rfl,Fin.mk2 (aB.one (.tmp rfl)) [] (by decide) rfl rfl rfl rfl⟩
noncomputable def eP:Option (List (ByteArray×Bool)):=some (aP ([]:List (ByteArray×Bool)) (⟨#[]⟩:ByteArray) true)
set_option maxRecDepth 100000 in
set_option maxHeartbeats 4000000 in
theorem fL (r:List (ByteArray×Bool))(h:eP=some r):SC P 147 [] [] (.clo 198 [] [.ptr 0 0]) [.live (.var [.mp 1]),.live (.mp (aI D.str D.bool r))]:=by
 unfold eP at h
 refine SC.intro3 (N:=5) Tryz.func147 rfl rfl Tryz.ntmps147 rfl ?_
 refine aa.sr (ab.ev0n [0] [] [] ?_)
 refine aa.sr ?_
 refine ab.step (v:=.mp 0) (ae.makeMap rfl) rfl rfl rfl ?_
 refine ab.hp (h':=[.live (.mp (aI D.str D.bool ([]:List (ByteArray×Bool))))]) (by kernel_rfl) ?_
 refine ab.step0 (ae.updT xF ([]:List (ByteArray×Bool)) (⟨#[]⟩:ByteArray) true (.inr rfl) rfl rfl rfl rfl sX) rfl rfl ?_
 refine ab.hp (h':=[.live (.mp (aI D.str D.bool (aP ([]:List (ByteArray×Bool)) (⟨#[]⟩:ByteArray) true)))]) (by kernel_rfl) ?_
 refine ab.evn (h':=[.live (.mp (aI D.str D.bool (aP ([]:List (ByteArray×Bool)) (⟨#[]⟩:ByteArray) true))),.live (.var [.mp 0])]) [0,0,0] [(1,.ptr 1 0)] [] ?_
 refine aa.sr (ab.ev0n [0,0] [(0,.clo 198 [] [.ptr 1 0])] [] ?_)
 refine aa.ret ?_
 cases h
 exact ⟨_,(GStep.trans (GStep.keep [0]) (GStep.ren [1,0] (by decide) rfl rfl)),.inr rfl,Fin.mk2 (aB.one (.tmp rfl)) [0,1] (by decide) rfl rfl rfl rfl⟩
noncomputable def cB (k:Nat)(a0:ByteArray)(v:Int):Option (Bool⊕Unit):=match k,v with
  | 0,_=>none
  | k+1,v0_0=>(if (decide (v0_0 < (a0.size:Int)))=true then (if (0:Int)≤v0_0∧v0_0 < (a0.size:Int) then (((if (decide ((bM a0 (Int.toNat v0_0))≥97))=true then (if (decide ((bM a0 (Int.toNat v0_0))≤122))=true then some ((bM a0 (Int.toNat v0_0)),true) else (if (decide ((bM a0 (Int.toNat v0_0))≥65))=true then (if (decide ((bM a0 (Int.toNat v0_0))≤90))=true then some ((bM a0 (Int.toNat v0_0)),true) else some ((bM a0 (Int.toNat v0_0)),(decide ((bM a0 (Int.toNat v0_0))=95)))) else some ((bM a0 (Int.toNat v0_0)),(decide ((bM a0 (Int.toNat v0_0))=95))))) else (if (decide ((bM a0 (Int.toNat v0_0))≥65))=true then (if (decide ((bM a0 (Int.toNat v0_0))≤90))=true then some ((bM a0 (Int.toNat v0_0)),true) else some ((bM a0 (Int.toNat v0_0)),(decide ((bM a0 (Int.toNat v0_0))=95)))) else some ((bM a0 (Int.toNat v0_0)),(decide ((bM a0 (Int.toNat v0_0))=95))))):Option (Int×Bool)).bind fun x10=>(((if (!x10.2)=true then (if (decide (v0_0=0))=true then some true else (if (decide (x10.1 < 48))=true then some true else some (decide (x10.1 > 57)))) else some false):Option Bool).bind fun x15=>(if x15=true then some (.inl false) else (cB k a0 (IntKind.wrap .i64 (v0_0+1)))))) else none) else some (.inr ()))
theorem iC:type_of% (@cB.eq_2):=@cB.eq_2
noncomputable def dR (k:Nat)(a0:ByteArray):Option Bool:=(((cB k a0 0):Option (Bool⊕Unit)).bind fun o19=>match o19 with | .inl r17=>(some r17) | .inr x18=>(some (!decide (a0=(⟨#[]⟩:ByteArray)))))
set_option maxRecDepth 100000 in
set_option maxHeartbeats 4000000 in
theorem dX (k:Nat)(a0:ByteArray)(r:Bool)(h:dR k a0=some r):SC P 148 [.d (.str a0)] [] (db r) []:=by
 unfold dR at h
 refine SC.intro3 (N:=49) Tryz.func148 rfl rfl Tryz.ntmps148 rfl ?_
 refine aa.sr (ab.ev0n [0] [] [] ?_)
 refine aa.seq ?_
 refine aa.sr (ab.ev0n [0,0,0] [(7,di (a0.size:Int)),(8,di 0)] [] ?_)
 refine aa.block ?_
 refine ao h fun o19 ho19 h=>?_
 refine aa.cut (Q':=fun e s'=>match o19 with | .inl r17=>((e = .ret)∧Fin P (Tryz.f148.results) 0 [] (db r17) s') | .inr x18=>(e = .exit 0∧s'=⟨[(0,.d (.str a0))],[]⟩)) ?_ ?_
 ·
  have h:=ho19
  refine aa.ghost (GStep.keep [0,7,8]) ?_
  refine aa.loopI (F:=fun k v=>cB k a0 v) (fun v=>⟨[(0,.d (.str a0)),(7,di (a0.size:Int)),(8,di v)],[]⟩) (k:=k) (v:=0) h rfl (fun _=>rfl) ?_
  intro k v0_0 ih h
  have h:=(iC ..).symm.trans h
  refine aa.sr (ab.ev0n [0] [(9,db (decide (v0_0 < (a0.size:Int))))] [] ?_)
  refine aa.seq ?_
  refine aa.condI h rfl (fun hc1 h=>?_) (fun hc1 h=>?_)
  ·
   refine aa.skip ?_
   refine aa.seq ?_
   refine aa.block ?_
   refine aa.sr (ab.ev0n [0,0] [(3,di v0_0)] [] ?_)
   refine aa.seq ?_
   refine aD h fun hb2 h=>?_
   refine aa.region (ab.ev0n [0,0,0,0] [(4,.d (.int .u8 (bM a0 (Int.toNat v0_0))))] [⟨_,hb2.1⟩,⟨_,hb2.2⟩] ?_)
   refine aa.seq ?_
   refine ao h fun x10 ho9 h=>?_
   refine aa.cut (Q':=fun e s'=>e = .normal∧s'=⟨[(0,.d (.str a0)),(3,di v0_0),(4,.d (.int .u8 x10.1)),(5,db x10.2),(7,di (a0.size:Int)),(8,di v0_0)],[]⟩) ?_ ?_
   ·
    have h:=ho9
    refine au h (fun hc3 h=>?_) (fun hc3 h=>?_)
    ·
     refine au h (fun hc4 h=>?_) (fun hc4 h=>?_)
     ·
      refine aa.region (ab.ev0n [0,0,0,1,0,0,0,2,0,0,0,0,0,0,0,0,0,0,0] [(5,db true)] [⟨_,hc3⟩,⟨_,hc4⟩] ?_)
      cases h
      exact ⟨_,(GStep.keep [0,3,4,5,7,8]),rfl,rfl⟩
     refine au h (fun hc5 h=>?_) (fun hc5 h=>?_)
     ·
      refine au h (fun hc6 h=>?_) (fun hc6 h=>?_)
      ·
       refine aa.region (ab.ev0n [0,0,0,1,0,0,0,1,0,0,1,0,0,0,0,2,0,0,0] [(5,db true)] [⟨_,hc3⟩,⟨_,hc4⟩,⟨_,hc5⟩,⟨_,hc6⟩] ?_)
       cases h
       exact ⟨_,(GStep.keep [0,3,4,5,7,8]),rfl,rfl⟩
      refine aa.region (ab.ev0n [0,0,0,1,0,0,0,1,0,0,1,0,0,0,0,1,0,0,0] [(5,db (decide ((bM a0 (Int.toNat v0_0))=95)))] [⟨_,hc3⟩,⟨_,hc4⟩,⟨_,hc5⟩,⟨_,hc6⟩] ?_)
      cases h
      exact ⟨_,(GStep.keep [0,3,4,5,7,8]),rfl,rfl⟩
     refine aa.region (ab.ev0n [0,0,0,1,0,0,0,1,0,0,2,0,0,0,0,0,0,0,0] [(5,db (decide ((bM a0 (Int.toNat v0_0))=95)))] [⟨_,hc3⟩,⟨_,hc4⟩,⟨_,hc5⟩] ?_)
     cases h
     exact ⟨_,(GStep.keep [0,3,4,5,7,8]),rfl,rfl⟩
    refine au h (fun hc7 h=>?_) (fun hc7 h=>?_)
    ·
     refine au h (fun hc8 h=>?_) (fun hc8 h=>?_)
     ·
      refine aa.region (ab.ev0n [0,0,0,2,0,0,0,0,0,0,1,0,0,0,0,2,0,0,0] [(5,db true)] [⟨_,hc3⟩,⟨_,hc7⟩,⟨_,hc8⟩] ?_)
      cases h
      exact ⟨_,(GStep.keep [0,3,4,5,7,8]),rfl,rfl⟩
     refine aa.region (ab.ev0n [0,0,0,2,0,0,0,0,0,0,1,0,0,0,0,1,0,0,0] [(5,db (decide ((bM a0 (Int.toNat v0_0))=95)))] [⟨_,hc3⟩,⟨_,hc7⟩,⟨_,hc8⟩] ?_)
     cases h
     exact ⟨_,(GStep.keep [0,3,4,5,7,8]),rfl,rfl⟩
    refine aa.region (ab.ev0n [0,0,0,2,0,0,0,0,0,0,2,0,0,0,0,0,0,0,0] [(5,db (decide ((bM a0 (Int.toNat v0_0))=95)))] [⟨_,hc3⟩,⟨_,hc7⟩] ?_)
    cases h
    exact ⟨_,(GStep.keep [0,3,4,5,7,8]),rfl,rfl⟩
   rintro e s' hq
   obtain ⟨rfl,rfl⟩:=hq
   refine aa.seq ?_
   refine ao h fun x15 ho14 h=>?_
   refine aa.cut (Q':=fun e s'=>e = .normal∧s'=⟨[(0,.d (.str a0)),(7,di (a0.size:Int)),(8,di v0_0),(45,db x15)],[]⟩) ?_ ?_
   ·
    have h:=ho14
    refine au h (fun hc11 h=>?_) (fun hc11 h=>?_)
    ·
     refine au h (fun hc12 h=>?_) (fun hc12 h=>?_)
     ·
      refine aa.region (ab.ev0n [0,0,0,1,0,0,2,0,0,0,0,0,0,0] [(45,db true)] [⟨_,hc11⟩,⟨_,hc12⟩] ?_)
      cases h
      exact ⟨_,(GStep.keep [0,7,8,45]),rfl,rfl⟩
     refine au h (fun hc13 h=>?_) (fun hc13 h=>?_)
     ·
      refine aa.region (ab.ev0n [0,0,0,1,0,0,1,0,0,0,2,0,0,0] [(45,db true)] [⟨_,hc11⟩,⟨_,hc12⟩,⟨_,hc13⟩] ?_)
      cases h
      exact ⟨_,(GStep.keep [0,7,8,45]),rfl,rfl⟩
     refine aa.region (ab.ev0n [0,0,0,1,0,0,1,0,0,0,1,0,0,0] [(45,db (decide (x10.1 > 57)))] [⟨_,hc11⟩,⟨_,hc12⟩,⟨_,hc13⟩] ?_)
     cases h
     exact ⟨_,(GStep.keep [0,7,8,45]),rfl,rfl⟩
    refine aa.region (ab.ev0n [0,0,0,2,0,0,0,0,0,0,0,0,0,0] [(45,db false)] [⟨_,hc11⟩] ?_)
    cases h
    exact ⟨_,(GStep.keep [0,7,8,45]),rfl,rfl⟩
   rintro e s' hq
   obtain ⟨rfl,rfl⟩:=hq
   refine aa.condI h rfl (fun hc16 h=>?_) (fun hc16 h=>?_)
   ·
    refine aa.sr (ab.ev0n [0] [(2,db false)] [] ?_)
    refine aa.ret ?_
    cases h
    exact ⟨_,(GStep.keep [2]),rfl,Fin.mk2 (aB.one (.tmp rfl)) [] (by decide) rfl rfl rfl rfl⟩
   refine aa.skip ?_
   refine aa.region (ab.ev0n [0,0] [(8,di (IntKind.wrap .i64 (v0_0+1)))] [] ?_)
   exact aM.ghost (GStep.keep [0,7,8]) (ih (IntKind.wrap .i64 (v0_0+1)) h)
  refine aa.exit ?_
  cases h
  exact ⟨_,(GStep.keep [0]),rfl,rfl⟩
 rcases o19 with r17 | x18
 ·
  rintro e s' hq
  obtain ⟨rfl,hq⟩:=hq
  cases h
  exact ⟨_,GStep.refl _ _,.inr rfl,hq⟩
 rintro e s' hq
 obtain ⟨rfl,rfl⟩:=hq
 refine aa.sr (ab.ev0n [0,0,0] [(2,db (!decide (a0=(⟨#[]⟩:ByteArray))))] [] ?_)
 refine aa.ret ?_
 cases h
 exact ⟨_,(GStep.keep [2]),.inr rfl,Fin.mk2 (aB.one (.tmp rfl)) [] (by decide) rfl rfl rfl rfl⟩
noncomputable def cv (a0:ByteArray)(a1:List (ByteArray×Bool)):Option (Bool×(List (ByteArray×Bool))):=(if ((bu a1 a0).getD false)=true then some (false,a1) else some (true,(aP a1 a0 true)))
set_option maxRecDepth 100000 in
set_option maxHeartbeats 4000000 in
theorem bm (a0:ByteArray)(a1:List (ByteArray×Bool))(r:Bool×(List (ByteArray×Bool)))(h:cv a0 a1=some r):SC P 198 [.d (.str a0),.ptr 0 0] [(.var [.mp 1]),(.mp (aI D.str D.bool a1))] (db r.1) [.live (.var [.mp 1]),.live (.mp (aI D.str D.bool r.2))]:=by
 unfold cv at h
 refine SC.intro3 (N:=9) Tryz.func198 rfl rfl Tryz.ntmps198 rfl ?_
 refine aa.sr (ab.ev0n [0] [] [] ?_)
 refine aa.seq ?_
 refine aa.sr (ab.ev0 [0,0] [(4,.mp 1),(5,.d (.str a0))] [] ?_)
 refine ab.step (v:=db ((bu a1 a0).getD false)) (ae.lookupT xF a1 a0 false rfl rfl rfl rfl sX yj) rfl rfl rfl ?_
 refine ab.nil ?_
 refine aa.condI h rfl (fun hc1 h=>?_) (fun hc1 h=>?_)
 ·
  refine aa.sr (ab.ev0n [0] [(3,db false)] [] ?_)
  refine aa.ret ?_
  cases h
  exact ⟨_,(GStep.keep [3]),.inr rfl,Fin.mk2 (aB.one (.tmp rfl)) [0,1] (by decide) rfl rfl rfl rfl⟩
 refine aa.skip ?_
 refine aa.sr (ab.ev0 [0,0] [(7,.mp 1),(8,.d (.str a0))] [] ?_)
 refine ab.step0 (ae.updT xF a1 a0 true (.inl rfl) rfl rfl rfl rfl sX) rfl rfl ?_
 refine ab.hp (h':=[.live (.var [.mp 1]),.live (.mp (aI D.str D.bool (aP a1 a0 true)))]) (by kernel_rfl) ?_
 refine ab.nil ?_
 refine aa.sr (ab.ev0n [0] [(3,db true)] [] ?_)
 refine aa.ret ?_
 cases h
 exact ⟨_,(GStep.keep [3]),.inr rfl,Fin.mk2 (aB.one (.tmp rfl)) [0,1] (by decide) rfl rfl rfl rfl⟩
noncomputable def gI (a0:ap)(a1:Int):Option Int:=(if (decide (a1 < 2))=true then some 64 else (if (0:Int)≤(IntKind.wrap .i64 (a1 - 2))∧(IntKind.wrap .i64 (a1 - 2)) < (a0.nodes.length:Int) then some ((nth a0.nodes (IntKind.wrap .i64 (a1 - 2))).var) else none))
set_option maxRecDepth 100000 in
set_option maxHeartbeats 4000000 in
theorem gQ (a0:ap)(a1:Int)(r:Int)(h:gI a0 a1=some r):SC P 102 [.agg (an a0),di a1] [] (di r) []:=by
 unfold gI at h
 refine SC.intro3 (N:=14) Tryz.func102 rfl rfl Tryz.ntmps102 rfl ?_
 refine aa.sr (ab.evn (h':=[.live (.var (an a0))]) [0,0] [(2,.ptr 0 0)] [] ?_)
 refine aa.seq ?_
 refine aa.sr (ab.ev0n [0,0] [(6,db (decide (a1 < 2)))] [] ?_)
 refine aa.condI h rfl (fun hc1 h=>?_) (fun hc1 h=>?_)
 ·
  refine aa.sr (ab.ev0n [0] [(4,di 64)] [] ?_)
  refine aa.ret ?_
  cases h
  exact ⟨_,(GStep.trans (GStep.keep [4]) (GStep.ren [] (by decide) rfl rfl)),.inr rfl,Fin.mk2 (aB.one (.tmp rfl)) [] (by decide) rfl rfl rfl rfl⟩
 refine aa.skip ?_
 refine aa.seq ?_
 refine aD h fun hb2 h=>?_
 refine aa.region (ab.ev0n [0,0,0,0,0,0,0,0] [(4,di ((nth a0.nodes (IntKind.wrap .i64 (a1 - 2))).var))] [⟨_,hb2.1⟩,⟨_,hb2.2⟩] ?_)
 refine aa.ret ?_
 cases h
 exact ⟨_,(GStep.trans (GStep.keep [4]) (GStep.ren [] (by decide) rfl rfl)),.inr rfl,Fin.mk2 (aB.one (.tmp rfl)) [] (by decide) rfl rfl rfl rfl⟩
noncomputable def bx:(k:Nat)→(a0:Int)→(a1:Int)→(a2:List (Int×Int))→(a3:List ai)→(a4:List ai)→Option (Int×(List (Int×Int))×(List ai))
  | 0,_,_,_,_,_=>none
  | k+1,a0,a1,a2,a3,a4=>(if (bu a2 a0).isSome=true then some (((bu a2 a0).getD 0),a2,a4) else (if (0:Int)≤(IntKind.wrap .i64 (a0 - 2))∧(IntKind.wrap .i64 (a0 - 2)) < (a3.length:Int) then ((bx k ((nth a3 (IntKind.wrap .i64 (a0 - 2))).low) a1 a2 a3 a4).bind fun y3=>((bx k ((nth a3 (IntKind.wrap .i64 (a0 - 2))).high) a1 y3.2.1 a3 y3.2.2).bind fun y4=>(if (y4.2.2.length+([(⟨(nth a3 (IntKind.wrap .i64 (a0 - 2))).var,y3.1,y4.1⟩:ai)]:List ai).length)*24≤140737488355328 then some (((bu (aP y4.2.1 a0 (IntKind.wrap .i64 (((y4.2.2++([(⟨(nth a3 (IntKind.wrap .i64 (a0 - 2))).var,y3.1,y4.1⟩:ai)]:List ai)).length:Int)+1))) a0).getD 0),(aP y4.2.1 a0 (IntKind.wrap .i64 (((y4.2.2++([(⟨(nth a3 (IntKind.wrap .i64 (a0 - 2))).var,y3.1,y4.1⟩:ai)]:List ai)).length:Int)+1))),(y4.2.2++([(⟨(nth a3 (IntKind.wrap .i64 (a0 - 2))).var,y3.1,y4.1⟩:ai)]:List ai))) else none))) else none))
theorem gC:type_of% (@bx.eq_2):=@bx.eq_2
set_option maxRecDepth 100000 in
set_option maxHeartbeats 4000000 in
theorem hX (k:Nat)(a0:Int)(a1:Int)(a2:List (Int×Int))(a3:List ai)(a4:List ai)(r:Int×(List (Int×Int))×(List ai))(h:bx k a0 a1 a2 a3 a4=some r):SC P 215 [di a0,.ptr 0 0,.ptr 1 0,.ptr 2 0,.ptr 3 0] [(.var [.mp 4]),(.var [.ptr 5 0]),(.var [.clo 215 [] [.ptr 0 0,.ptr 1 0,.ptr 2 0,.ptr 3 0]]),(.var [.osl 6 0 a4.length 3,di a1]),(.mp (aI (kI .i64) (kI .i64) a2)),(.var [.d (af 3 ag a3),.d .nilm]),(.arr 3 a4.length false (row ag a4))] (di r.1) [.live (.var [.mp 4]),.live (.var [.ptr 5 0]),.live (.var [.clo 215 [] [.ptr 0 0,.ptr 1 0,.ptr 2 0,.ptr 3 0]]),.live (.var [.osl 7 0 r.2.2.length 3,di a1]),.live (.mp (aI (kI .i64) (kI .i64) r.2.1)),.live (.var [.d (af 3 ag a3),.d .nilm]),.freed,.live (.arr 3 r.2.2.length false (row ag r.2.2))]:=by
 induction k generalizing a0 a1 a2 a3 a4 r with
 | zero=>
  have h:(none:Option (Int×(List (Int×Int))×(List ai)))=some r:=h
  cases h
 | succ k ihr=>
 have h:=(gC ..).symm.trans h
 refine SC.intro3 (N:=55) Tryz.func215 rfl rfl Tryz.ntmps215 rfl ?_
 refine aa.sr (ab.ev0n [0] [] [] ?_)
 refine aa.seq ?_
 refine aa.sr (ab.ev0 [0,0] [(13,.mp 4),(14,di a0)] [] ?_)
 refine ab.step (v:=.tup [di ((bu a2 a0).getD 0),db ((bu a2 a0).isSome)]) (ae.lookupOkT kR a2 a0 0 rfl rfl rfl rfl jd vN) rfl rfl rfl ?_
 refine ab.ev0n [0,0,0,0,0] [(7,di ((bu a2 a0).getD 0)),(8,db ((bu a2 a0).isSome))] [] ?_
 refine aa.sr (ab.ev0n [0] [(18,db ((bu a2 a0).isSome))] [] ?_)
 refine aa.condI h rfl (fun hc1 h=>?_) (fun hc1 h=>?_)
 ·
  refine aa.sr (ab.ev0n [0,0] [(6,di ((bu a2 a0).getD 0))] [] ?_)
  refine aa.ret ?_
  cases h
  exact ⟨_,(GStep.trans (GStep.keep [6]) (GStep.reid 6 rfl)),.inr rfl,Fin.mk2 (aB.one (.tmp rfl)) [0,1,2,3,4,5,6,7] (by decide) rfl rfl rfl rfl⟩
 refine aa.skip ?_
 refine aa.seq ?_
 refine aD h fun hb2 h=>?_
 refine aa.region (ab.evn (h':=[.live (.var [.mp 4]),.live (.var [.ptr 5 0]),.live (.var [.clo 215 [] [.ptr 0 0,.ptr 1 0,.ptr 2 0,.ptr 3 0]]),.live (.var [.osl 6 0 a4.length 3,di a1]),.live (.mp (aI (kI .i64) (kI .i64) a2)),.live (.var [.d (af 3 ag a3),.d .nilm]),.live (.arr 3 a4.length false (row ag a4)),.live (.var (aK (nth a3 (IntKind.wrap .i64 (a0 - 2)))))]) [0,0,0,0,0,0,0,0,0,0] [(9,.ptr 7 0)] [⟨_,hb2.1⟩,⟨_,hb2.2⟩] ?_)
 refine aa.seq ?_
 refine ao h fun y3 hy3 h=>?_
 refine aa.region (ab.ev0 [0,0,0] [(28,.clo 215 [] [.ptr 0 0,.ptr 1 0,.ptr 2 0,.ptr 3 0]),(30,di ((nth a3 (IntKind.wrap .i64 (a0 - 2))).low))] [] ?_)
 refine ab.step (v:=di y3.1) (ae.callS [0,1,2,3,4,5,6] (ihr ((nth a3 (IntKind.wrap .i64 (a0 - 2))).low) a1 a2 a3 a4 _ hy3) rfl rfl ⟨rfl,rfl,rfl,rfl,rfl,trivial⟩ (by decide) rfl rfl ⟨⟨rfl,rfl⟩,⟨rfl,rfl⟩,⟨rfl,rfl⟩,⟨rfl,rfl⟩,⟨rfl,rfl⟩,⟨rfl,rfl⟩,⟨rfl,rfl⟩,trivial⟩) rfl rfl rfl ?_
 refine ab.hp (h':=[.live (.var [.mp 4]),.live (.var [.ptr 5 0]),.live (.var [.clo 215 [] [.ptr 0 0,.ptr 1 0,.ptr 2 0,.ptr 3 0]]),.live (.var [.osl 8 0 y3.2.2.length 3,di a1]),.live (.mp (aI (kI .i64) (kI .i64) y3.2.1)),.live (.var [.d (af 3 ag a3),.d .nilm]),.freed,.live (.var (aK (nth a3 (IntKind.wrap .i64 (a0 - 2))))),.live (.arr 3 y3.2.2.length false (row ag y3.2.2))]) (by kernel_rfl) ?_
 refine ab.ev0n [0] [(10,di y3.1)] [] ?_
 refine aa.seq ?_
 refine ao h fun y4 hy4 h=>?_
 refine aa.region (ab.ev0 [0,0,0] [(32,.clo 215 [] [.ptr 0 0,.ptr 1 0,.ptr 2 0,.ptr 3 0]),(34,di ((nth a3 (IntKind.wrap .i64 (a0 - 2))).high))] [] ?_)
 refine ab.step (v:=di y4.1) (ae.callS [0,1,2,3,4,5,8] (ihr ((nth a3 (IntKind.wrap .i64 (a0 - 2))).high) a1 y3.2.1 a3 y3.2.2 _ hy4) rfl rfl ⟨rfl,rfl,rfl,rfl,rfl,trivial⟩ (by decide) rfl rfl ⟨⟨rfl,rfl⟩,⟨rfl,rfl⟩,⟨rfl,rfl⟩,⟨rfl,rfl⟩,⟨rfl,rfl⟩,⟨rfl,rfl⟩,⟨rfl,rfl⟩,trivial⟩) rfl rfl rfl ?_
 refine ab.hp (h':=[.live (.var [.mp 4]),.live (.var [.ptr 5 0]),.live (.var [.clo 215 [] [.ptr 0 0,.ptr 1 0,.ptr 2 0,.ptr 3 0]]),.live (.var [.osl 9 0 y4.2.2.length 3,di a1]),.live (.mp (aI (kI .i64) (kI .i64) y4.2.1)),.live (.var [.d (af 3 ag a3),.d .nilm]),.freed,.live (.var (aK (nth a3 (IntKind.wrap .i64 (a0 - 2))))),.freed,.live (.arr 3 y4.2.2.length false (row ag y4.2.2))]) (by kernel_rfl) ?_
 refine ab.ev0n [0] [(11,di y4.1)] [] ?_
 refine aa.seq ?_
 refine aD h fun hz5 h=>?_
 refine aa.region (ab.ev0 [0,0,0,0,0,0,0] [(37,.osl 9 0 y4.2.2.length 3),(42,.agg (aK (⟨(nth a3 (IntKind.wrap .i64 (a0 - 2))).var,y3.1,y4.1⟩:ai)))] [] ?_)
 refine ab.step (v:=.d (af 3 ag ([(⟨(nth a3 (IntKind.wrap .i64 (a0 - 2))).var,y3.1,y4.1⟩:ai)]:List ai))) (ae.bsliceX [di ((nth a3 (IntKind.wrap .i64 (a0 - 2))).var),di y3.1,di y4.1] [.d (.int .i64 ((nth a3 (IntKind.wrap .i64 (a0 - 2))).var)),.d (.int .i64 y3.1),.d (.int .i64 y4.1)] (row ag ([(⟨(nth a3 (IntKind.wrap .i64 (a0 - 2))).var,y3.1,y4.1⟩:ai)]:List ai)) rfl dP ji rfl rfl (by kernel_rfl) ⟨rfl,rfl,rfl,trivial⟩ (by kernel_rfl) (by kernel_rfl)) rfl rfl rfl ?_
 refine ab.step (v:=.osl 10 0 ((y4.2.2++([(⟨(nth a3 (IntKind.wrap .i64 (a0 - 2))).var,y3.1,y4.1⟩:ai)]:List ai)).length) 3) (ae.appTn ag y4.2.2 ([(⟨(nth a3 (IntKind.wrap .i64 (a0 - 2))).var,y3.1,y4.1⟩:ai)]:List ai) rfl rfl rfl rfl rfl dP mY pF rfl hz5) rfl rfl rfl ?_
 refine ab.hp (h':=[.live (.var [.mp 4]),.live (.var [.ptr 5 0]),.live (.var [.clo 215 [] [.ptr 0 0,.ptr 1 0,.ptr 2 0,.ptr 3 0]]),.live (.var [.osl 9 0 y4.2.2.length 3,di a1]),.live (.mp (aI (kI .i64) (kI .i64) y4.2.1)),.live (.var [.d (af 3 ag a3),.d .nilm]),.freed,.live (.var (aK (nth a3 (IntKind.wrap .i64 (a0 - 2))))),.freed,.freed,.live (.arr 3 ((y4.2.2++([(⟨(nth a3 (IntKind.wrap .i64 (a0 - 2))).var,y3.1,y4.1⟩:ai)]:List ai)).length) false (row ag (y4.2.2++([(⟨(nth a3 (IntKind.wrap .i64 (a0 - 2))).var,y3.1,y4.1⟩:ai)]:List ai))))]) (by kernel_rfl) ?_
 refine ab.evn (h':=[.live (.var [.mp 4]),.live (.var [.ptr 5 0]),.live (.var [.clo 215 [] [.ptr 0 0,.ptr 1 0,.ptr 2 0,.ptr 3 0]]),.live (.var [.osl 10 0 ((y4.2.2++([(⟨(nth a3 (IntKind.wrap .i64 (a0 - 2))).var,y3.1,y4.1⟩:ai)]:List ai)).length) 3,di a1]),.live (.mp (aI (kI .i64) (kI .i64) y4.2.1)),.live (.var [.d (af 3 ag a3),.d .nilm]),.freed,.live (.var (aK (nth a3 (IntKind.wrap .i64 (a0 - 2))))),.freed,.freed,.live (.arr 3 ((y4.2.2++([(⟨(nth a3 (IntKind.wrap .i64 (a0 - 2))).var,y3.1,y4.1⟩:ai)]:List ai)).length) false (row ag (y4.2.2++([(⟨(nth a3 (IntKind.wrap .i64 (a0 - 2))).var,y3.1,y4.1⟩:ai)]:List ai))))]) [0,0] [] [] ?_
 refine aa.sr (ab.ev0 [0,0,0,0,0,0] [(46,.mp 4),(47,di a0),(51,di (IntKind.wrap .i64 (((y4.2.2++([(⟨(nth a3 (IntKind.wrap .i64 (a0 - 2))).var,y3.1,y4.1⟩:ai)]:List ai)).length:Int)+1)))] [] ?_)
 refine ab.step0 (ae.updT kR y4.2.1 a0 (IntKind.wrap .i64 (((y4.2.2++([(⟨(nth a3 (IntKind.wrap .i64 (a0 - 2))).var,y3.1,y4.1⟩:ai)]:List ai)).length:Int)+1)) (.inl rfl) rfl rfl rfl rfl jd) rfl rfl ?_
 refine ab.hp (h':=[.live (.var [.mp 4]),.live (.var [.ptr 5 0]),.live (.var [.clo 215 [] [.ptr 0 0,.ptr 1 0,.ptr 2 0,.ptr 3 0]]),.live (.var [.osl 10 0 ((y4.2.2++([(⟨(nth a3 (IntKind.wrap .i64 (a0 - 2))).var,y3.1,y4.1⟩:ai)]:List ai)).length) 3,di a1]),.live (.mp (aI (kI .i64) (kI .i64) (aP y4.2.1 a0 (IntKind.wrap .i64 (((y4.2.2++([(⟨(nth a3 (IntKind.wrap .i64 (a0 - 2))).var,y3.1,y4.1⟩:ai)]:List ai)).length:Int)+1))))),.live (.var [.d (af 3 ag a3),.d .nilm]),.freed,.live (.var (aK (nth a3 (IntKind.wrap .i64 (a0 - 2))))),.freed,.freed,.live (.arr 3 ((y4.2.2++([(⟨(nth a3 (IntKind.wrap .i64 (a0 - 2))).var,y3.1,y4.1⟩:ai)]:List ai)).length) false (row ag (y4.2.2++([(⟨(nth a3 (IntKind.wrap .i64 (a0 - 2))).var,y3.1,y4.1⟩:ai)]:List ai))))]) (by kernel_rfl) ?_
 refine ab.nil ?_
 refine aa.sr (ab.ev0 [0,0] [(52,.mp 4),(53,di a0)] [] ?_)
 refine ab.step (v:=di ((bu (aP y4.2.1 a0 (IntKind.wrap .i64 (((y4.2.2++([(⟨(nth a3 (IntKind.wrap .i64 (a0 - 2))).var,y3.1,y4.1⟩:ai)]:List ai)).length:Int)+1))) a0).getD 0)) (ae.lookupT kR (aP y4.2.1 a0 (IntKind.wrap .i64 (((y4.2.2++([(⟨(nth a3 (IntKind.wrap .i64 (a0 - 2))).var,y3.1,y4.1⟩:ai)]:List ai)).length:Int)+1))) a0 0 rfl rfl rfl rfl jd vN) rfl rfl rfl ?_
 refine ab.ev0n [0] [(6,di ((bu (aP y4.2.1 a0 (IntKind.wrap .i64 (((y4.2.2++([(⟨(nth a3 (IntKind.wrap .i64 (a0 - 2))).var,y3.1,y4.1⟩:ai)]:List ai)).length:Int)+1))) a0).getD 0))] [] ?_
 refine aa.ret ?_
 cases h
 exact ⟨_,(GStep.trans (GStep.keep [6]) (GStep.ren [0,1,2,3,4,5,6,10] (by decide) rfl rfl)),.inr rfl,Fin.mk2 (aB.one (.tmp rfl)) [0,1,2,3,4,5,6,7] (by decide) rfl rfl rfl rfl⟩
noncomputable def cq:(k:Nat)→(a0:Int)→(a1:Int)→(a2:List (Int×Int))→(a3:List ai)→Option (Int×(List (Int×Int))×(List ai))
  | 0,_,_,_,_=>none
  | k+1,a0,a1,a2,a3=>(if (bu a2 a0).isSome=true then some (((bu a2 a0).getD 0),a2,([]:List ai)) else (if (0:Int)≤(IntKind.wrap .i64 (a0 - 2))∧(IntKind.wrap .i64 (a0 - 2)) < (a3.length:Int) then ((cq k ((nth a3 (IntKind.wrap .i64 (a0 - 2))).low) a1 a2 a3).bind fun y3=>((bx k ((nth a3 (IntKind.wrap .i64 (a0 - 2))).high) a1 y3.2.1 a3 y3.2.2).bind fun y4=>(if (y4.2.2.length+([(⟨(nth a3 (IntKind.wrap .i64 (a0 - 2))).var,y3.1,y4.1⟩:ai)]:List ai).length)*24≤140737488355328 then some (((bu (aP y4.2.1 a0 (IntKind.wrap .i64 (((y4.2.2++([(⟨(nth a3 (IntKind.wrap .i64 (a0 - 2))).var,y3.1,y4.1⟩:ai)]:List ai)).length:Int)+1))) a0).getD 0),(aP y4.2.1 a0 (IntKind.wrap .i64 (((y4.2.2++([(⟨(nth a3 (IntKind.wrap .i64 (a0 - 2))).var,y3.1,y4.1⟩:ai)]:List ai)).length:Int)+1))),(y4.2.2++([(⟨(nth a3 (IntKind.wrap .i64 (a0 - 2))).var,y3.1,y4.1⟩:ai)]:List ai))) else none))) else none))
theorem ii:type_of% (@cq.eq_2):=@cq.eq_2
set_option maxRecDepth 100000 in
set_option maxHeartbeats 4000000 in
theorem iJ (k:Nat)(a0:Int)(a1:Int)(a2:List (Int×Int))(a3:List ai)(r:Int×(List (Int×Int))×(List ai))(h:cq k a0 a1 a2 a3=some r):SC P 215 [di a0,.ptr 0 0,.ptr 1 0,.ptr 2 0,.ptr 3 0] [(.var [.mp 4]),(.var [.ptr 5 0]),(.var [.clo 215 [] [.ptr 0 0,.ptr 1 0,.ptr 2 0,.ptr 3 0]]),(.var [.nsl,di a1]),(.mp (aI (kI .i64) (kI .i64) a2)),(.var [.d (af 3 ag a3),.d .nilm])] (di r.1) [.live (.var [.mp 4]),.live (.var [.ptr 5 0]),.live (.var [.clo 215 [] [.ptr 0 0,.ptr 1 0,.ptr 2 0,.ptr 3 0]]),.live (.var [.osl 6 0 r.2.2.length 3,di a1]),.live (.mp (aI (kI .i64) (kI .i64) r.2.1)),.live (.var [.d (af 3 ag a3),.d .nilm]),.live (.arr 3 r.2.2.length false (row ag r.2.2))]:=by
 induction k generalizing a0 a1 a2 a3 r with
 | zero=>
  have h:(none:Option (Int×(List (Int×Int))×(List ai)))=some r:=h
  cases h
 | succ k ihr=>
 have h:=(ii ..).symm.trans h
 refine SC.intro3 (N:=55) Tryz.func215 rfl rfl Tryz.ntmps215 rfl ?_
 refine aa.sr (ab.ev0n [0] [] [] ?_)
 refine aa.seq ?_
 refine aa.sr (ab.ev0 [0,0] [(13,.mp 4),(14,di a0)] [] ?_)
 refine ab.step (v:=.tup [di ((bu a2 a0).getD 0),db ((bu a2 a0).isSome)]) (ae.lookupOkT kR a2 a0 0 rfl rfl rfl rfl jd vN) rfl rfl rfl ?_
 refine ab.ev0n [0,0,0,0,0] [(7,di ((bu a2 a0).getD 0)),(8,db ((bu a2 a0).isSome))] [] ?_
 refine aa.sr (ab.ev0n [0] [(18,db ((bu a2 a0).isSome))] [] ?_)
 refine aa.condI h rfl (fun hc1 h=>?_) (fun hc1 h=>?_)
 ·
  refine aa.sr (ab.ev0n [0,0] [(6,di ((bu a2 a0).getD 0))] [] ?_)
  refine aa.ret ?_
  cases h
  exact ⟨_,(GStep.trans (GStep.keep [6]) (GStep.own 3 0 3 (row ag ([]:List ai)) rfl rfl rfl)),.inr rfl,Fin.mk2 (aB.one (.tmp rfl)) [0,1,2,3,4,5,6] (by decide) rfl rfl rfl rfl⟩
 refine aa.skip ?_
 refine aa.seq ?_
 refine aD h fun hb2 h=>?_
 refine aa.region (ab.evn (h':=[.live (.var [.mp 4]),.live (.var [.ptr 5 0]),.live (.var [.clo 215 [] [.ptr 0 0,.ptr 1 0,.ptr 2 0,.ptr 3 0]]),.live (.var [.nsl,di a1]),.live (.mp (aI (kI .i64) (kI .i64) a2)),.live (.var [.d (af 3 ag a3),.d .nilm]),.live (.var (aK (nth a3 (IntKind.wrap .i64 (a0 - 2)))))]) [0,0,0,0,0,0,0,0,0,0] [(9,.ptr 6 0)] [⟨_,hb2.1⟩,⟨_,hb2.2⟩] ?_)
 refine aa.seq ?_
 refine ao h fun y3 hy3 h=>?_
 refine aa.region (ab.ev0 [0,0,0] [(28,.clo 215 [] [.ptr 0 0,.ptr 1 0,.ptr 2 0,.ptr 3 0]),(30,di ((nth a3 (IntKind.wrap .i64 (a0 - 2))).low))] [] ?_)
 refine ab.step (v:=di y3.1) (ae.callS [0,1,2,3,4,5] (ihr ((nth a3 (IntKind.wrap .i64 (a0 - 2))).low) a1 a2 a3 _ hy3) rfl rfl ⟨rfl,rfl,rfl,rfl,rfl,trivial⟩ (by decide) rfl rfl ⟨⟨rfl,rfl⟩,⟨rfl,rfl⟩,⟨rfl,rfl⟩,⟨rfl,rfl⟩,⟨rfl,rfl⟩,⟨rfl,rfl⟩,trivial⟩) rfl rfl rfl ?_
 refine ab.hp (h':=[.live (.var [.mp 4]),.live (.var [.ptr 5 0]),.live (.var [.clo 215 [] [.ptr 0 0,.ptr 1 0,.ptr 2 0,.ptr 3 0]]),.live (.var [.osl 7 0 y3.2.2.length 3,di a1]),.live (.mp (aI (kI .i64) (kI .i64) y3.2.1)),.live (.var [.d (af 3 ag a3),.d .nilm]),.live (.var (aK (nth a3 (IntKind.wrap .i64 (a0 - 2))))),.live (.arr 3 y3.2.2.length false (row ag y3.2.2))]) (by kernel_rfl) ?_
 refine ab.ev0n [0] [(10,di y3.1)] [] ?_
 refine aa.seq ?_
 refine ao h fun y4 hy4 h=>?_
 refine aa.region (ab.ev0 [0,0,0] [(32,.clo 215 [] [.ptr 0 0,.ptr 1 0,.ptr 2 0,.ptr 3 0]),(34,di ((nth a3 (IntKind.wrap .i64 (a0 - 2))).high))] [] ?_)
 refine ab.step (v:=di y4.1) (ae.callS [0,1,2,3,4,5,7] (hX k ((nth a3 (IntKind.wrap .i64 (a0 - 2))).high) a1 y3.2.1 a3 y3.2.2 _ hy4) rfl rfl ⟨rfl,rfl,rfl,rfl,rfl,trivial⟩ (by decide) rfl rfl ⟨⟨rfl,rfl⟩,⟨rfl,rfl⟩,⟨rfl,rfl⟩,⟨rfl,rfl⟩,⟨rfl,rfl⟩,⟨rfl,rfl⟩,⟨rfl,rfl⟩,trivial⟩) rfl rfl rfl ?_
 refine ab.hp (h':=[.live (.var [.mp 4]),.live (.var [.ptr 5 0]),.live (.var [.clo 215 [] [.ptr 0 0,.ptr 1 0,.ptr 2 0,.ptr 3 0]]),.live (.var [.osl 8 0 y4.2.2.length 3,di a1]),.live (.mp (aI (kI .i64) (kI .i64) y4.2.1)),.live (.var [.d (af 3 ag a3),.d .nilm]),.live (.var (aK (nth a3 (IntKind.wrap .i64 (a0 - 2))))),.freed,.live (.arr 3 y4.2.2.length false (row ag y4.2.2))]) (by kernel_rfl) ?_
 refine ab.ev0n [0] [(11,di y4.1)] [] ?_
 refine aa.seq ?_
 refine aD h fun hz5 h=>?_
 refine aa.region (ab.ev0 [0,0,0,0,0,0,0] [(37,.osl 8 0 y4.2.2.length 3),(42,.agg (aK (⟨(nth a3 (IntKind.wrap .i64 (a0 - 2))).var,y3.1,y4.1⟩:ai)))] [] ?_)
 refine ab.step (v:=.d (af 3 ag ([(⟨(nth a3 (IntKind.wrap .i64 (a0 - 2))).var,y3.1,y4.1⟩:ai)]:List ai))) (ae.bsliceX [di ((nth a3 (IntKind.wrap .i64 (a0 - 2))).var),di y3.1,di y4.1] [.d (.int .i64 ((nth a3 (IntKind.wrap .i64 (a0 - 2))).var)),.d (.int .i64 y3.1),.d (.int .i64 y4.1)] (row ag ([(⟨(nth a3 (IntKind.wrap .i64 (a0 - 2))).var,y3.1,y4.1⟩:ai)]:List ai)) rfl dP ji rfl rfl (by kernel_rfl) ⟨rfl,rfl,rfl,trivial⟩ (by kernel_rfl) (by kernel_rfl)) rfl rfl rfl ?_
 refine ab.step (v:=.osl 9 0 ((y4.2.2++([(⟨(nth a3 (IntKind.wrap .i64 (a0 - 2))).var,y3.1,y4.1⟩:ai)]:List ai)).length) 3) (ae.appTn ag y4.2.2 ([(⟨(nth a3 (IntKind.wrap .i64 (a0 - 2))).var,y3.1,y4.1⟩:ai)]:List ai) rfl rfl rfl rfl rfl dP mY pF rfl hz5) rfl rfl rfl ?_
 refine ab.hp (h':=[.live (.var [.mp 4]),.live (.var [.ptr 5 0]),.live (.var [.clo 215 [] [.ptr 0 0,.ptr 1 0,.ptr 2 0,.ptr 3 0]]),.live (.var [.osl 8 0 y4.2.2.length 3,di a1]),.live (.mp (aI (kI .i64) (kI .i64) y4.2.1)),.live (.var [.d (af 3 ag a3),.d .nilm]),.live (.var (aK (nth a3 (IntKind.wrap .i64 (a0 - 2))))),.freed,.freed,.live (.arr 3 ((y4.2.2++([(⟨(nth a3 (IntKind.wrap .i64 (a0 - 2))).var,y3.1,y4.1⟩:ai)]:List ai)).length) false (row ag (y4.2.2++([(⟨(nth a3 (IntKind.wrap .i64 (a0 - 2))).var,y3.1,y4.1⟩:ai)]:List ai))))]) (by kernel_rfl) ?_
 refine ab.evn (h':=[.live (.var [.mp 4]),.live (.var [.ptr 5 0]),.live (.var [.clo 215 [] [.ptr 0 0,.ptr 1 0,.ptr 2 0,.ptr 3 0]]),.live (.var [.osl 9 0 ((y4.2.2++([(⟨(nth a3 (IntKind.wrap .i64 (a0 - 2))).var,y3.1,y4.1⟩:ai)]:List ai)).length) 3,di a1]),.live (.mp (aI (kI .i64) (kI .i64) y4.2.1)),.live (.var [.d (af 3 ag a3),.d .nilm]),.live (.var (aK (nth a3 (IntKind.wrap .i64 (a0 - 2))))),.freed,.freed,.live (.arr 3 ((y4.2.2++([(⟨(nth a3 (IntKind.wrap .i64 (a0 - 2))).var,y3.1,y4.1⟩:ai)]:List ai)).length) false (row ag (y4.2.2++([(⟨(nth a3 (IntKind.wrap .i64 (a0 - 2))).var,y3.1,y4.1⟩:ai)]:List ai))))]) [0,0] [] [] ?_
 refine aa.sr (ab.ev0 [0,0,0,0,0,0] [(46,.mp 4),(47,di a0),(51,di (IntKind.wrap .i64 (((y4.2.2++([(⟨(nth a3 (IntKind.wrap .i64 (a0 - 2))).var,y3.1,y4.1⟩:ai)]:List ai)).length:Int)+1)))] [] ?_)
 refine ab.step0 (ae.updT kR y4.2.1 a0 (IntKind.wrap .i64 (((y4.2.2++([(⟨(nth a3 (IntKind.wrap .i64 (a0 - 2))).var,y3.1,y4.1⟩:ai)]:List ai)).length:Int)+1)) (.inl rfl) rfl rfl rfl rfl jd) rfl rfl ?_
 refine ab.hp (h':=[.live (.var [.mp 4]),.live (.var [.ptr 5 0]),.live (.var [.clo 215 [] [.ptr 0 0,.ptr 1 0,.ptr 2 0,.ptr 3 0]]),.live (.var [.osl 9 0 ((y4.2.2++([(⟨(nth a3 (IntKind.wrap .i64 (a0 - 2))).var,y3.1,y4.1⟩:ai)]:List ai)).length) 3,di a1]),.live (.mp (aI (kI .i64) (kI .i64) (aP y4.2.1 a0 (IntKind.wrap .i64 (((y4.2.2++([(⟨(nth a3 (IntKind.wrap .i64 (a0 - 2))).var,y3.1,y4.1⟩:ai)]:List ai)).length:Int)+1))))),.live (.var [.d (af 3 ag a3),.d .nilm]),.live (.var (aK (nth a3 (IntKind.wrap .i64 (a0 - 2))))),.freed,.freed,.live (.arr 3 ((y4.2.2++([(⟨(nth a3 (IntKind.wrap .i64 (a0 - 2))).var,y3.1,y4.1⟩:ai)]:List ai)).length) false (row ag (y4.2.2++([(⟨(nth a3 (IntKind.wrap .i64 (a0 - 2))).var,y3.1,y4.1⟩:ai)]:List ai))))]) (by kernel_rfl) ?_
 refine ab.nil ?_
 refine aa.sr (ab.ev0 [0,0] [(52,.mp 4),(53,di a0)] [] ?_)
 refine ab.step (v:=di ((bu (aP y4.2.1 a0 (IntKind.wrap .i64 (((y4.2.2++([(⟨(nth a3 (IntKind.wrap .i64 (a0 - 2))).var,y3.1,y4.1⟩:ai)]:List ai)).length:Int)+1))) a0).getD 0)) (ae.lookupT kR (aP y4.2.1 a0 (IntKind.wrap .i64 (((y4.2.2++([(⟨(nth a3 (IntKind.wrap .i64 (a0 - 2))).var,y3.1,y4.1⟩:ai)]:List ai)).length:Int)+1))) a0 0 rfl rfl rfl rfl jd vN) rfl rfl rfl ?_
 refine ab.ev0n [0] [(6,di ((bu (aP y4.2.1 a0 (IntKind.wrap .i64 (((y4.2.2++([(⟨(nth a3 (IntKind.wrap .i64 (a0 - 2))).var,y3.1,y4.1⟩:ai)]:List ai)).length:Int)+1))) a0).getD 0))] [] ?_
 refine aa.ret ?_
 cases h
 exact ⟨_,(GStep.trans (GStep.keep [6]) (GStep.ren [0,1,2,3,4,5,9] (by decide) rfl rfl)),.inr rfl,Fin.mk2 (aB.one (.tmp rfl)) [0,1,2,3,4,5,6] (by decide) rfl rfl rfl rfl⟩
noncomputable def eK (k:Nat)(a0:Int)(a1:List ai):Option ap:=((cq k a0 0 (aP (aP ([]:List (Int×Int)) 0 0) 1 1) a1).bind fun y1=>some (⟨y1.2.2,y1.1⟩:ap))
set_option maxRecDepth 100000 in
set_option maxHeartbeats 4000000 in
theorem jn (k:Nat)(a0:Int)(a1:List ai)(r:ap)(h:eK k a0 a1=some r):SC P 167 [.ptr 0 0,di a0] [(.var [.d (af 3 ag a1),.d .nilm])] (.agg (an r)) [.live (.var [.d (af 3 ag a1),.d .nilm])]:=by
 unfold eK at h
 refine SC.intro3 (N:=17) Tryz.func167 rfl rfl Tryz.ntmps167 rfl ?_
 refine aa.sr (ab.evn (h':=[.live (.var [.d (af 3 ag a1),.d .nilm]),.live (.var [.ptr 0 0]),.live (.var [.nsl,di 0])]) [0,0] [(2,.ptr 1 0),(4,.ptr 2 0)] [] ?_)
 refine aa.sr (ab.evn (h':=[.live (.var [.d (af 3 ag a1),.d .nilm]),.live (.var [.ptr 0 0]),.live (.var [.nsl,di 0]),.live (.var [.nsl,di 0])]) [0,0,0] [(5,.ptr 3 0)] [] ?_)
 refine aa.sr ?_
 refine ab.step (v:=.mp 4) (ae.makeMap rfl) rfl rfl rfl ?_
 refine ab.hp (h':=[.live (.var [.d (af 3 ag a1),.d .nilm]),.live (.var [.ptr 0 0]),.live (.var [.nsl,di 0]),.live (.var [.nsl,di 0]),.live (.mp (aI (kI .i64) (kI .i64) ([]:List (Int×Int))))]) (by kernel_rfl) ?_
 refine ab.step0 (ae.updT kR ([]:List (Int×Int)) 0 0 (.inr rfl) rfl rfl rfl rfl jd) rfl rfl ?_
 refine ab.hp (h':=[.live (.var [.d (af 3 ag a1),.d .nilm]),.live (.var [.ptr 0 0]),.live (.var [.nsl,di 0]),.live (.var [.nsl,di 0]),.live (.mp (aI (kI .i64) (kI .i64) (aP ([]:List (Int×Int)) 0 0)))]) (by kernel_rfl) ?_
 refine ab.step0 (ae.updT kR (aP ([]:List (Int×Int)) 0 0) 1 1 (.inr rfl) rfl rfl rfl rfl jd) rfl rfl ?_
 refine ab.hp (h':=[.live (.var [.d (af 3 ag a1),.d .nilm]),.live (.var [.ptr 0 0]),.live (.var [.nsl,di 0]),.live (.var [.nsl,di 0]),.live (.mp (aI (kI .i64) (kI .i64) (aP (aP ([]:List (Int×Int)) 0 0) 1 1)))]) (by kernel_rfl) ?_
 refine ab.evn (h':=[.live (.var [.d (af 3 ag a1),.d .nilm]),.live (.var [.ptr 0 0]),.live (.var [.nsl,di 0]),.live (.var [.nsl,di 0]),.live (.mp (aI (kI .i64) (kI .i64) (aP (aP ([]:List (Int×Int)) 0 0) 1 1))),.live (.var [.mp 4])]) [0,0,0] [(6,.ptr 5 0)] [] ?_
 refine aa.sr (ab.evn (h':=[.live (.var [.d (af 3 ag a1),.d .nilm]),.live (.var [.ptr 0 0]),.live (.var [.nsl,di 0]),.live (.var [.nsl,di 0]),.live (.mp (aI (kI .i64) (kI .i64) (aP (aP ([]:List (Int×Int)) 0 0) 1 1))),.live (.var [.mp 4]),.live (.var [.d .nilf])]) [0] [(7,.ptr 6 0)] [] ?_)
 refine aa.sr (ab.evn (h':=[.live (.var [.d (af 3 ag a1),.d .nilm]),.live (.var [.ptr 0 0]),.live (.var [.nsl,di 0]),.live (.var [.nsl,di 0]),.live (.mp (aI (kI .i64) (kI .i64) (aP (aP ([]:List (Int×Int)) 0 0) 1 1))),.live (.var [.mp 4]),.live (.var [.clo 215 [] [.ptr 5 0,.ptr 1 0,.ptr 6 0,.ptr 3 0]])]) [0,0] [] [] ?_)
 refine aa.seq ?_
 refine ao h fun y1 hy1 h=>?_
 refine aa.region (ab.ev0 [0,0] [(12,.clo 215 [] [.ptr 5 0,.ptr 1 0,.ptr 6 0,.ptr 3 0]),(13,di a0)] [] ?_)
 refine ab.step (v:=di y1.1) (ae.callS [5,1,6,3,4,0] (iJ k a0 0 (aP (aP ([]:List (Int×Int)) 0 0) 1 1) a1 _ hy1) rfl rfl ⟨rfl,rfl,rfl,rfl,rfl,trivial⟩ (by decide) rfl rfl ⟨⟨rfl,rfl⟩,⟨rfl,rfl⟩,⟨rfl,rfl⟩,⟨rfl,rfl⟩,⟨rfl,rfl⟩,⟨rfl,rfl⟩,trivial⟩) rfl rfl rfl ?_
 refine ab.hp (h':=[.live (.var [.d (af 3 ag a1),.d .nilm]),.live (.var [.ptr 0 0]),.live (.var [.nsl,di 0]),.live (.var [.osl 7 0 y1.2.2.length 3,di 0]),.live (.mp (aI (kI .i64) (kI .i64) y1.2.1)),.live (.var [.mp 4]),.live (.var [.clo 215 [] [.ptr 5 0,.ptr 1 0,.ptr 6 0,.ptr 3 0]]),.live (.arr 3 y1.2.2.length false (row ag y1.2.2))]) (by kernel_rfl) ?_
 refine ab.evn (h':=[.live (.var [.d (af 3 ag a1),.d .nilm]),.live (.var [.ptr 0 0]),.live (.var [.nsl,di 0]),.live (.var [.osl 7 0 y1.2.2.length 3,di y1.1]),.live (.mp (aI (kI .i64) (kI .i64) y1.2.1)),.live (.var [.mp 4]),.live (.var [.clo 215 [] [.ptr 5 0,.ptr 1 0,.ptr 6 0,.ptr 3 0]]),.live (.arr 3 y1.2.2.length false (row ag y1.2.2))]) [0,0] [] [] ?_
 refine aa.sr (ab.evn (h':=[.live (.var [.d (af 3 ag a1),.d .nilm]),.live (.var [.ptr 0 0]),.live (.var [.osl 7 0 y1.2.2.length 3,di y1.1]),.live (.var [.osl 7 0 y1.2.2.length 3,di y1.1]),.live (.mp (aI (kI .i64) (kI .i64) y1.2.1)),.live (.var [.mp 4]),.live (.var [.clo 215 [] [.ptr 5 0,.ptr 1 0,.ptr 6 0,.ptr 3 0]]),.live (.arr 3 y1.2.2.length false (row ag y1.2.2))]) [0,0] [] [] ?_)
 refine aa.ret ?_
 cases h
 exact ⟨_,(GStep.trans (GStep.keep [4]) (GStep.trans (GStep.shutG 7 rfl ⟨trivial,trivial⟩ ⟨⟨trivial,trivial,trivial⟩,⟨trivial,trivial⟩,⟨(fun _=>⟨Nat.le_of_eq (Nat.zero_add _),rfl⟩),trivial,trivial⟩,⟨(fun _=>⟨Nat.le_of_eq (Nat.zero_add _),rfl⟩),trivial,trivial⟩,trivial,⟨trivial,trivial⟩,⟨⟨trivial,⟨trivial,trivial,trivial,trivial,trivial⟩⟩,trivial⟩,trivial,trivial⟩) (GStep.ren [0,2] (by decide) rfl rfl))),.inr rfl,Fin.mk2 (aB.one (.cellA rfl bq rfl rfl)) [0] (by decide) rfl rfl rfl ⟨rfl,rfl,trivial⟩⟩
noncomputable def er (k:Nat)(a0:List ai)(a1:List ai)(v:Int):Option (Bool⊕Unit):=match k,v with
  | 0,_=>none
  | k+1,v0_0=>(if (decide (v0_0 < (a0.length:Int)))=true then (if (0:Int)≤v0_0∧v0_0 < (a0.length:Int) then (if (0:Int)≤v0_0∧v0_0 < (a1.length:Int) then (if (!((decide ((nth a0 v0_0).var=(nth a1 v0_0).var))&&((decide ((nth a0 v0_0).low=(nth a1 v0_0).low))&&(decide ((nth a0 v0_0).high=(nth a1 v0_0).high)))))=true then some (.inl false) else (er k a0 a1 (IntKind.wrap .i64 (v0_0+1)))) else none) else none) else some (.inr ()))
theorem lh:type_of% (@er.eq_2):=@er.eq_2
noncomputable def lH (k:Nat)(a0:List ai)(a1:List ai):Option Bool:=(if (!decide ((a0.length:Int)=(a1.length:Int)))=true then some false else (((er k a0 a1 0):Option (Bool⊕Unit)).bind fun o9=>match o9 with | .inl r7=>(some r7) | .inr x8=>(some true)))
set_option maxRecDepth 100000 in
set_option maxHeartbeats 4000000 in
theorem rL (k:Nat)(a0:List ai)(a1:List ai)(r:Bool)(h:lH k a0 a1=some r):SC P 98 [.d (af 3 ag a0),.d (af 3 ag a1)] [] (db r) []:=by
 unfold lH at h
 refine SC.intro3 (N:=26) Tryz.func98 rfl rfl Tryz.ntmps98 rfl ?_
 refine aa.sr (ab.ev0n [0] [] [] ?_)
 refine aa.seq ?_
 refine aa.sr (ab.ev0n [0,0,0,0,0] [(10,db (!decide ((a0.length:Int)=(a1.length:Int))))] [] ?_)
 refine aa.condI h rfl (fun hc1 h=>?_) (fun hc1 h=>?_)
 ·
  refine aa.sr (ab.ev0n [0] [(4,db false)] [] ?_)
  refine aa.ret ?_
  cases h
  exact ⟨_,(GStep.keep [4]),.inr rfl,Fin.mk2 (aB.one (.tmp rfl)) [] (by decide) rfl rfl rfl rfl⟩
 refine aa.skip ?_
 refine aa.seq ?_
 refine aa.sr (ab.ev0n [0,0,0] [(12,di (a0.length:Int)),(13,di 0)] [] ?_)
 refine aa.block ?_
 refine ao h fun o9 ho9 h=>?_
 refine aa.cut (Q':=fun e s'=>match o9 with | .inl r7=>((e = .ret)∧Fin P (Tryz.f98.results) 0 [] (db r7) s') | .inr x8=>(e = .exit 0∧s'=⟨[],[]⟩)) ?_ ?_
 ·
  have h:=ho9
  refine aa.ghost (GStep.keep [0,1,12,13]) ?_
  refine aa.loopI (F:=fun k v=>er k a0 a1 v) (fun v=>⟨[(0,.d (af 3 ag a0)),(1,.d (af 3 ag a1)),(12,di (a0.length:Int)),(13,di v)],[]⟩) (k:=k) (v:=0) h rfl (fun _=>rfl) ?_
  intro k v0_0 ih h
  have h:=(lh ..).symm.trans h
  refine aa.sr (ab.ev0n [0] [(14,db (decide (v0_0 < (a0.length:Int))))] [] ?_)
  refine aa.seq ?_
  refine aa.condI h rfl (fun hc2 h=>?_) (fun hc2 h=>?_)
  ·
   refine aa.skip ?_
   refine aa.seq ?_
   refine aa.block ?_
   refine aa.sr (ab.ev0n [0,0] [(5,di v0_0)] [] ?_)
   refine aa.seq ?_
   refine aD h fun hb3 h=>?_
   refine aD h fun hb4 h=>?_
   refine aa.regionAny mixed (s':=?s6) (qs:=[⟨[0],[],[],[],[]⟩,⟨[5],[],[],[],[]⟩,⟨[16,17],[],[],[],[]⟩,⟨[18],[],[],[],[]⟩,⟨[1],[],[],[],[]⟩,⟨[5],[],[],[],[]⟩,⟨[20,21],[],[],[],[]⟩,⟨[22],[],[],[],[]⟩,⟨[19,23],[],[],[],[]⟩]) ?_ (by kernel_rfl) ?_
   rotate_left
   ·
    refine Steps.runQ [0] [] [] (v:=.d (af 3 ag a0)) (ae.move rfl rfl) rfl (by kernel_rfl) (by kernel_rfl) ?_
    refine Steps.runQ [5] [] [] (v:=di v0_0) (ae.move rfl rfl) rfl (by kernel_rfl) (by kernel_rfl) ?_
    refine Steps.runQ [16,17] [] [] (ae.index rfl rfl rfl dP hb3.1 hb3.2) rfl (by kernel_rfl) (by kernel_rfl) ?_
    refine Steps.runQ [18] [] [] (ae.loadVA rfl rfl jh rfl) rfl (by kernel_rfl) (by kernel_rfl) ?_
    refine Steps.runQ [1] [] [] (v:=.d (af 3 ag a1)) (ae.move rfl rfl) rfl (by kernel_rfl) (by kernel_rfl) ?_
    refine Steps.runQ [5] [] [] (v:=di v0_0) (ae.move rfl rfl) rfl (by kernel_rfl) (by kernel_rfl) ?_
    refine Steps.runQ [20,21] [] [] (ae.index rfl rfl rfl dP hb4.1 hb4.2) rfl (by kernel_rfl) (by kernel_rfl) ?_
    refine Steps.runQ [22] [] [] (ae.loadVA rfl rfl jh rfl) rfl (by kernel_rfl) (by kernel_rfl) ?_
    refine Steps.runQ [19,23] [] [] (v:=db (!((decide ((nth a0 v0_0).var=(nth a1 v0_0).var))&&((decide ((nth a0 v0_0).low=(nth a1 v0_0).low))&&(decide ((nth a0 v0_0).high=(nth a1 v0_0).high)))))) (ae.neqA [.int .i64 ((nth a0 v0_0).var),.int .i64 ((nth a0 v0_0).low),.int .i64 ((nth a0 v0_0).high)] [.int .i64 ((nth a1 v0_0).var),.int .i64 ((nth a1 v0_0).low),.int .i64 ((nth a1 v0_0).high)] rfl rfl rfl pt rfl rfl) rfl (by kernel_rfl) (by kernel_rfl) ?_
    exact Steps.nil _
   refine aa.condI h rfl (fun hc5 h=>?_) (fun hc5 h=>?_)
   ·
    refine aa.sr (ab.ev0n [0] [(4,db false)] [] ?_)
    refine aa.ret ?_
    cases h
    exact ⟨_,(GStep.keep [4]),rfl,Fin.mk2 (aB.one (.tmp rfl)) [] (by decide) rfl rfl rfl rfl⟩
   refine aa.skip ?_
   refine aa.region (ab.ev0n [0,0] [(13,di (IntKind.wrap .i64 (v0_0+1)))] [] ?_)
   exact aM.ghost (GStep.keep [0,1,12,13]) (ih (IntKind.wrap .i64 (v0_0+1)) h)
  refine aa.exit ?_
  cases h
  exact ⟨_,(GStep.keep []),rfl,rfl⟩
 rcases o9 with r7 | x8
 ·
  rintro e s' hq
  obtain ⟨rfl,hq⟩:=hq
  cases h
  exact ⟨_,GStep.refl _ _,.inr rfl,hq⟩
 rintro e s' hq
 obtain ⟨rfl,rfl⟩:=hq
 refine aa.sr (ab.ev0n [0] [(4,db true)] [] ?_)
 refine aa.ret ?_
 cases h
 exact ⟨_,(GStep.keep [4]),.inr rfl,Fin.mk2 (aB.one (.tmp rfl)) [] (by decide) rfl rfl rfl rfl⟩
noncomputable def jM (k:Nat)(a0:ap)(a1:ap):Option Bool:=(((if (decide (a0.root=a1.root))=true then ((lH k a0.nodes a1.nodes).bind fun y2=>some y2) else some false):Option Bool).bind fun x4=>some x4)
set_option maxRecDepth 100000 in
set_option maxHeartbeats 4000000 in
theorem po (k:Nat)(a0:ap)(a1:ap)(r:Bool)(h:jM k a0 a1=some r):SC P 29 [.agg (an a0),.agg (an a1)] [] (db r) []:=by
 unfold jM at h
 refine SC.intro3 (N:=17) Tryz.func29 rfl rfl Tryz.ntmps29 rfl ?_
 refine aa.sr (ab.evn (h':=[.live (.var (an a0)),.live (.var (an a1))]) [0,0,0] [(2,.ptr 0 0),(3,.ptr 1 0)] [] ?_)
 refine aa.seq ?_
 refine ao h fun x4 ho3 h=>?_
 refine aa.cut (Q':=fun e s'=>e = .normal∧s'=⟨[(4,db x4)],[]⟩) ?_ ?_
 ·
  have h:=ho3
  refine au h (fun hc1 h=>?_) (fun hc1 h=>?_)
  ·
   refine ao h fun y2 hy2 h=>?_
   refine aa.region (ab.ev0 [0,0,0,0,0,0,3,3,3,3] [(10,db (decide (a0.root=a1.root))),(12,.d (af 3 ag a0.nodes)),(14,.d (af 3 ag a1.nodes))] [⟨_,hc1⟩,⟨_,hc1⟩,⟨_,hc1⟩,⟨_,hc1⟩] ?_)
   refine ab.gstep (v:=db y2) (ae.callS [] (rL k a0.nodes a1.nodes _ hy2) rfl rfl ⟨rfl,rfl,trivial⟩ (by decide) rfl rfl trivial) rfl rfl rfl hc1 rfl rfl ?_
   refine ab.ev0n [10,0] [(4,db y2)] [⟨_,hc1⟩] ?_
   cases h
   exact ⟨_,(GStep.trans (GStep.keep [4]) (GStep.ren [] (by decide) rfl rfl)),rfl,rfl⟩
  refine aa.region (ab.ev0n [0,0,0,0,0,0,2,0,0,0,0,0,0] [(4,db false)] [⟨_,hc1⟩] ?_)
  cases h
  exact ⟨_,(GStep.trans (GStep.keep [4]) (GStep.ren [] (by decide) rfl rfl)),rfl,rfl⟩
 rintro e s' hq
 obtain ⟨rfl,rfl⟩:=hq
 refine aa.ret ?_
 cases h
 exact ⟨_,(GStep.keep [4]),.inr rfl,Fin.mk2 (aB.one (.tmp rfl)) [] (by decide) rfl rfl rfl rfl⟩
noncomputable def dD (k:Nat)(a0:ap)(v:Int×(List (ai×Bool))):Option (Int⊕Unit):=match k,v with
  | 0,_=>none
  | k+1,(v0_0,v0_1)=>(if (decide (v0_0 < (a0.nodes.length:Int)))=true then (if (0:Int)≤v0_0∧v0_0 < (a0.nodes.length:Int) then (((if (decide ((nth a0.nodes v0_0).var < 0))=true then some (true,(nth a0.nodes v0_0)) else (if (decide ((nth a0.nodes v0_0).var > 63))=true then some (true,(nth a0.nodes v0_0)) else (if (decide ((nth a0.nodes v0_0).low < 0))=true then some (true,(nth a0.nodes v0_0)) else (if (decide ((nth a0.nodes v0_0).high < 0))=true then some (true,(nth a0.nodes v0_0)) else (if (decide ((nth a0.nodes v0_0).low > (IntKind.wrap .i64 (v0_0+1))))=true then some (true,(nth a0.nodes v0_0)) else (if (decide ((nth a0.nodes v0_0).high > (IntKind.wrap .i64 (v0_0+1))))=true then some (true,(nth a0.nodes v0_0)) else (if (decide ((nth a0.nodes v0_0).low=(nth a0.nodes v0_0).high))=true then some (true,(nth a0.nodes v0_0)) else some (((bu v0_1 (nth a0.nodes v0_0)).getD false),(nth a0.nodes v0_0))))))))):Option (Bool×ai)).bind fun x12=>(if x12.1=true then some (.inl 20) else ((((gI a0 x12.2.low).bind fun y14=>(if (decide (y14≤x12.2.var))=true then some true else ((gI a0 x12.2.high).bind fun y17=>some (decide (y17≤x12.2.var))))):Option Bool).bind fun x20=>(if x20=true then some (.inl 20) else (dD k a0 ((IntKind.wrap .i64 (v0_0+1)),(aP v0_1 x12.2 true))))))) else none) else some (.inr ()))
theorem jL:type_of% (@dD.eq_2):=@dD.eq_2
noncomputable def jm (k:Nat)(a0:ap):Option Int:=(if (decide ((a0.nodes.length:Int) > 4096))=true then some 2 else (((dD k a0 (0,([]:List (ai×Bool)))):Option (Int⊕Unit)).bind fun o31=>match o31 with | .inl r22=>(some r22) | .inr x23=>(((if (decide (a0.root < 0))=true then some true else some (decide (a0.root > (IntKind.wrap .i64 ((a0.nodes.length:Int)+1))))):Option Bool).bind fun x26=>(if x26=true then some 20 else ((eK k a0.root a0.nodes).bind fun y28=>((jM k y28 a0).bind fun y29=>(if (!y29)=true then some 20 else some 0)))))))
set_option maxRecDepth 100000 in
set_option maxHeartbeats 4000000 in
theorem oM (k:Nat)(a0:ap)(r:Int)(h:jm k a0=some r):SC P 99 [.agg (an a0)] [] (di r) []:=by
 unfold jm at h
 refine SC.intro3 (N:=106) Tryz.func99 rfl rfl Tryz.ntmps99 rfl ?_
 refine aa.sr (ab.evn (h':=[.live (.var (an a0))]) [0,0] [(1,.ptr 0 0)] [] ?_)
 refine aa.seq ?_
 refine aa.sr (ab.ev0n [0,0,0,0] [(10,db (decide ((a0.nodes.length:Int) > 4096)))] [] ?_)
 refine aa.condI h rfl (fun hc1 h=>?_) (fun hc1 h=>?_)
 ·
  refine aa.sr (ab.ev0n [0] [(2,di 2)] [] ?_)
  refine aa.ret ?_
  cases h
  exact ⟨_,(GStep.trans (GStep.keep [2]) (GStep.ren [] (by decide) rfl rfl)),.inr rfl,Fin.mk2 (aB.one (.tmp rfl)) [] (by decide) rfl rfl rfl rfl⟩
 refine aa.skip ?_
 refine aa.sr ?_
 refine ab.step (v:=.mp 1) (ae.makeMap rfl) rfl rfl rfl ?_
 refine ab.hp (h':=[.live (.var (an a0)),.live (.mp (aI (fun x=>D.agg (ag x)) D.bool ([]:List (ai×Bool))))]) (by kernel_rfl) ?_
 refine ab.ev0n [0] [(3,.mp 1)] [] ?_
 refine aa.seq ?_
 refine aa.sr (ab.ev0n [0,0,0,0] [(13,.d (af 3 ag a0.nodes)),(14,di (a0.nodes.length:Int)),(15,di 0)] [] ?_)
 refine aa.block ?_
 refine ao h fun o31 ho31 h=>?_
 refine aa.cut (Q':=fun e s'=>match o31 with | .inl r22=>((e = .ret)∧Fin P (Tryz.f99.results) 0 [] (di r22) s') | .inr x23=>(e = .exit 0∧s'=⟨[(1,.ptr 0 0)],[.live (.var (an a0))]⟩)) ?_ ?_
 ·
  have h:=ho31
  refine aa.ghost (GStep.keep [1,3,13,14,15]) ?_
  refine aa.loopI (F:=fun k v=>dD k a0 v) (fun v=>⟨[(1,.ptr 0 0),(3,.mp 1),(13,.d (af 3 ag a0.nodes)),(14,di (a0.nodes.length:Int)),(15,di v.1)],[.live (.var (an a0)),.live (.mp (aI (fun x=>D.agg (ag x)) D.bool v.2))]⟩) (k:=k) (v:=(0,([]:List (ai×Bool)))) h rfl (fun _=>rfl) ?_
  intro k v ih h
  obtain ⟨v0_0,v0_1⟩:=v
  have h:=(jL ..).symm.trans h
  refine aa.sr (ab.ev0n [0] [(16,db (decide (v0_0 < (a0.nodes.length:Int))))] [] ?_)
  refine aa.seq ?_
  refine aa.condI h rfl (fun hc2 h=>?_) (fun hc2 h=>?_)
  ·
   refine aa.skip ?_
   refine aa.seq ?_
   refine aa.block ?_
   refine aa.seq ?_
   refine aD h fun hb3 h=>?_
   refine aa.region (ab.evn (h':=[.live (.var (an a0)),.live (.mp (aI (fun x=>D.agg (ag x)) D.bool v0_1)),.live (.var (aK (nth a0.nodes v0_0)))]) [0,0,0,0,0,0] [(5,.ptr 2 0),(4,di v0_0)] [⟨_,hb3.1⟩,⟨_,hb3.2⟩] ?_)
   refine aa.seq ?_
   refine aa.seq ?_
   refine ao h fun x12 ho11 h=>?_
   refine aa.cut (Q':=fun e s'=>e = .normal∧s'=⟨[(1,.ptr 0 0),(3,.mp 1),(5,.ptr 2 0),(13,.d (af 3 ag a0.nodes)),(14,di (a0.nodes.length:Int)),(15,di v0_0),(63,db x12.1)],[.live (.var (an a0)),.live (.mp (aI (fun x=>D.agg (ag x)) D.bool v0_1)),.live (.var (aK x12.2))]⟩) ?_ ?_
   ·
    have h:=ho11
    refine au h (fun hc4 h=>?_) (fun hc4 h=>?_)
    ·
     refine aa.region (ab.ev0n [0,0,0,0,2,0,0,0,0,0,0,0,0,0,0,0,0,0,0,0,0,0,0,0,0,0,0,0,0,0,0,0,0,0,0,0,0,0,0,0,0,0,0,0] [(63,db true)] [⟨_,hc4⟩] ?_)
     cases h
     exact ⟨_,(GStep.keep [1,3,5,13,14,15,63]),rfl,rfl⟩
    refine au h (fun hc5 h=>?_) (fun hc5 h=>?_)
    ·
     refine aa.region (ab.ev0n [0,0,0,0,1,0,0,0,0,2,0,0,0,0,0,0,0,0,0,0,0,0,0,0,0,0,0,0,0,0,0,0,0,0,0,0,0,0,0,0,0,0,0,0] [(63,db true)] [⟨_,hc4⟩,⟨_,hc5⟩] ?_)
     cases h
     exact ⟨_,(GStep.keep [1,3,5,13,14,15,63]),rfl,rfl⟩
    refine au h (fun hc6 h=>?_) (fun hc6 h=>?_)
    ·
     refine aa.region (ab.ev0n [0,0,0,0,1,0,0,0,0,1,0,0,0,0,2,0,0,0,0,0,0,0,0,0,0,0,0,0,0,0,0,0,0,0,0,0,0,0,0,0,0,0,0,0] [(63,db true)] [⟨_,hc4⟩,⟨_,hc5⟩,⟨_,hc6⟩] ?_)
     cases h
     exact ⟨_,(GStep.keep [1,3,5,13,14,15,63]),rfl,rfl⟩
    refine au h (fun hc7 h=>?_) (fun hc7 h=>?_)
    ·
     refine aa.region (ab.ev0n [0,0,0,0,1,0,0,0,0,1,0,0,0,0,1,0,0,0,0,2,0,0,0,0,0,0,0,0,0,0,0,0,0,0,0,0,0,0,0,0,0,0,0,0] [(63,db true)] [⟨_,hc4⟩,⟨_,hc5⟩,⟨_,hc6⟩,⟨_,hc7⟩] ?_)
     cases h
     exact ⟨_,(GStep.keep [1,3,5,13,14,15,63]),rfl,rfl⟩
    refine au h (fun hc8 h=>?_) (fun hc8 h=>?_)
    ·
     refine aa.region (ab.ev0n [0,0,0,0,1,0,0,0,0,1,0,0,0,0,1,0,0,0,0,1,0,0,0,0,0,0,2,0,0,0,0,0,0,0,0,0,0,0,0,0,0,0,0,0] [(63,db true)] [⟨_,hc4⟩,⟨_,hc5⟩,⟨_,hc6⟩,⟨_,hc7⟩,⟨_,hc8⟩] ?_)
     cases h
     exact ⟨_,(GStep.keep [1,3,5,13,14,15,63]),rfl,rfl⟩
    refine au h (fun hc9 h=>?_) (fun hc9 h=>?_)
    ·
     refine aa.region (ab.ev0n [0,0,0,0,1,0,0,0,0,1,0,0,0,0,1,0,0,0,0,1,0,0,0,0,0,0,1,0,0,0,0,0,0,2,0,0,0,0,0,0,0,0,0,0] [(63,db true)] [⟨_,hc4⟩,⟨_,hc5⟩,⟨_,hc6⟩,⟨_,hc7⟩,⟨_,hc8⟩,⟨_,hc9⟩] ?_)
     cases h
     exact ⟨_,(GStep.keep [1,3,5,13,14,15,63]),rfl,rfl⟩
    refine au h (fun hc10 h=>?_) (fun hc10 h=>?_)
    ·
     refine aa.region (ab.ev0n [0,0,0,0,1,0,0,0,0,1,0,0,0,0,1,0,0,0,0,1,0,0,0,0,0,0,1,0,0,0,0,0,0,1,0,0,0,0,0,0,2,0,0,0] [(63,db true)] [⟨_,hc4⟩,⟨_,hc5⟩,⟨_,hc6⟩,⟨_,hc7⟩,⟨_,hc8⟩,⟨_,hc9⟩,⟨_,hc10⟩] ?_)
     cases h
     exact ⟨_,(GStep.keep [1,3,5,13,14,15,63]),rfl,rfl⟩
    refine aa.region (ab.ev0 [0,0,0,0,1,0,0,0,0,1,0,0,0,0,1,0,0,0,0,1,0,0,0,0,0,0,1,0,0,0,0,0,0,1,0,0,0,0,0,0,3,3] [(59,db (decide ((nth a0.nodes v0_0).low=(nth a0.nodes v0_0).high))),(60,.mp 1),(61,.agg (aK (nth a0.nodes v0_0)))] [⟨_,hc4⟩,⟨_,hc5⟩,⟨_,hc6⟩,⟨_,hc7⟩,⟨_,hc8⟩,⟨_,hc9⟩,⟨_,hc10⟩,⟨_,hc10⟩] ?_)
    refine ab.gstep (v:=db ((bu v0_1 (nth a0.nodes v0_0)).getD false)) (ae.gh (GStep.see (t:=61) (u:=.agg (aK (nth a0.nodes v0_0))) (u':=.d (.agg (ag (nth a0.nodes v0_0)))) rfl rfl) (ae.lookupT wx v0_1 (nth a0.nodes v0_0) false rfl rfl rfl rfl wA yj)) rfl rfl rfl hc10 rfl rfl ?_
    refine ab.ev0n [20] [(63,db ((bu v0_1 (nth a0.nodes v0_0)).getD false))] [⟨_,hc10⟩] ?_
    cases h
    exact ⟨_,(GStep.keep [1,3,5,13,14,15,63]),rfl,rfl⟩
   rintro e s' hq
   obtain ⟨rfl,rfl⟩:=hq
   refine aa.condI h rfl (fun hc13 h=>?_) (fun hc13 h=>?_)
   ·
    refine aa.sr (ab.ev0n [0] [(2,di 20)] [] ?_)
    refine aa.ret ?_
    cases h
    exact ⟨_,(GStep.trans (GStep.keep [2]) (GStep.ren [] (by decide) rfl rfl)),rfl,Fin.mk2 (aB.one (.tmp rfl)) [] (by decide) rfl rfl rfl rfl⟩
   refine aa.skip ?_
   refine aa.seq ?_
   refine aa.seq ?_
   refine ao h fun x20 ho19 h=>?_
   refine aa.cut (Q':=fun e s'=>e = .normal∧s'=⟨[(1,.ptr 0 0),(3,.mp 1),(5,.ptr 2 0),(13,.d (af 3 ag a0.nodes)),(14,di (a0.nodes.length:Int)),(15,di v0_0),(79,db x20)],[.live (.var (an a0)),.live (.mp (aI (fun x=>D.agg (ag x)) D.bool v0_1)),.live (.var (aK x12.2))]⟩) ?_ ?_
   ·
    have h:=ho19
    refine ao h fun y14 hy14 h=>?_
    refine au h (fun hc15 h=>?_) (fun hc15 h=>?_)
    ·
     refine aa.regionAny mixed (s':=?s16) (qs:=[⟨[1],[0],[],[],[]⟩,⟨[5],[],[],[2],[]⟩,⟨[65],[2],[],[],[]⟩,⟨[64,66],[],[],[],[]⟩,⟨[5],[],[],[2],[]⟩,⟨[68],[2],[],[],[]⟩,⟨[67,69],[],[],[],[]⟩,⟨[70],[],[],[],[]⟩,⟨[1,71],[],[],[],[]⟩,⟨[5,71],[],[],[],[]⟩,⟨[71,73],[],[],[],[]⟩,⟨[71,72,74],[],[],[],[]⟩,⟨[5,71],[],[],[],[]⟩,⟨[71,76],[],[],[],[]⟩,⟨[71,75,77],[],[],[],[]⟩,⟨[71,78],[],[],[],[]⟩]) ?_ (by kernel_rfl) ?_
     rotate_left
     ·
      refine Steps.runQ [1] [0] [] (ae.loadA rfl rfl bq rfl rfl) rfl (by kernel_rfl) (by kernel_rfl) ?_
      refine Steps.runQ [5] [] [2] (v:=.ptr 2 1) (ae.fieldAddr (id:=2) (off:=0) (fo:=1) rfl rfl dn rfl rfl) rfl (by kernel_rfl) (by kernel_rfl) ?_
      refine Steps.runQ [65] [2] [] (v:=di x12.2.low) (ae.load rfl rfl aX rfl rfl) rfl (by kernel_rfl) (by kernel_rfl) ?_
      refine Steps.runQ [64,66] [] [] (v:=di y14) (ae.callS [] (gQ a0 x12.2.low _ hy14) rfl rfl ⟨⟨rfl,rfl,trivial⟩,rfl,trivial⟩ (by decide) rfl rfl trivial) rfl (by kernel_rfl) (by kernel_rfl) ?_
      refine Steps.runQ [5] [] [2] (v:=.ptr 2 0) (ae.fieldAddr (id:=2) (off:=0) (fo:=0) rfl rfl dn rfl rfl) rfl (by kernel_rfl) (by kernel_rfl) ?_
      refine Steps.runQ [68] [2] [] (v:=di x12.2.var) (ae.load rfl rfl aX rfl rfl) rfl (by kernel_rfl) (by kernel_rfl) ?_
      refine Steps.runQ [67,69] [] [] (v:=db (decide (y14≤x12.2.var))) (ae.leqI (k:=.i64) (m:=y14) (n:=x12.2.var) rfl rfl rfl) rfl (by kernel_rfl) (by kernel_rfl) ?_
      refine Steps.runQ [70] [] [] (v:=db (decide (y14≤x12.2.var))) (ae.move rfl rfl) rfl (by kernel_rfl) (by kernel_rfl) ?_
      refine Steps.gpass [1,71] rfl rfl rfl hc15 rfl rfl ?_
      refine Steps.gpass [5,71] rfl rfl rfl hc15 rfl rfl ?_
      refine Steps.gpass [71,73] rfl rfl rfl hc15 rfl rfl ?_
      refine Steps.gpass [71,72,74] rfl rfl rfl hc15 rfl rfl ?_
      refine Steps.gpass [5,71] rfl rfl rfl hc15 rfl rfl ?_
      refine Steps.gpass [71,76] rfl rfl rfl hc15 rfl rfl ?_
      refine Steps.gpass [71,75,77] rfl rfl rfl hc15 rfl rfl ?_
      refine Steps.runQ [71,78] [] [] (v:=db true) (ae.pickT rfl rfl hc15 rfl) rfl (by kernel_rfl) (by kernel_rfl) ?_
      exact Steps.nil _
     cases h
     exact ⟨_,(GStep.keep [1,3,5,13,14,15,79]),rfl,rfl⟩
    refine ao h fun y17 hy17 h=>?_
    refine aa.regionAny mixed (s':=?s18) (qs:=[⟨[1],[0],[],[],[]⟩,⟨[5],[],[],[2],[]⟩,⟨[65],[2],[],[],[]⟩,⟨[64,66],[],[],[],[]⟩,⟨[5],[],[],[2],[]⟩,⟨[68],[2],[],[],[]⟩,⟨[67,69],[],[],[],[]⟩,⟨[70],[],[],[],[]⟩,⟨[1,71],[0],[],[],[]⟩,⟨[5,71],[],[],[2],[]⟩,⟨[71,73],[2],[],[],[]⟩,⟨[71,72,74],[],[],[],[]⟩,⟨[5,71],[],[],[2],[]⟩,⟨[71,76],[2],[],[],[]⟩,⟨[71,75,77],[],[],[],[]⟩,⟨[71,78],[],[],[],[]⟩]) ?_ (by kernel_rfl) ?_
    rotate_left
    ·
     refine Steps.runQ [1] [0] [] (ae.loadA rfl rfl bq rfl rfl) rfl (by kernel_rfl) (by kernel_rfl) ?_
     refine Steps.runQ [5] [] [2] (v:=.ptr 2 1) (ae.fieldAddr (id:=2) (off:=0) (fo:=1) rfl rfl dn rfl rfl) rfl (by kernel_rfl) (by kernel_rfl) ?_
     refine Steps.runQ [65] [2] [] (v:=di x12.2.low) (ae.load rfl rfl aX rfl rfl) rfl (by kernel_rfl) (by kernel_rfl) ?_
     refine Steps.runQ [64,66] [] [] (v:=di y14) (ae.callS [] (gQ a0 x12.2.low _ hy14) rfl rfl ⟨⟨rfl,rfl,trivial⟩,rfl,trivial⟩ (by decide) rfl rfl trivial) rfl (by kernel_rfl) (by kernel_rfl) ?_
     refine Steps.runQ [5] [] [2] (v:=.ptr 2 0) (ae.fieldAddr (id:=2) (off:=0) (fo:=0) rfl rfl dn rfl rfl) rfl (by kernel_rfl) (by kernel_rfl) ?_
     refine Steps.runQ [68] [2] [] (v:=di x12.2.var) (ae.load rfl rfl aX rfl rfl) rfl (by kernel_rfl) (by kernel_rfl) ?_
     refine Steps.runQ [67,69] [] [] (v:=db (decide (y14≤x12.2.var))) (ae.leqI (k:=.i64) (m:=y14) (n:=x12.2.var) rfl rfl rfl) rfl (by kernel_rfl) (by kernel_rfl) ?_
     refine Steps.runQ [70] [] [] (v:=db (decide (y14≤x12.2.var))) (ae.move rfl rfl) rfl (by kernel_rfl) (by kernel_rfl) ?_
     refine Steps.grunQ [1,71] [0] [] (ae.loadA rfl rfl bq rfl rfl) rfl rfl rfl hc15 (by kernel_rfl) (by kernel_rfl) (by kernel_rfl) ?_
     refine Steps.grunQ [5,71] [] [2] (v:=.ptr 2 2) (ae.fieldAddr (id:=2) (off:=0) (fo:=2) rfl rfl dn rfl rfl) rfl rfl rfl hc15 (by kernel_rfl) (by kernel_rfl) (by kernel_rfl) ?_
     refine Steps.grunQ [71,73] [2] [] (v:=di x12.2.high) (ae.load rfl rfl aX rfl rfl) rfl rfl rfl hc15 (by kernel_rfl) (by kernel_rfl) (by kernel_rfl) ?_
     refine Steps.grunQ [71,72,74] [] [] (v:=di y17) (ae.callS [] (gQ a0 x12.2.high _ hy17) rfl rfl ⟨⟨rfl,rfl,trivial⟩,rfl,trivial⟩ (by decide) rfl rfl trivial) rfl rfl rfl hc15 (by kernel_rfl) (by kernel_rfl) (by kernel_rfl) ?_
     refine Steps.grunQ [5,71] [] [2] (v:=.ptr 2 0) (ae.fieldAddr (id:=2) (off:=0) (fo:=0) rfl rfl dn rfl rfl) rfl rfl rfl hc15 (by kernel_rfl) (by kernel_rfl) (by kernel_rfl) ?_
     refine Steps.grunQ [71,76] [2] [] (v:=di x12.2.var) (ae.load rfl rfl aX rfl rfl) rfl rfl rfl hc15 (by kernel_rfl) (by kernel_rfl) (by kernel_rfl) ?_
     refine Steps.grunQ [71,75,77] [] [] (v:=db (decide (y17≤x12.2.var))) (ae.leqI (k:=.i64) (m:=y17) (n:=x12.2.var) rfl rfl rfl) rfl rfl rfl hc15 (by kernel_rfl) (by kernel_rfl) (by kernel_rfl) ?_
     refine Steps.runQ [71,78] [] [] (v:=db (decide (y17≤x12.2.var))) (ae.pickF rfl rfl hc15 rfl) rfl (by kernel_rfl) (by kernel_rfl) ?_
     exact Steps.nil _
    cases h
    exact ⟨_,(GStep.keep [1,3,5,13,14,15,79]),rfl,rfl⟩
   rintro e s' hq
   obtain ⟨rfl,rfl⟩:=hq
   refine aa.condI h rfl (fun hc21 h=>?_) (fun hc21 h=>?_)
   ·
    refine aa.sr (ab.ev0n [0] [(2,di 20)] [] ?_)
    refine aa.ret ?_
    cases h
    exact ⟨_,(GStep.trans (GStep.keep [2]) (GStep.ren [] (by decide) rfl rfl)),rfl,Fin.mk2 (aB.one (.tmp rfl)) [] (by decide) rfl rfl rfl rfl⟩
   refine aa.skip ?_
   refine aa.region (ab.ev0 [0,0] [(80,.mp 1),(81,.agg (aK x12.2))] [] ?_)
   refine ab.step0 (ae.gh (GStep.see (t:=81) (u:=.agg (aK x12.2)) (u':=.d (.agg (ag x12.2))) rfl rfl) (ae.updT wx v0_1 x12.2 true (.inl rfl) rfl rfl rfl rfl wA)) rfl rfl ?_
   refine ab.hp (h':=[.live (.var (an a0)),.live (.mp (aI (fun x=>D.agg (ag x)) D.bool (aP v0_1 x12.2 true))),.live (.var (aK x12.2))]) (by kernel_rfl) ?_
   refine ab.nil ?_
   refine aa.region (ab.ev0n [0,0] [(15,di (IntKind.wrap .i64 (v0_0+1)))] [] ?_)
   exact aM.ghost (GStep.trans (GStep.keep [1,3,13,14,15]) (GStep.ren [0,1] (by decide) rfl rfl)) (ih ((IntKind.wrap .i64 (v0_0+1)),(aP v0_1 x12.2 true)) h)
  refine aa.exit ?_
  cases h
  exact ⟨_,(GStep.trans (GStep.keep [1]) (GStep.ren [0] (by decide) rfl rfl)),rfl,rfl⟩
 rcases o31 with r22 | x23
 ·
  rintro e s' hq
  obtain ⟨rfl,hq⟩:=hq
  cases h
  exact ⟨_,GStep.refl _ _,.inr rfl,hq⟩
 rintro e s' hq
 obtain ⟨rfl,rfl⟩:=hq
 refine aa.seq ?_
 refine aa.seq ?_
 refine ao h fun x26 ho25 h=>?_
 refine aa.cut (Q':=fun e s'=>e = .normal∧s'=⟨[(1,.ptr 0 0),(94,db x26)],[.live (.var (an a0))]⟩) ?_ ?_
 ·
  have h:=ho25
  refine au h (fun hc24 h=>?_) (fun hc24 h=>?_)
  ·
   refine aa.region (ab.ev0n [0,0,0,0,2,0,0,0,0,0,0,0] [(94,db true)] [⟨_,hc24⟩] ?_)
   cases h
   exact ⟨_,(GStep.keep [1,94]),rfl,rfl⟩
  refine aa.region (ab.ev0n [0,0,0,0,1,0,0,0,0,0,0,0] [(94,db (decide (a0.root > (IntKind.wrap .i64 ((a0.nodes.length:Int)+1)))))] [⟨_,hc24⟩] ?_)
  cases h
  exact ⟨_,(GStep.keep [1,94]),rfl,rfl⟩
 rintro e s' hq
 obtain ⟨rfl,rfl⟩:=hq
 refine aa.condI h rfl (fun hc27 h=>?_) (fun hc27 h=>?_)
 ·
  refine aa.sr (ab.ev0n [0] [(2,di 20)] [] ?_)
  refine aa.ret ?_
  cases h
  exact ⟨_,(GStep.trans (GStep.keep [2]) (GStep.ren [] (by decide) rfl rfl)),.inr rfl,Fin.mk2 (aB.one (.tmp rfl)) [] (by decide) rfl rfl rfl rfl⟩
 refine aa.skip ?_
 refine aa.seq ?_
 refine ao h fun y28 hy28 h=>?_
 refine aa.region (ab.ev (h':=[.live (.var (an a0)),.live (.var [.d (af 3 ag a0.nodes),.d .nilm])]) [0,0,0,0,0,0] [(98,.ptr 1 0),(100,di a0.root)] [] ?_)
 refine ab.step (v:=.agg (an y28)) (ae.callS [1] (jn k a0.root a0.nodes _ hy28) rfl rfl ⟨rfl,rfl,trivial⟩ (by decide) rfl rfl ⟨⟨rfl,rfl⟩,trivial⟩) rfl rfl rfl ?_
 refine ab.evn (h':=[.live (.var (an a0)),.live (.var [.d (af 3 ag a0.nodes),.d .nilm]),.live (.var (an y28))]) [0,0] [(6,.ptr 2 0)] [] ?_
 refine aa.seq ?_
 refine aa.seq ?_
 refine ao h fun y29 hy29 h=>?_
 refine aa.region (ab.ev0 [0,0] [(102,.agg (an y28)),(103,.agg (an a0))] [] ?_)
 refine ab.step (v:=db y29) (ae.callS [] (po k y28 a0 _ hy29) rfl rfl ⟨⟨rfl,rfl,trivial⟩,⟨rfl,rfl,trivial⟩,trivial⟩ (by decide) rfl rfl trivial) rfl rfl rfl ?_
 refine ab.ev0n [0] [(105,db (!y29))] [] ?_
 refine aa.condI h rfl (fun hc30 h=>?_) (fun hc30 h=>?_)
 ·
  refine aa.sr (ab.ev0n [0] [(2,di 20)] [] ?_)
  refine aa.ret ?_
  cases h
  exact ⟨_,(GStep.trans (GStep.keep [2]) (GStep.ren [] (by decide) rfl rfl)),.inr rfl,Fin.mk2 (aB.one (.tmp rfl)) [] (by decide) rfl rfl rfl rfl⟩
 refine aa.skip ?_
 refine aa.sr (ab.ev0n [0] [(2,di 0)] [] ?_)
 refine aa.ret ?_
 cases h
 exact ⟨_,(GStep.trans (GStep.keep [2]) (GStep.ren [] (by decide) rfl rfl)),.inr rfl,Fin.mk2 (aB.one (.tmp rfl)) [] (by decide) rfl rfl rfl rfl⟩
noncomputable def iM (a0:ai)(a1:Int):Option Bool:=some (decide (a0.var≥a1))
set_option maxRecDepth 100000 in
set_option maxHeartbeats 4000000 in
theorem oe (a0:ai)(a1:Int)(r:Bool)(h:iM a0 a1=some r):SC P 200 [.agg (aK a0),.ptr 0 0] [(.var [di a1])] (db r) [.live (.var [di a1])]:=by
 unfold iM at h
 refine SC.intro3 (N:=8) Tryz.func200 rfl rfl Tryz.ntmps200 rfl ?_
 refine aa.sr (ab.evn (h':=[.live (.var [di a1]),.live (.var (aK a0))]) [0,0] [(2,.ptr 1 0)] [] ?_)
 refine aa.sr (ab.ev0n [0,0,0,0,0] [(3,db (decide (a0.var≥a1)))] [] ?_)
 refine aa.ret ?_
 cases h
 exact ⟨_,(GStep.trans (GStep.keep [3]) (GStep.ren [0] (by decide) rfl rfl)),.inr rfl,Fin.mk2 (aB.one (.tmp rfl)) [0] (by decide) rfl rfl rfl rfl⟩
noncomputable def dC (k:Nat)(a0:List ai)(a1:Int)(v:Int):Option (Int⊕Unit):=match k,v with
  | 0,_=>none
  | k+1,v0_0=>(if (decide (v0_0 < (a0.length:Int)))=true then (if (0:Int)≤v0_0∧v0_0 < (a0.length:Int) then ((iM (nth a0 v0_0) a1).bind fun y3=>(if y3=true then some (.inl v0_0) else (dC k a0 a1 (IntKind.wrap .i64 (v0_0+1))))) else none) else some (.inr ()))
theorem jJ:type_of% (@dC.eq_2):=@dC.eq_2
noncomputable def jk (k:Nat)(a0:List ai)(a1:Int):Option Int:=(((dC k a0 a1 0):Option (Int⊕Unit)).bind fun o7=>match o7 with | .inl r5=>(some r5) | .inr x6=>(some (-1)))
set_option maxRecDepth 100000 in
set_option maxHeartbeats 4000000 in
theorem oJ (k:Nat)(a0:List ai)(a1:Int)(r:Int)(h:jk k a0 a1=some r):SC P 221 [.d (af 3 ag a0),.clo 200 [] [.ptr 0 0]] [(.var [di a1])] (di r) [.live (.var [di a1])]:=by
 unfold jk at h
 refine SC.intro3 (N:=19) Tryz.func221 rfl rfl Tryz.ntmps221 rfl ?_
 refine aa.sr (ab.ev0n [0] [] [] ?_)
 refine aa.seq ?_
 refine aa.sr (ab.ev0n [0,0,0] [(7,di (a0.length:Int)),(8,di 0)] [] ?_)
 refine aa.block ?_
 refine ao h fun o7 ho7 h=>?_
 refine aa.cut (Q':=fun e s'=>match o7 with | .inl r5=>((e = .ret)∧Fin P (Tryz.f221.results) 1 [.live (.var [di a1])] (di r5) s') | .inr x6=>(e = .exit 0∧s'=⟨[],[.live (.var [di a1])]⟩)) ?_ ?_
 ·
  have h:=ho7
  refine aa.ghost (GStep.keep [0,1,7,8]) ?_
  refine aa.loopI (F:=fun k v=>dC k a0 a1 v) (fun v=>⟨[(0,.d (af 3 ag a0)),(1,.clo 200 [] [.ptr 0 0]),(7,di (a0.length:Int)),(8,di v)],[.live (.var [di a1])]⟩) (k:=k) (v:=0) h rfl (fun _=>rfl) ?_
  intro k v0_0 ih h
  have h:=(jJ ..).symm.trans h
  refine aa.sr (ab.ev0n [0] [(9,db (decide (v0_0 < (a0.length:Int))))] [] ?_)
  refine aa.seq ?_
  refine aa.condI h rfl (fun hc1 h=>?_) (fun hc1 h=>?_)
  ·
   refine aa.skip ?_
   refine aa.seq ?_
   refine aa.block ?_
   refine aa.sr (ab.ev0n [0,0] [(5,di v0_0)] [] ?_)
   refine aa.seq ?_
   refine aD h fun hb2 h=>?_
   refine ao h fun y3 hy3 h=>?_
   refine aa.region (ab.ev0 [0,0,0,0,0] [(11,.clo 200 [] [.ptr 0 0]),(15,.agg (aK (nth a0 v0_0)))] [⟨_,hb2.1⟩,⟨_,hb2.2⟩] ?_)
   refine ab.step (v:=db y3) (ae.callS [0] (oe (nth a0 v0_0) a1 _ hy3) rfl rfl ⟨⟨rfl,rfl,rfl,trivial⟩,rfl,trivial⟩ (by decide) rfl rfl ⟨⟨rfl,rfl⟩,trivial⟩) rfl rfl rfl ?_
   refine ab.nil ?_
   refine aa.condI h rfl (fun hc4 h=>?_) (fun hc4 h=>?_)
   ·
    refine aa.sr (ab.ev0n [0,0] [(4,di v0_0)] [] ?_)
    refine aa.ret ?_
    cases h
    exact ⟨_,(GStep.keep [4]),rfl,Fin.mk2 (aB.one (.tmp rfl)) [0] (by decide) rfl rfl rfl rfl⟩
   refine aa.skip ?_
   refine aa.region (ab.ev0n [0,0] [(8,di (IntKind.wrap .i64 (v0_0+1)))] [] ?_)
   exact aM.ghost (GStep.keep [0,1,7,8]) (ih (IntKind.wrap .i64 (v0_0+1)) h)
  refine aa.exit ?_
  cases h
  exact ⟨_,(GStep.keep []),rfl,rfl⟩
 rcases o7 with r5 | x6
 ·
  rintro e s' hq
  obtain ⟨rfl,hq⟩:=hq
  cases h
  exact ⟨_,GStep.refl _ _,.inr rfl,hq⟩
 rintro e s' hq
 obtain ⟨rfl,rfl⟩:=hq
 refine aa.sr (ab.ev0n [0] [(4,di (-1))] [] ?_)
 refine aa.ret ?_
 cases h
 exact ⟨_,(GStep.keep [4]),.inr rfl,Fin.mk2 (aB.one (.tmp rfl)) [0] (by decide) rfl rfl rfl rfl⟩
noncomputable def jj (k:Nat)(a0:List ai)(a1:Int):Option Bool:=((jk k a0 a1).bind fun y1=>some (decide (y1≥0)))
set_option maxRecDepth 100000 in
set_option maxHeartbeats 4000000 in
theorem oI (k:Nat)(a0:List ai)(a1:Int)(r:Bool)(h:jj k a0 a1=some r):SC P 199 [.d (af 3 ag a0),.clo 200 [] [.ptr 0 0]] [(.var [di a1])] (db r) [.live (.var [di a1])]:=by
 unfold jj at h
 refine SC.intro3 (N:=9) Tryz.func199 rfl rfl Tryz.ntmps199 rfl ?_
 refine aa.sr (ab.ev0n [0] [] [] ?_)
 refine aa.seq ?_
 refine ao h fun y1 hy1 h=>?_
 refine aa.region (ab.ev0 [0,0] [(5,.d (af 3 ag a0)),(6,.clo 200 [] [.ptr 0 0])] [] ?_)
 refine ab.step (v:=di y1) (ae.callS [0] (oJ k a0 a1 _ hy1) rfl rfl ⟨rfl,rfl,trivial⟩ (by decide) rfl rfl ⟨⟨rfl,rfl⟩,trivial⟩) rfl rfl rfl ?_
 refine ab.ev0n [0,0] [(4,db (decide (y1≥0)))] [] ?_
 refine aa.ret ?_
 cases h
 exact ⟨_,(GStep.keep [4]),.inr rfl,Fin.mk2 (aB.one (.tmp rfl)) [0] (by decide) rfl rfl rfl rfl⟩
noncomputable def dg (k:Nat)(a0:ap)(a1:Int):Option Bool:=((jm k a0).bind fun y1=>(if (!decide (y1=0))=true then some false else ((jj k a0.nodes a1).bind fun y3=>some (!y3))))
set_option maxRecDepth 100000 in
set_option maxHeartbeats 4000000 in
theorem cu (k:Nat)(a0:ap)(a1:Int)(r:Bool)(h:dg k a0 a1=some r):SC P 149 [.agg (an a0),di a1] [] (db r) []:=by
 unfold dg at h
 refine SC.intro3 (N:=13) Tryz.func149 rfl rfl Tryz.ntmps149 rfl ?_
 refine aa.sr (ab.evn (h':=[.live (.var (an a0)),.live (.var [di a1])]) [0,0,0] [(2,.ptr 0 0),(3,.ptr 1 0)] [] ?_)
 refine aa.seq ?_
 refine aa.seq ?_
 refine ao h fun y1 hy1 h=>?_
 refine aa.region (ab.ev0 [0] [(5,.agg (an a0))] [] ?_)
 refine ab.step (v:=di y1) (ae.callS [] (oM k a0 _ hy1) rfl rfl ⟨⟨rfl,rfl,trivial⟩,trivial⟩ (by decide) rfl rfl trivial) rfl rfl rfl ?_
 refine ab.ev0n [0] [(7,db (!decide (y1=0)))] [] ?_
 refine aa.condI h rfl (fun hc2 h=>?_) (fun hc2 h=>?_)
 ·
  refine aa.sr (ab.ev0n [0] [(4,db false)] [] ?_)
  refine aa.ret ?_
  cases h
  exact ⟨_,(GStep.trans (GStep.keep [4]) (GStep.ren [] (by decide) rfl rfl)),.inr rfl,Fin.mk2 (aB.one (.tmp rfl)) [] (by decide) rfl rfl rfl rfl⟩
 refine aa.skip ?_
 refine aa.seq ?_
 refine ao h fun y3 hy3 h=>?_
 refine aa.region (ab.ev0 [0,0,0] [(9,.d (af 3 ag a0.nodes)),(10,.clo 200 [] [.ptr 1 0])] [] ?_)
 refine ab.step (v:=db y3) (ae.callS [1] (oI k a0.nodes a1 _ hy3) rfl rfl ⟨rfl,rfl,trivial⟩ (by decide) rfl rfl ⟨⟨rfl,rfl⟩,trivial⟩) rfl rfl rfl ?_
 refine ab.ev0n [0,0] [(4,db (!y3))] [] ?_
 refine aa.ret ?_
 cases h
 exact ⟨_,(GStep.trans (GStep.keep [4]) (GStep.ren [] (by decide) rfl rfl)),.inr rfl,Fin.mk2 (aB.one (.tmp rfl)) [] (by decide) rfl rfl rfl rfl⟩
noncomputable def bt (k:Nat)(a0:am)(y1:List (ByteArray×Bool))(v:Int×(List (ByteArray×Bool))):Option (Int⊕Unit):=match k,v with
  | 0,_=>none
  | k+1,(v0_0,v0_1)=>(if (decide (v0_0 < (a0.conditions.length:Int)))=true then (if (0:Int)≤v0_0∧v0_0 < (a0.conditions.length:Int) then ((((dR k (nth a0.conditions v0_0)).bind fun y4=>(if (!y4)=true then some (true,v0_1) else (if (decide ((nth a0.conditions v0_0)=(⟨#[116,114,117,101]⟩:ByteArray)))=true then some (true,v0_1) else (if (decide ((nth a0.conditions v0_0)=(⟨#[102,97,108,115,101]⟩:ByteArray)))=true then some (true,v0_1) else ((cv (nth a0.conditions v0_0) v0_1).bind fun y8=>some ((!y8.1),y8.2)))))):Option (Bool×(List (ByteArray×Bool)))).bind fun x10=>(if x10.1=true then some (.inl 54) else (bt k a0 y1 ((IntKind.wrap .i64 (v0_0+1)),x10.2)))) else none) else some (.inr ()))
theorem dc:type_of% (@bt.eq_2):=@bt.eq_2
noncomputable def cJ (k:Nat)(a0:am):Option Int:=((eP).bind fun y1=>(((bt k a0 y1 (0,y1)):Option (Int⊕Unit)).bind fun o19=>match o19 with | .inl r12=>(some r12) | .inr x13=>((((dg k a0.family (a0.conditions.length:Int)).bind fun y14=>(if (!y14)=true then some true else some (decide (a0.family.root=0)))):Option Bool).bind fun x17=>(if x17=true then some 54 else some 0))))
set_option maxRecDepth 100000 in
set_option maxHeartbeats 4000000 in
theorem kM (k:Nat)(a0:am)(r:Int)(h:cJ k a0=some r):SC P 75 [.agg (ah a0)] [] (di r) []:=by
 unfold cJ at h
 refine SC.intro3 (N:=45) Tryz.func75 rfl rfl Tryz.ntmps75 rfl ?_
 refine aa.sr (ab.evn (h':=[.live (.var (ah a0))]) [0,0] [(1,.ptr 0 0)] [] ?_)
 refine aa.seq ?_
 refine ao h fun y1 hy1 h=>?_
 refine aa.region ?_
 refine ab.step (v:=.clo 198 [] [.ptr 1 0]) (ae.callS [] (fL _ hy1) rfl rfl trivial (by decide) rfl rfl trivial) rfl rfl rfl ?_
 refine ab.hp (h':=[.live (.var (ah a0)),.live (.var [.mp 2]),.live (.mp (aI D.str D.bool y1))]) (by kernel_rfl) ?_
 refine ab.ev0n [0] [(3,.clo 198 [] [.ptr 1 0])] [] ?_
 refine aa.seq ?_
 refine aa.sr (ab.ev0n [0,0,0,0] [(8,.d (af 1 eS a0.conditions)),(9,di (a0.conditions.length:Int)),(10,di 0)] [] ?_)
 refine aa.block ?_
 refine ao h fun o19 ho19 h=>?_
 refine aa.cut (Q':=fun e s'=>match o19 with | .inl r12=>((e = .ret)∧Fin P (Tryz.f75.results) 0 [] (di r12) s') | .inr x13=>(e = .exit 0∧s'=⟨[(1,.ptr 0 0)],[.live (.var (ah a0))]⟩)) ?_ ?_
 ·
  have h:=ho19
  refine aa.ghost (GStep.keep [1,3,8,9,10]) ?_
  refine aa.loopI (F:=fun k v=>bt k a0 y1 v) (fun v=>⟨[(1,.ptr 0 0),(3,.clo 198 [] [.ptr 1 0]),(8,.d (af 1 eS a0.conditions)),(9,di (a0.conditions.length:Int)),(10,di v.1)],[.live (.var (ah a0)),.live (.var [.mp 2]),.live (.mp (aI D.str D.bool v.2))]⟩) (k:=k) (v:=(0,y1)) h rfl (fun _=>rfl) ?_
  intro k v ih h
  obtain ⟨v0_0,v0_1⟩:=v
  have h:=(dc ..).symm.trans h
  refine aa.sr (ab.ev0n [0] [(11,db (decide (v0_0 < (a0.conditions.length:Int))))] [] ?_)
  refine aa.seq ?_
  refine aa.condI h rfl (fun hc2 h=>?_) (fun hc2 h=>?_)
  ·
   refine aa.skip ?_
   refine aa.seq ?_
   refine aa.block ?_
   refine aa.seq ?_
   refine aD h fun hb3 h=>?_
   refine aa.region (ab.ev0n [0,0,0] [(5,.d (.str (nth a0.conditions v0_0)))] [⟨_,hb3.1⟩,⟨_,hb3.2⟩] ?_)
   refine aa.seq ?_
   refine ao h fun x10 ho9 h=>?_
   refine aa.cut (Q':=fun e s'=>e = .normal∧s'=⟨[(1,.ptr 0 0),(3,.clo 198 [] [.ptr 1 0]),(8,.d (af 1 eS a0.conditions)),(9,di (a0.conditions.length:Int)),(10,di v0_0),(30,db x10.1)],[.live (.var (ah a0)),.live (.var [.mp 2]),.live (.mp (aI D.str D.bool x10.2))]⟩) ?_ ?_
   ·
    have h:=ho9
    refine ao h fun y4 hy4 h=>?_
    refine au h (fun hc5 h=>?_) (fun hc5 h=>?_)
    ·
     refine aa.region (ab.ev0 [0] [(14,.d (.str (nth a0.conditions v0_0)))] [] ?_)
     refine ab.step (v:=db y4) (ae.callS [] (dX k (nth a0.conditions v0_0) _ hy4) rfl rfl ⟨rfl,trivial⟩ (by decide) rfl rfl trivial) rfl rfl rfl ?_
     refine ab.ev0n [0,0,2,0,0,0,0,0,0,0,0,0,0,0,0] [(30,db true)] [⟨_,hc5⟩] ?_
     cases h
     exact ⟨_,(GStep.keep [1,3,8,9,10,30]),rfl,rfl⟩
    refine au h (fun hc6 h=>?_) (fun hc6 h=>?_)
    ·
     refine aa.region (ab.ev0 [0] [(14,.d (.str (nth a0.conditions v0_0)))] [] ?_)
     refine ab.step (v:=db y4) (ae.callS [] (dX k (nth a0.conditions v0_0) _ hy4) rfl rfl ⟨rfl,trivial⟩ (by decide) rfl rfl trivial) rfl rfl rfl ?_
     refine ab.ev0n [0,0,1,0,0,0,2,0,0,0,0,0,0,0,0] [(30,db true)] [⟨_,hc5⟩,⟨_,hc6⟩] ?_
     cases h
     exact ⟨_,(GStep.keep [1,3,8,9,10,30]),rfl,rfl⟩
    refine au h (fun hc7 h=>?_) (fun hc7 h=>?_)
    ·
     refine aa.region (ab.ev0 [0] [(14,.d (.str (nth a0.conditions v0_0)))] [] ?_)
     refine ab.step (v:=db y4) (ae.callS [] (dX k (nth a0.conditions v0_0) _ hy4) rfl rfl ⟨rfl,trivial⟩ (by decide) rfl rfl trivial) rfl rfl rfl ?_
     refine ab.ev0n [0,0,1,0,0,0,1,0,0,0,2,0,0,0,0] [(30,db true)] [⟨_,hc5⟩,⟨_,hc6⟩,⟨_,hc7⟩] ?_
     cases h
     exact ⟨_,(GStep.keep [1,3,8,9,10,30]),rfl,rfl⟩
    refine ao h fun y8 hy8 h=>?_
    refine aa.region (ab.ev0 [0] [(14,.d (.str (nth a0.conditions v0_0)))] [] ?_)
    refine ab.step (v:=db y4) (ae.callS [] (dX k (nth a0.conditions v0_0) _ hy4) rfl rfl ⟨rfl,trivial⟩ (by decide) rfl rfl trivial) rfl rfl rfl ?_
    refine ab.ev0 [0,0,1,0,0,0,1,0,0,0,3,3] [(25,db (decide ((nth a0.conditions v0_0)=(⟨#[102,97,108,115,101]⟩:ByteArray)))),(26,.clo 198 [] [.ptr 1 0]),(27,.d (.str (nth a0.conditions v0_0)))] [⟨_,hc5⟩,⟨_,hc6⟩,⟨_,hc7⟩,⟨_,hc7⟩] ?_
    refine ab.gstep (v:=db y8.1) (ae.callS [1,2] (bm (nth a0.conditions v0_0) v0_1 _ hy8) rfl rfl ⟨rfl,rfl,trivial⟩ (by decide) rfl rfl ⟨⟨rfl,rfl⟩,⟨rfl,rfl⟩,trivial⟩) rfl rfl rfl hc7 rfl rfl ?_
    refine ab.hp (h':=[.live (.var (ah a0)),.live (.var [.mp 2]),.live (.mp (aI D.str D.bool y8.2))]) (by kernel_rfl) ?_
    refine ab.ev0n [3,20] [(30,db (!y8.1))] [⟨_,hc7⟩,⟨_,hc7⟩] ?_
    cases h
    exact ⟨_,(GStep.keep [1,3,8,9,10,30]),rfl,rfl⟩
   rintro e s' hq
   obtain ⟨rfl,rfl⟩:=hq
   refine aa.condI h rfl (fun hc11 h=>?_) (fun hc11 h=>?_)
   ·
    refine aa.sr (ab.ev0n [0] [(2,di 54)] [] ?_)
    refine aa.ret ?_
    cases h
    exact ⟨_,(GStep.trans (GStep.keep [2]) (GStep.ren [] (by decide) rfl rfl)),rfl,Fin.mk2 (aB.one (.tmp rfl)) [] (by decide) rfl rfl rfl rfl⟩
   refine aa.skip ?_
   refine aa.region (ab.ev0n [0,0] [(10,di (IntKind.wrap .i64 (v0_0+1)))] [] ?_)
   exact aM.ghost (GStep.keep [1,3,8,9,10]) (ih ((IntKind.wrap .i64 (v0_0+1)),x10.2) h)
  refine aa.exit ?_
  cases h
  exact ⟨_,(GStep.trans (GStep.keep [1]) (GStep.ren [0] (by decide) rfl rfl)),rfl,rfl⟩
 rcases o19 with r12 | x13
 ·
  rintro e s' hq
  obtain ⟨rfl,hq⟩:=hq
  cases h
  exact ⟨_,GStep.refl _ _,.inr rfl,hq⟩
 rintro e s' hq
 obtain ⟨rfl,rfl⟩:=hq
 refine aa.seq ?_
 refine aa.seq ?_
 refine ao h fun x17 ho16 h=>?_
 refine aa.cut (Q':=fun e s'=>e = .normal∧s'=⟨[(44,db x17)],[]⟩) ?_ ?_
 ·
  have h:=ho16
  refine ao h fun y14 hy14 h=>?_
  refine au h (fun hc15 h=>?_) (fun hc15 h=>?_)
  ·
   refine aa.region (ab.ev0 [0,0,0,0,0] [(33,.agg (an a0.family)),(36,di (a0.conditions.length:Int))] [] ?_)
   refine ab.step (v:=db y14) (ae.callS [] (cu k a0.family (a0.conditions.length:Int) _ hy14) rfl rfl ⟨⟨rfl,rfl,trivial⟩,rfl,trivial⟩ (by decide) rfl rfl trivial) rfl rfl rfl ?_
   refine ab.ev0n [0,0,2,0,0,0,0] [(44,db true)] [⟨_,hc15⟩] ?_
   cases h
   exact ⟨_,(GStep.trans (GStep.keep [44]) (GStep.ren [] (by decide) rfl rfl)),rfl,rfl⟩
  refine aa.region (ab.ev0 [0,0,0,0,0] [(33,.agg (an a0.family)),(36,di (a0.conditions.length:Int))] [] ?_)
  refine ab.step (v:=db y14) (ae.callS [] (cu k a0.family (a0.conditions.length:Int) _ hy14) rfl rfl ⟨⟨rfl,rfl,trivial⟩,rfl,trivial⟩ (by decide) rfl rfl trivial) rfl rfl rfl ?_
  refine ab.ev0n [0,0,1,0,0,0,0] [(44,db (decide (a0.family.root=0)))] [⟨_,hc15⟩] ?_
  cases h
  exact ⟨_,(GStep.trans (GStep.keep [44]) (GStep.ren [] (by decide) rfl rfl)),rfl,rfl⟩
 rintro e s' hq
 obtain ⟨rfl,rfl⟩:=hq
 refine aa.condI h rfl (fun hc18 h=>?_) (fun hc18 h=>?_)
 ·
  refine aa.sr (ab.ev0n [0] [(2,di 54)] [] ?_)
  refine aa.ret ?_
  cases h
  exact ⟨_,(GStep.keep [2]),.inr rfl,Fin.mk2 (aB.one (.tmp rfl)) [] (by decide) rfl rfl rfl rfl⟩
 refine aa.skip ?_
 refine aa.sr (ab.ev0n [0] [(2,di 0)] [] ?_)
 refine aa.ret ?_
 cases h
 exact ⟨_,(GStep.keep [2]),.inr rfl,Fin.mk2 (aB.one (.tmp rfl)) [] (by decide) rfl rfl rfl rfl⟩
noncomputable def jo (a0:Int):Option Int:=(((if (decide (a0=0))=true then some (decide (a0=0)) else some (decide (a0=1))):Option Bool).bind fun x3=>(if x3=true then some 0 else (if (decide (a0=4))=true then some 1 else (((if (decide (a0=2))=true then some (decide (a0=2)) else some (decide (a0=3))):Option Bool).bind fun x8=>(if x8=true then some 2 else some (-1))))))
set_option maxRecDepth 100000 in
set_option maxHeartbeats 4000000 in
theorem oZ (a0:Int)(r:Int)(h:jo a0=some r):SC P 202 [di a0] [] (di r) []:=by
 unfold jo at h
 refine SC.intro3 (N:=12) Tryz.func202 rfl rfl Tryz.ntmps202 rfl ?_
 refine aa.sr (ab.ev0n [0] [] [] ?_)
 refine aa.seq ?_
 refine aa.sr (ab.ev0n [0] [(3,di a0)] [] ?_)
 refine aa.block ?_
 refine aa.seq ?_
 refine aa.sr (ab.ev0n [0,0] [(4,db (decide (a0=0)))] [] ?_)
 refine ao h fun x3 ho2 h=>?_
 refine aa.cut (Q':=fun e s'=>e = .normal∧s'=⟨[(3,di a0),(4,db x3)],[]⟩) ?_ ?_
 ·
  have h:=ho2
  refine aa.condI h rfl (fun hc1 h=>?_) (fun hc1 h=>?_)
  ·
   refine aa.skip ?_
   cases h
   exact ⟨_,(GStep.keep [3,4]),rfl,rfl⟩
  refine aa.region (ab.ev0n [0,0] [(4,db (decide (a0=1)))] [] ?_)
  cases h
  exact ⟨_,(GStep.keep [3,4]),rfl,rfl⟩
 rintro e s' hq
 obtain ⟨rfl,rfl⟩:=hq
 refine aa.condI h rfl (fun hc4 h=>?_) (fun hc4 h=>?_)
 ·
  refine aa.sr (ab.ev0n [0] [(2,di 0)] [] ?_)
  refine aa.ret ?_
  cases h
  exact ⟨_,(GStep.keep [2]),.inr rfl,Fin.mk2 (aB.one (.tmp rfl)) [] (by decide) rfl rfl rfl rfl⟩
 refine aa.sr (ab.ev0n [0,0] [(7,db (decide (a0=4)))] [] ?_)
 refine aa.condI h rfl (fun hc5 h=>?_) (fun hc5 h=>?_)
 ·
  refine aa.sr (ab.ev0n [0] [(2,di 1)] [] ?_)
  refine aa.ret ?_
  cases h
  exact ⟨_,(GStep.keep [2]),.inr rfl,Fin.mk2 (aB.one (.tmp rfl)) [] (by decide) rfl rfl rfl rfl⟩
 refine aa.seq ?_
 refine aa.sr (ab.ev0n [0,0] [(9,db (decide (a0=2)))] [] ?_)
 refine ao h fun x8 ho7 h=>?_
 refine aa.cut (Q':=fun e s'=>e = .normal∧s'=⟨[(9,db x8)],[]⟩) ?_ ?_
 ·
  have h:=ho7
  refine aa.condI h rfl (fun hc6 h=>?_) (fun hc6 h=>?_)
  ·
   refine aa.skip ?_
   cases h
   exact ⟨_,(GStep.keep [9]),rfl,rfl⟩
  refine aa.region (ab.ev0n [0,0] [(9,db (decide (a0=3)))] [] ?_)
  cases h
  exact ⟨_,(GStep.keep [9]),rfl,rfl⟩
 rintro e s' hq
 obtain ⟨rfl,rfl⟩:=hq
 refine aa.condI h rfl (fun hc9 h=>?_) (fun hc9 h=>?_)
 ·
  refine aa.sr (ab.ev0n [0] [(2,di 2)] [] ?_)
  refine aa.ret ?_
  cases h
  exact ⟨_,(GStep.keep [2]),.inr rfl,Fin.mk2 (aB.one (.tmp rfl)) [] (by decide) rfl rfl rfl rfl⟩
 refine aa.skip ?_
 refine aa.sr (ab.ev0n [0] [(2,di (-1))] [] ?_)
 refine aa.ret ?_
 cases h
 exact ⟨_,(GStep.keep [2]),.inr rfl,Fin.mk2 (aB.one (.tmp rfl)) [] (by decide) rfl rfl rfl rfl⟩
noncomputable def bh (a0:Int)(a1:Int)(a2:List Bool):Option (Bool×(List Bool)):=(((if (decide (a0 < 0))=true then some true else (if (decide (a0≥a1))=true then some true else (if (0:Int)≤a0∧a0 < (a2.length:Int) then some (a2.getD (Int.toNat a0) default) else none))):Option Bool).bind fun x5=>(if x5=true then some (false,a2) else (if (0:Int)≤a0∧a0 < (a2.length:Int) then some (true,(a2.set (Int.toNat a0) true)) else none)))
set_option maxRecDepth 100000 in
set_option maxHeartbeats 4000000 in
theorem aJ (a0:Int)(a1:Int)(a2:List Bool)(r:Bool×(List Bool))(h:bh a0 a1 a2=some r):SC P 201 [di a0,di a1,.ptr 0 0] [(.var [.osl 1 0 a2.length 1]),(.arr 1 a2.length false (row eB a2))] (db r.1) [.live (.var [.osl 1 0 r.2.length 1]),.live (.arr 1 r.2.length false (row eB r.2))]:=by
 unfold bh at h
 refine SC.intro3 (N:=22) Tryz.func201 rfl rfl Tryz.ntmps201 rfl ?_
 refine aa.sr (ab.ev0n [0] [] [] ?_)
 refine aa.seq ?_
 refine aa.seq ?_
 refine ao h fun x5 ho4 h=>?_
 refine aa.cut (Q':=fun e s'=>e = .normal∧s'=⟨[(0,di a0),(2,.ptr 0 0),(18,db x5)],[.live (.var [.osl 1 0 a2.length 1]),.live (.arr 1 a2.length false (row eB a2))]⟩) ?_ ?_
 ·
  have h:=ho4
  refine au h (fun hc1 h=>?_) (fun hc1 h=>?_)
  ·
   refine aa.region (ab.ev0n [0,0,0,2,0,0,0,0,0,0,0,0,0] [(18,db true)] [⟨_,hc1⟩] ?_)
   cases h
   exact ⟨_,(GStep.keep [0,2,18]),rfl,rfl⟩
  refine au h (fun hc2 h=>?_) (fun hc2 h=>?_)
  ·
   refine aa.region (ab.ev0n [0,0,0,1,0,0,0,0,2,0,0,0,0] [(18,db true)] [⟨_,hc1⟩,⟨_,hc2⟩] ?_)
   cases h
   exact ⟨_,(GStep.keep [0,2,18]),rfl,rfl⟩
  refine aD h fun hb3 h=>?_
  refine aa.region (ab.ev0 [0,0,0,1,0,0,0,0,3,3,3] [(13,db (decide (a0≥a1))),(16,.eptr 1 (Int.toNat a0) 0 1)] [⟨_,hc1⟩,⟨_,hc2⟩,⟨_,hc2⟩,⟨_,hc2⟩,⟨_,hb3.1⟩,⟨_,hb3.2⟩] ?_)
  refine ab.gstep (ae.loadE rfl rfl fF rfl (by have:=hb3; omega) rfl) rfl rfl rfl hc2 rfl rfl ?_
  refine ab.ev0n [20] [(18,db (a2.getD (Int.toNat a0) default))] [⟨_,hc2⟩] ?_
  cases h
  exact ⟨_,(GStep.keep [0,2,18]),rfl,rfl⟩
 rintro e s' hq
 obtain ⟨rfl,rfl⟩:=hq
 refine aa.condI h rfl (fun hc6 h=>?_) (fun hc6 h=>?_)
 ·
  refine aa.sr (ab.ev0n [0] [(5,db false)] [] ?_)
  refine aa.ret ?_
  cases h
  exact ⟨_,(GStep.keep [5]),.inr rfl,Fin.mk2 (aB.one (.tmp rfl)) [0,1] (by decide) rfl rfl rfl rfl⟩
 refine aa.skip ?_
 refine aa.seq ?_
 refine aD h fun hb7 h=>?_
 refine aa.region (ab.ev0 [0,0,0] [(21,.eptr 1 (Int.toNat a0) 0 1)] [⟨_,hb7.1⟩,⟨_,hb7.2⟩] ?_)
 refine ab.step0 (ae.storeN eB a2 true rfl rfl rfl rfl fF rfl (by have:=hb7; omega) rfl rfl rfl rfl rfl rfl ⟨rfl,trivial⟩) rfl rfl ?_
 refine ab.hp (h':=[.live (.var [.osl 1 0 a2.length 1]),.live (.arr 1 a2.length false (row eB (a2.set (Int.toNat a0) true)))]) (by kernel_rfl) ?_
 refine ab.nil ?_
 refine aa.sr (ab.ev0n [0] [(5,db true)] [] ?_)
 refine aa.ret ?_
 cases h
 exact ⟨_,(GStep.trans (GStep.keep [5]) (GStep.eqv (s1:=⟨[(5,db true)],[.live (.var [.osl 1 0 a2.length 1]),.live (.arr 1 a2.length false (row eB (a2.set (Int.toNat a0) true)))]⟩) (s':=⟨[(5,db true)],[.live (.var [.osl 1 0 ((a2.set (Int.toNat a0) true).length) 1]),.live (.arr 1 ((a2.set (Int.toNat a0) true).length) false (row eB (a2.set (Int.toNat a0) true)))]⟩) rfl (by simp only [List.length_set]))),.inr rfl,Fin.mk2 (aB.one (.tmp rfl)) [0,1] (by decide) rfl rfl rfl rfl⟩
noncomputable def dG (k:Nat)(a0:List cE)(x58:List Bool)(v:Int):Option (Int⊕Unit):=match k,v with
  | 0,_=>none
  | k+1,v0_0=>(if (decide (v0_0 < (IntKind.wrap .i64 ((a0.length:Int) - 1))))=true then (if (0:Int)≤v0_0∧v0_0 < (x58.length:Int) then (if (!(x58.getD (Int.toNat v0_0) default))=true then some (.inl 40) else (dG k a0 x58 (IntKind.wrap .i64 (v0_0+1)))) else none) else some (.inr ()))
theorem jU:type_of% (@dG.eq_2):=@dG.eq_2
noncomputable def dF (k:Nat)(a0:List cE)(v:Int×(List Bool)):Option (Int⊕(List Bool)):=match k,v with
  | 0,_=>none
  | k+1,(v0_0,v0_1)=>(if (decide (v0_0 < (a0.length:Int)))=true then (if (0:Int)≤v0_0∧v0_0 < (a0.length:Int) then ((jo ((nth a0 v0_0).kind)).bind fun y5=>(((if (decide ((nth a0 v0_0).kind=1))=true then (((if (decide ((nth a0 v0_0).lo≥0))=true then (if (decide ((nth a0 v0_0).lo≤(nth a0 v0_0).hi))=true then some ((decide ((nth a0 v0_0).hi≤255)),(nth a0 v0_0)) else some (false,(nth a0 v0_0))) else some (false,(nth a0 v0_0))):Option (Bool×cE)).bind fun x10=>some (x10.1,x10.2)) else (((if (!decide ((nth a0 v0_0).lo=0))=true then some (true,(nth a0 v0_0)) else some ((!decide ((nth a0 v0_0).hi=0)),(nth a0 v0_0))):Option (Bool×cE)).bind fun x13=>(((if x13.1=true then some false else some (decide (y5≥0))):Option Bool).bind fun x16=>some (x16,x13.2)))):Option (Bool×cE)).bind fun x18=>(((if (!x18.1)=true then some (true,v0_1) else (if (decide (y5 < 1))=true then (if (!decide (x18.2.a=0))=true then some (true,v0_1) else (if (decide (y5 < 2))=true then (if (!decide (x18.2.b=0))=true then some (true,v0_1) else (if (decide (y5≥1))=true then ((bh x18.2.a v0_0 v0_1).bind fun y25=>(if (!y25.1)=true then some (true,y25.2) else (if (decide (y5≥2))=true then ((bh x18.2.b v0_0 y25.2).bind fun y28=>some ((!y28.1),y28.2)) else some (false,y25.2)))) else (if (decide (y5≥2))=true then ((bh x18.2.b v0_0 v0_1).bind fun y30=>some ((!y30.1),y30.2)) else some (false,v0_1)))) else (if (decide (y5≥1))=true then ((bh x18.2.a v0_0 v0_1).bind fun y32=>(if (!y32.1)=true then some (true,y32.2) else (if (decide (y5≥2))=true then ((bh x18.2.b v0_0 y32.2).bind fun y35=>some ((!y35.1),y35.2)) else some (false,y32.2)))) else (if (decide (y5≥2))=true then ((bh x18.2.b v0_0 v0_1).bind fun y37=>some ((!y37.1),y37.2)) else some (false,v0_1))))) else (if (decide (y5 < 2))=true then (if (!decide (x18.2.b=0))=true then some (true,v0_1) else (if (decide (y5≥1))=true then ((bh x18.2.a v0_0 v0_1).bind fun y41=>(if (!y41.1)=true then some (true,y41.2) else (if (decide (y5≥2))=true then ((bh x18.2.b v0_0 y41.2).bind fun y44=>some ((!y44.1),y44.2)) else some (false,y41.2)))) else (if (decide (y5≥2))=true then ((bh x18.2.b v0_0 v0_1).bind fun y46=>some ((!y46.1),y46.2)) else some (false,v0_1)))) else (if (decide (y5≥1))=true then ((bh x18.2.a v0_0 v0_1).bind fun y48=>(if (!y48.1)=true then some (true,y48.2) else (if (decide (y5≥2))=true then ((bh x18.2.b v0_0 y48.2).bind fun y51=>some ((!y51.1),y51.2)) else some (false,y48.2)))) else (if (decide (y5≥2))=true then ((bh x18.2.b v0_0 v0_1).bind fun y53=>some ((!y53.1),y53.2)) else some (false,v0_1)))))):Option (Bool×(List Bool))).bind fun x55=>(if x55.1=true then some (.inl 40) else (dF k a0 ((IntKind.wrap .i64 (v0_0+1)),x55.2)))))) else none) else some (.inr v0_1))
theorem jT:type_of% (@dF.eq_2):=@dF.eq_2
noncomputable def eR (k:Nat)(a0:List cE):Option Int:=(if (decide ((a0.length:Int) > 512))=true then some 2 else (if 0≤(a0.length:Int)∧Int.toNat (a0.length:Int)*1≤140737488355328 then (((dF k a0 (0,(List.replicate (Int.toNat (a0.length:Int)) (false:Bool)))):Option (Int⊕(List Bool))).bind fun o66=>match o66 with | .inl r57=>(some r57) | .inr x58=>(((dG k a0 x58 0):Option (Int⊕Unit)).bind fun o65=>match o65 with | .inl r62=>(some r62) | .inr x63=>(if (decide ((a0.length:Int)=0))=true then some 40 else some 0))) else none))
set_option maxRecDepth 100000 in
set_option maxHeartbeats 4000000 in
theorem oY (k:Nat)(a0:List cE)(r:Int)(h:eR k a0=some r):SC P 150 [.d (af 5 aO a0)] [] (di r) []:=by
 unfold eR at h
 refine SC.intro3 (N:=117) Tryz.func150 rfl rfl Tryz.ntmps150 rfl ?_
 refine aa.sr (ab.ev0n [0] [] [] ?_)
 refine aa.seq ?_
 refine aa.sr (ab.ev0n [0,0,0] [(12,db (decide ((a0.length:Int) > 512)))] [] ?_)
 refine aa.condI h rfl (fun hc1 h=>?_) (fun hc1 h=>?_)
 ·
  refine aa.sr (ab.ev0n [0] [(2,di 2)] [] ?_)
  refine aa.ret ?_
  cases h
  exact ⟨_,(GStep.keep [2]),.inr rfl,Fin.mk2 (aB.one (.tmp rfl)) [] (by decide) rfl rfl rfl rfl⟩
 refine aa.skip ?_
 refine aa.seq ?_
 refine aD h fun hz2 h=>?_
 refine aa.region (ab.ev0 [0,0] [(14,di (a0.length:Int))] [] ?_)
 refine ab.step (v:=.osl 0 0 ((List.replicate (Int.toNat (a0.length:Int)) (false:Bool)).length) 1) (ae.unex (ae.makeT eB false rfl rfl rfl zH Ay AI rfl rfl rfl rfl ⟨rfl,trivial⟩ hz2.1 hz2.2)) rfl rfl rfl ?_
 refine ab.hp (h':=[.live (.arr 1 ((List.replicate (Int.toNat (a0.length:Int)) (false:Bool)).length) false (row eB (List.replicate (Int.toNat (a0.length:Int)) (false:Bool))))]) (by kernel_rfl) ?_
 refine ab.evn (h':=[.live (.arr 1 ((List.replicate (Int.toNat (a0.length:Int)) (false:Bool)).length) false (row eB (List.replicate (Int.toNat (a0.length:Int)) (false:Bool)))),.live (.var [.osl 0 0 ((List.replicate (Int.toNat (a0.length:Int)) (false:Bool)).length) 1])]) [0,0] [(3,.ptr 1 0)] [] ?_
 refine aa.sr (ab.ev0n [0,0] [(4,.clo 201 [] [.ptr 1 0])] [] ?_)
 refine aa.seq ?_
 refine aa.sr (ab.ev0n [0,0,0] [(17,.d (af 5 aO a0)),(18,di (a0.length:Int)),(19,di 0)] [] ?_)
 refine aa.block ?_
 refine ao h fun o66 ho66 h=>?_
 refine aa.cut (Q':=fun e s'=>match o66 with | .inl r57=>((e = .ret)∧Fin P (Tryz.f150.results) 0 [] (di r57) s') | .inr x58=>(e = .exit 0∧s'=⟨[(0,.d (af 5 aO a0)),(3,.ptr 0 0)],[.live (.var [.osl 1 0 x58.length 1]),.live (.arr 1 x58.length false (row eB x58))]⟩)) ?_ ?_
 ·
  have h:=ho66
  refine aa.ghost (GStep.trans (GStep.keep [0,3,4,17,18,19]) (GStep.ren [1,0] (by decide) rfl rfl)) ?_
  refine aa.loopI (F:=fun k v=>dF k a0 v) (fun v=>⟨[(0,.d (af 5 aO a0)),(3,.ptr 0 0),(4,.clo 201 [] [.ptr 0 0]),(17,.d (af 5 aO a0)),(18,di (a0.length:Int)),(19,di v.1)],[.live (.var [.osl 1 0 v.2.length 1]),.live (.arr 1 v.2.length false (row eB v.2))]⟩) (k:=k) (v:=(0,(List.replicate (Int.toNat (a0.length:Int)) (false:Bool)))) h rfl (fun _=>rfl) ?_
  intro k v ih h
  obtain ⟨v0_0,v0_1⟩:=v
  have h:=(jT ..).symm.trans h
  refine aa.sr (ab.ev0n [0] [(20,db (decide (v0_0 < (a0.length:Int))))] [] ?_)
  refine aa.seq ?_
  refine aa.condI h rfl (fun hc3 h=>?_) (fun hc3 h=>?_)
  ·
   refine aa.skip ?_
   refine aa.seq ?_
   refine aa.block ?_
   refine aa.seq ?_
   refine aD h fun hb4 h=>?_
   refine aa.region (ab.evn (h':=[.live (.var [.osl 1 0 v0_1.length 1]),.live (.arr 1 v0_1.length false (row eB v0_1)),.live (.var (aT (nth a0 v0_0)))]) [0,0,0,0,0,0] [(6,.ptr 2 0),(5,di v0_0)] [⟨_,hb4.1⟩,⟨_,hb4.2⟩] ?_)
   refine aa.seq ?_
   refine ao h fun y5 hy5 h=>?_
   refine aa.region (ab.ev0 [0,0] [(25,di ((nth a0 v0_0).kind))] [] ?_)
   refine ab.step (v:=di y5) (ae.callS [] (oZ ((nth a0 v0_0).kind) _ hy5) rfl rfl ⟨rfl,trivial⟩ (by decide) rfl rfl trivial) rfl rfl rfl ?_
   refine ab.ev0n [0] [(7,di y5)] [] ?_
   refine aa.sr (ab.ev0n [0,0,0] [(8,db (decide (y5≥0)))] [] ?_)
   refine aa.seq ?_
   refine aa.block ?_
   refine aa.sr (ab.ev0n [0,0,0,0] [(29,db (decide ((nth a0 v0_0).kind=1)))] [] ?_)
   refine ao h fun x18 ho17 h=>?_
   refine aa.cut (Q':=fun e s'=>e = .normal∧s'=⟨[(0,.d (af 5 aO a0)),(3,.ptr 0 0),(4,.clo 201 [] [.ptr 0 0]),(5,di v0_0),(6,.ptr 1 0),(7,di y5),(8,db x18.1),(17,.d (af 5 aO a0)),(18,di (a0.length:Int)),(19,di v0_0)],[.live (.var [.osl 2 0 v0_1.length 1]),.live (.var (aT x18.2)),.live (.arr 1 v0_1.length false (row eB v0_1))]⟩) ?_ ?_
   ·
    have h:=ho17
    refine aa.condI h rfl (fun hc6 h=>?_) (fun hc6 h=>?_)
    ·
     refine ao h fun x10 ho9 h=>?_
     refine aa.cut (Q':=fun e s'=>e = .normal∧s'=⟨[(0,.d (af 5 aO a0)),(3,.ptr 0 0),(4,.clo 201 [] [.ptr 0 0]),(5,di v0_0),(6,.ptr 1 0),(7,di y5),(8,db x10.1),(17,.d (af 5 aO a0)),(18,di (a0.length:Int)),(19,di v0_0)],[.live (.var [.osl 2 0 v0_1.length 1]),.live (.var (aT x10.2)),.live (.arr 1 v0_1.length false (row eB v0_1))]⟩) ?_ ?_
     ·
      have h:=ho9
      refine au h (fun hc7 h=>?_) (fun hc7 h=>?_)
      ·
       refine au h (fun hc8 h=>?_) (fun hc8 h=>?_)
       ·
        refine aa.region (ab.ev0n [0,0,0,0,1,0,0,0,0,0,0,1,0,0,0,0] [(8,db (decide ((nth a0 v0_0).hi≤255)))] [⟨_,hc7⟩,⟨_,hc8⟩] ?_)
        cases h
        exact ⟨_,(GStep.trans (GStep.keep [0,3,4,5,6,7,8,17,18,19]) (GStep.ren [0,2,1] (by decide) rfl rfl)),rfl,rfl⟩
       refine aa.region (ab.ev0n [0,0,0,0,1,0,0,0,0,0,0,2,0,0,0,0] [(8,db false)] [⟨_,hc7⟩,⟨_,hc8⟩] ?_)
       cases h
       exact ⟨_,(GStep.trans (GStep.keep [0,3,4,5,6,7,8,17,18,19]) (GStep.ren [0,2,1] (by decide) rfl rfl)),rfl,rfl⟩
      refine aa.region (ab.ev0n [0,0,0,0,2,0,0,0,0,0,0,0,0,0,0,0] [(8,db false)] [⟨_,hc7⟩] ?_)
      cases h
      exact ⟨_,(GStep.trans (GStep.keep [0,3,4,5,6,7,8,17,18,19]) (GStep.ren [0,2,1] (by decide) rfl rfl)),rfl,rfl⟩
     rintro e s' hq
     obtain ⟨rfl,rfl⟩:=hq
     cases h
     exact ⟨_,(GStep.keep [0,3,4,5,6,7,8,17,18,19]),rfl,rfl⟩
    refine aa.seq ?_
    refine ao h fun x13 ho12 h=>?_
    refine aa.cut (Q':=fun e s'=>e = .normal∧s'=⟨[(0,.d (af 5 aO a0)),(3,.ptr 0 0),(4,.clo 201 [] [.ptr 0 0]),(5,di v0_0),(6,.ptr 1 0),(7,di y5),(8,db (decide (y5≥0))),(17,.d (af 5 aO a0)),(18,di (a0.length:Int)),(19,di v0_0),(48,db x13.1)],[.live (.var [.osl 2 0 v0_1.length 1]),.live (.var (aT x13.2)),.live (.arr 1 v0_1.length false (row eB v0_1))]⟩) ?_ ?_
    ·
     have h:=ho12
     refine au h (fun hc11 h=>?_) (fun hc11 h=>?_)
     ·
      refine aa.region (ab.ev0n [0,0,0,0,2,0,0,0,0] [(48,db true)] [⟨_,hc11⟩] ?_)
      cases h
      exact ⟨_,(GStep.trans (GStep.keep [0,3,4,5,6,7,8,17,18,19,48]) (GStep.ren [0,2,1] (by decide) rfl rfl)),rfl,rfl⟩
     refine aa.region (ab.ev0n [0,0,0,0,1,0,0,0,0] [(48,db (!decide ((nth a0 v0_0).hi=0)))] [⟨_,hc11⟩] ?_)
     cases h
     exact ⟨_,(GStep.trans (GStep.keep [0,3,4,5,6,7,8,17,18,19,48]) (GStep.ren [0,2,1] (by decide) rfl rfl)),rfl,rfl⟩
    rintro e s' hq
    obtain ⟨rfl,rfl⟩:=hq
    refine ao h fun x16 ho15 h=>?_
    refine aa.cut (Q':=fun e s'=>e = .normal∧s'=⟨[(0,.d (af 5 aO a0)),(3,.ptr 0 0),(4,.clo 201 [] [.ptr 0 0]),(5,di v0_0),(6,.ptr 1 0),(7,di y5),(8,db x16),(17,.d (af 5 aO a0)),(18,di (a0.length:Int)),(19,di v0_0)],[.live (.var [.osl 2 0 v0_1.length 1]),.live (.var (aT x13.2)),.live (.arr 1 v0_1.length false (row eB v0_1))]⟩) ?_ ?_
    ·
     have h:=ho15
     refine aa.condI h rfl (fun hc14 h=>?_) (fun hc14 h=>?_)
     ·
      refine aa.region (ab.ev0n [0] [(8,db false)] [] ?_)
      cases h
      exact ⟨_,(GStep.keep [0,3,4,5,6,7,8,17,18,19]),rfl,rfl⟩
     refine aa.skip ?_
     cases h
     exact ⟨_,(GStep.keep [0,3,4,5,6,7,8,17,18,19]),rfl,rfl⟩
    rintro e s' hq
    obtain ⟨rfl,rfl⟩:=hq
    cases h
    exact ⟨_,(GStep.keep [0,3,4,5,6,7,8,17,18,19]),rfl,rfl⟩
   rintro e s' hq
   obtain ⟨rfl,rfl⟩:=hq
   refine aa.seq ?_
   refine ao h fun x55 ho54 h=>?_
   refine aa.cut (Q':=fun e s'=>e = .normal∧s'=⟨[(0,.d (af 5 aO a0)),(3,.ptr 0 0),(4,.clo 201 [] [.ptr 0 0]),(17,.d (af 5 aO a0)),(18,di (a0.length:Int)),(19,di v0_0),(100,db x55.1)],[.live (.var [.osl 1 0 x55.2.length 1]),.live (.arr 1 x55.2.length false (row eB x55.2))]⟩) ?_ ?_
   ·
    have h:=ho54
    refine au h (fun hc19 h=>?_) (fun hc19 h=>?_)
    ·
     refine aa.region (ab.ev0n [0,0,0,2,0,0,0,0,0,0,0,0,0,0,0,0,0,0,0,0,0,0,0,0,0,0,0,0,0,0,0,0,0,0,0,0,0,0,0,0,0,0,0,0] [(100,db true)] [⟨_,hc19⟩] ?_)
     cases h
     exact ⟨_,(GStep.trans (GStep.keep [0,3,4,17,18,19,100]) (GStep.ren [0,2] (by decide) rfl rfl)),rfl,rfl⟩
    refine au h (fun hc20 h=>?_) (fun hc20 h=>?_)
    ·
     refine au h (fun hc21 h=>?_) (fun hc21 h=>?_)
     ·
      refine aa.region (ab.ev0n [0,0,0,1,0,0,1,0,0,0,0,0,2,0,0,0,0,0,0,0,0,0,0,0,0,0,0,0,0,0,0,0,0,0,0,0,0,0,0,0,0,0,0,0] [(100,db true)] [⟨_,hc19⟩,⟨_,hc20⟩,⟨_,hc21⟩] ?_)
      cases h
      exact ⟨_,(GStep.trans (GStep.keep [0,3,4,17,18,19,100]) (GStep.ren [0,2] (by decide) rfl rfl)),rfl,rfl⟩
     refine au h (fun hc22 h=>?_) (fun hc22 h=>?_)
     ·
      refine au h (fun hc23 h=>?_) (fun hc23 h=>?_)
      ·
       refine aa.region (ab.ev0n [0,0,0,1,0,0,1,0,0,0,0,0,1,0,0,1,0,0,0,0,0,2,0,0,0,0,0,0,0,0,0,0,0,0,0,0,0,0,0,0,0,0,0,0] [(100,db true)] [⟨_,hc19⟩,⟨_,hc20⟩,⟨_,hc21⟩,⟨_,hc22⟩,⟨_,hc23⟩] ?_)
       cases h
       exact ⟨_,(GStep.trans (GStep.keep [0,3,4,17,18,19,100]) (GStep.ren [0,2] (by decide) rfl rfl)),rfl,rfl⟩
      refine au h (fun hc24 h=>?_) (fun hc24 h=>?_)
      ·
       refine ao h fun y25 hy25 h=>?_
       refine au h (fun hc26 h=>?_) (fun hc26 h=>?_)
       ·
        refine aa.region (ab.ev0 [0,0,0,1,0,0,1,0,0,0,0,0,1,0,0,1,0,0,0,0,0,3,3,3,3,3,3,3] [(77,db (!decide (x18.2.b=0))),(80,db (decide (y5≥1))),(81,.clo 201 [] [.ptr 0 0]),(83,di x18.2.a),(84,di v0_0)] [⟨_,hc19⟩,⟨_,hc20⟩,⟨_,hc21⟩,⟨_,hc22⟩,⟨_,hc23⟩,⟨_,hc23⟩,⟨_,hc23⟩,⟨_,hc24⟩,⟨_,hc24⟩,⟨_,hc24⟩,⟨_,hc24⟩] ?_)
        refine ab.gstep (v:=db y25.1) (ae.callS [0,2] (aJ x18.2.a v0_0 v0_1 _ hy25) rfl rfl ⟨rfl,rfl,rfl,trivial⟩ (by decide) rfl rfl ⟨⟨rfl,rfl⟩,⟨rfl,rfl⟩,trivial⟩) rfl rfl rfl hc24 rfl rfl ?_
        refine ab.hp (h':=[.live (.var [.osl 2 0 y25.2.length 1]),.live (.var (aT x18.2)),.live (.arr 1 y25.2.length false (row eB y25.2))]) (by kernel_rfl) ?_
        refine ab.ev0n [3,13,20,0,2,0,0,0,0,0,0,0,0,0,0] [(100,db true)] [⟨_,hc24⟩,⟨_,hc23⟩,⟨_,hc24⟩,⟨_,hc23⟩,⟨_,hc26⟩] ?_
        cases h
        exact ⟨_,(GStep.trans (GStep.keep [0,3,4,17,18,19,100]) (GStep.ren [0,2] (by decide) rfl rfl)),rfl,rfl⟩
       refine au h (fun hc27 h=>?_) (fun hc27 h=>?_)
       ·
        refine ao h fun y28 hy28 h=>?_
        refine aa.region (ab.ev0 [0,0,0,1,0,0,1,0,0,0,0,0,1,0,0,1,0,0,0,0,0,3,3,3,3,3,3,3] [(77,db (!decide (x18.2.b=0))),(80,db (decide (y5≥1))),(81,.clo 201 [] [.ptr 0 0]),(83,di x18.2.a),(84,di v0_0)] [⟨_,hc19⟩,⟨_,hc20⟩,⟨_,hc21⟩,⟨_,hc22⟩,⟨_,hc23⟩,⟨_,hc23⟩,⟨_,hc23⟩,⟨_,hc24⟩,⟨_,hc24⟩,⟨_,hc24⟩,⟨_,hc24⟩] ?_)
        refine ab.gstep (v:=db y25.1) (ae.callS [0,2] (aJ x18.2.a v0_0 v0_1 _ hy25) rfl rfl ⟨rfl,rfl,rfl,trivial⟩ (by decide) rfl rfl ⟨⟨rfl,rfl⟩,⟨rfl,rfl⟩,trivial⟩) rfl rfl rfl hc24 rfl rfl ?_
        refine ab.hp (h':=[.live (.var [.osl 2 0 y25.2.length 1]),.live (.var (aT x18.2)),.live (.arr 1 y25.2.length false (row eB y25.2))]) (by kernel_rfl) ?_
        refine ab.ev0 [3,13,20,0,3,3,3,3,3,3,3] [(89,db (!y25.1)),(92,db (decide (y5≥2))),(93,.clo 201 [] [.ptr 0 0]),(95,di x18.2.b),(96,di v0_0)] [⟨_,hc24⟩,⟨_,hc23⟩,⟨_,hc24⟩,⟨_,hc23⟩,⟨_,hc26⟩,⟨_,hc26⟩,⟨_,hc26⟩,⟨_,hc27⟩,⟨_,hc27⟩,⟨_,hc27⟩,⟨_,hc27⟩] ?_
        refine ab.gstep (v:=db y28.1) (ae.callS [0,2] (aJ x18.2.b v0_0 y25.2 _ hy28) rfl rfl ⟨rfl,rfl,rfl,trivial⟩ (by decide) rfl rfl ⟨⟨rfl,rfl⟩,⟨rfl,rfl⟩,trivial⟩) rfl rfl rfl hc27 rfl rfl ?_
        refine ab.hp (h':=[.live (.var [.osl 2 0 y28.2.length 1]),.live (.var (aT x18.2)),.live (.arr 1 y28.2.length false (row eB y28.2))]) (by kernel_rfl) ?_
        refine ab.ev0n [3,13,20] [(100,db (!y28.1))] [⟨_,hc27⟩,⟨_,hc26⟩,⟨_,hc27⟩,⟨_,hc26⟩] ?_
        cases h
        exact ⟨_,(GStep.trans (GStep.keep [0,3,4,17,18,19,100]) (GStep.ren [0,2] (by decide) rfl rfl)),rfl,rfl⟩
       refine aa.region (ab.ev0 [0,0,0,1,0,0,1,0,0,0,0,0,1,0,0,1,0,0,0,0,0,3,3,3,3,3,3,3] [(77,db (!decide (x18.2.b=0))),(80,db (decide (y5≥1))),(81,.clo 201 [] [.ptr 0 0]),(83,di x18.2.a),(84,di v0_0)] [⟨_,hc19⟩,⟨_,hc20⟩,⟨_,hc21⟩,⟨_,hc22⟩,⟨_,hc23⟩,⟨_,hc23⟩,⟨_,hc23⟩,⟨_,hc24⟩,⟨_,hc24⟩,⟨_,hc24⟩,⟨_,hc24⟩] ?_)
       refine ab.gstep (v:=db y25.1) (ae.callS [0,2] (aJ x18.2.a v0_0 v0_1 _ hy25) rfl rfl ⟨rfl,rfl,rfl,trivial⟩ (by decide) rfl rfl ⟨⟨rfl,rfl⟩,⟨rfl,rfl⟩,trivial⟩) rfl rfl rfl hc24 rfl rfl ?_
       refine ab.hp (h':=[.live (.var [.osl 2 0 y25.2.length 1]),.live (.var (aT x18.2)),.live (.arr 1 y25.2.length false (row eB y25.2))]) (by kernel_rfl) ?_
       refine ab.ev0n [3,13,20,0,1,0,0,2,0,0,0,0,0,0,0] [(100,db false)] [⟨_,hc24⟩,⟨_,hc23⟩,⟨_,hc24⟩,⟨_,hc23⟩,⟨_,hc26⟩,⟨_,hc27⟩] ?_
       cases h
       exact ⟨_,(GStep.trans (GStep.keep [0,3,4,17,18,19,100]) (GStep.ren [0,2] (by decide) rfl rfl)),rfl,rfl⟩
      refine au h (fun hc29 h=>?_) (fun hc29 h=>?_)
      ·
       refine ao h fun y30 hy30 h=>?_
       refine aa.region (ab.ev0 [0,0,0,1,0,0,1,0,0,0,0,0,1,0,0,1,0,0,0,0,0,1,0,0,2,0,0,0,0,0,0,0,0,0,0,0,3,3,3,3] [(89,db false),(92,db (decide (y5≥2))),(93,.clo 201 [] [.ptr 0 0]),(95,di x18.2.b),(96,di v0_0)] [⟨_,hc19⟩,⟨_,hc20⟩,⟨_,hc21⟩,⟨_,hc22⟩,⟨_,hc23⟩,⟨_,hc24⟩,⟨_,hc29⟩,⟨_,hc29⟩,⟨_,hc29⟩,⟨_,hc29⟩] ?_)
       refine ab.gstep (v:=db y30.1) (ae.callS [0,2] (aJ x18.2.b v0_0 v0_1 _ hy30) rfl rfl ⟨rfl,rfl,rfl,trivial⟩ (by decide) rfl rfl ⟨⟨rfl,rfl⟩,⟨rfl,rfl⟩,trivial⟩) rfl rfl rfl hc29 rfl rfl ?_
       refine ab.hp (h':=[.live (.var [.osl 2 0 y30.2.length 1]),.live (.var (aT x18.2)),.live (.arr 1 y30.2.length false (row eB y30.2))]) (by kernel_rfl) ?_
       refine ab.ev0n [3,10,0] [(100,db (!y30.1))] [⟨_,hc29⟩,⟨_,hc29⟩] ?_
       cases h
       exact ⟨_,(GStep.trans (GStep.keep [0,3,4,17,18,19,100]) (GStep.ren [0,2] (by decide) rfl rfl)),rfl,rfl⟩
      refine aa.region (ab.ev0n [0,0,0,1,0,0,1,0,0,0,0,0,1,0,0,1,0,0,0,0,0,1,0,0,2,0,0,0,0,0,0,0,0,0,0,0,2,0,0,0,0,0,0,0] [(100,db false)] [⟨_,hc19⟩,⟨_,hc20⟩,⟨_,hc21⟩,⟨_,hc22⟩,⟨_,hc23⟩,⟨_,hc24⟩,⟨_,hc29⟩] ?_)
      cases h
      exact ⟨_,(GStep.trans (GStep.keep [0,3,4,17,18,19,100]) (GStep.ren [0,2] (by decide) rfl rfl)),rfl,rfl⟩
     refine au h (fun hc31 h=>?_) (fun hc31 h=>?_)
     ·
      refine ao h fun y32 hy32 h=>?_
      refine au h (fun hc33 h=>?_) (fun hc33 h=>?_)
      ·
       refine aa.region (ab.ev0 [0,0,0,1,0,0,1,0,0,0,0,0,1,0,0,2,0,0,0,0,0,0,0,0,3,3,3,3] [(77,db false),(80,db (decide (y5≥1))),(81,.clo 201 [] [.ptr 0 0]),(83,di x18.2.a),(84,di v0_0)] [⟨_,hc19⟩,⟨_,hc20⟩,⟨_,hc21⟩,⟨_,hc22⟩,⟨_,hc31⟩,⟨_,hc31⟩,⟨_,hc31⟩,⟨_,hc31⟩] ?_)
       refine ab.gstep (v:=db y32.1) (ae.callS [0,2] (aJ x18.2.a v0_0 v0_1 _ hy32) rfl rfl ⟨rfl,rfl,rfl,trivial⟩ (by decide) rfl rfl ⟨⟨rfl,rfl⟩,⟨rfl,rfl⟩,trivial⟩) rfl rfl rfl hc31 rfl rfl ?_
       refine ab.hp (h':=[.live (.var [.osl 2 0 y32.2.length 1]),.live (.var (aT x18.2)),.live (.arr 1 y32.2.length false (row eB y32.2))]) (by kernel_rfl) ?_
       refine ab.ev0n [3,10,0,0,2,0,0,0,0,0,0,0,0,0,0] [(100,db true)] [⟨_,hc31⟩,⟨_,hc31⟩,⟨_,hc33⟩] ?_
       cases h
       exact ⟨_,(GStep.trans (GStep.keep [0,3,4,17,18,19,100]) (GStep.ren [0,2] (by decide) rfl rfl)),rfl,rfl⟩
      refine au h (fun hc34 h=>?_) (fun hc34 h=>?_)
      ·
       refine ao h fun y35 hy35 h=>?_
       refine aa.region (ab.ev0 [0,0,0,1,0,0,1,0,0,0,0,0,1,0,0,2,0,0,0,0,0,0,0,0,3,3,3,3] [(77,db false),(80,db (decide (y5≥1))),(81,.clo 201 [] [.ptr 0 0]),(83,di x18.2.a),(84,di v0_0)] [⟨_,hc19⟩,⟨_,hc20⟩,⟨_,hc21⟩,⟨_,hc22⟩,⟨_,hc31⟩,⟨_,hc31⟩,⟨_,hc31⟩,⟨_,hc31⟩] ?_)
       refine ab.gstep (v:=db y32.1) (ae.callS [0,2] (aJ x18.2.a v0_0 v0_1 _ hy32) rfl rfl ⟨rfl,rfl,rfl,trivial⟩ (by decide) rfl rfl ⟨⟨rfl,rfl⟩,⟨rfl,rfl⟩,trivial⟩) rfl rfl rfl hc31 rfl rfl ?_
       refine ab.hp (h':=[.live (.var [.osl 2 0 y32.2.length 1]),.live (.var (aT x18.2)),.live (.arr 1 y32.2.length false (row eB y32.2))]) (by kernel_rfl) ?_
       refine ab.ev0 [3,10,0,0,3,3,3,3,3,3,3] [(89,db (!y32.1)),(92,db (decide (y5≥2))),(93,.clo 201 [] [.ptr 0 0]),(95,di x18.2.b),(96,di v0_0)] [⟨_,hc31⟩,⟨_,hc31⟩,⟨_,hc33⟩,⟨_,hc33⟩,⟨_,hc33⟩,⟨_,hc34⟩,⟨_,hc34⟩,⟨_,hc34⟩,⟨_,hc34⟩] ?_
       refine ab.gstep (v:=db y35.1) (ae.callS [0,2] (aJ x18.2.b v0_0 y32.2 _ hy35) rfl rfl ⟨rfl,rfl,rfl,trivial⟩ (by decide) rfl rfl ⟨⟨rfl,rfl⟩,⟨rfl,rfl⟩,trivial⟩) rfl rfl rfl hc34 rfl rfl ?_
       refine ab.hp (h':=[.live (.var [.osl 2 0 y35.2.length 1]),.live (.var (aT x18.2)),.live (.arr 1 y35.2.length false (row eB y35.2))]) (by kernel_rfl) ?_
       refine ab.ev0n [3,13,20] [(100,db (!y35.1))] [⟨_,hc34⟩,⟨_,hc33⟩,⟨_,hc34⟩,⟨_,hc33⟩] ?_
       cases h
       exact ⟨_,(GStep.trans (GStep.keep [0,3,4,17,18,19,100]) (GStep.ren [0,2] (by decide) rfl rfl)),rfl,rfl⟩
      refine aa.region (ab.ev0 [0,0,0,1,0,0,1,0,0,0,0,0,1,0,0,2,0,0,0,0,0,0,0,0,3,3,3,3] [(77,db false),(80,db (decide (y5≥1))),(81,.clo 201 [] [.ptr 0 0]),(83,di x18.2.a),(84,di v0_0)] [⟨_,hc19⟩,⟨_,hc20⟩,⟨_,hc21⟩,⟨_,hc22⟩,⟨_,hc31⟩,⟨_,hc31⟩,⟨_,hc31⟩,⟨_,hc31⟩] ?_)
      refine ab.gstep (v:=db y32.1) (ae.callS [0,2] (aJ x18.2.a v0_0 v0_1 _ hy32) rfl rfl ⟨rfl,rfl,rfl,trivial⟩ (by decide) rfl rfl ⟨⟨rfl,rfl⟩,⟨rfl,rfl⟩,trivial⟩) rfl rfl rfl hc31 rfl rfl ?_
      refine ab.hp (h':=[.live (.var [.osl 2 0 y32.2.length 1]),.live (.var (aT x18.2)),.live (.arr 1 y32.2.length false (row eB y32.2))]) (by kernel_rfl) ?_
      refine ab.ev0n [3,10,0,0,1,0,0,2,0,0,0,0,0,0,0] [(100,db false)] [⟨_,hc31⟩,⟨_,hc31⟩,⟨_,hc33⟩,⟨_,hc34⟩] ?_
      cases h
      exact ⟨_,(GStep.trans (GStep.keep [0,3,4,17,18,19,100]) (GStep.ren [0,2] (by decide) rfl rfl)),rfl,rfl⟩
     refine au h (fun hc36 h=>?_) (fun hc36 h=>?_)
     ·
      refine ao h fun y37 hy37 h=>?_
      refine aa.region (ab.ev0 [0,0,0,1,0,0,1,0,0,0,0,0,1,0,0,2,0,0,0,0,0,0,0,0,2,0,0,0,0,0,0,0,0,0,0,0,3,3,3,3] [(89,db false),(92,db (decide (y5≥2))),(93,.clo 201 [] [.ptr 0 0]),(95,di x18.2.b),(96,di v0_0)] [⟨_,hc19⟩,⟨_,hc20⟩,⟨_,hc21⟩,⟨_,hc22⟩,⟨_,hc31⟩,⟨_,hc36⟩,⟨_,hc36⟩,⟨_,hc36⟩,⟨_,hc36⟩] ?_)
      refine ab.gstep (v:=db y37.1) (ae.callS [0,2] (aJ x18.2.b v0_0 v0_1 _ hy37) rfl rfl ⟨rfl,rfl,rfl,trivial⟩ (by decide) rfl rfl ⟨⟨rfl,rfl⟩,⟨rfl,rfl⟩,trivial⟩) rfl rfl rfl hc36 rfl rfl ?_
      refine ab.hp (h':=[.live (.var [.osl 2 0 y37.2.length 1]),.live (.var (aT x18.2)),.live (.arr 1 y37.2.length false (row eB y37.2))]) (by kernel_rfl) ?_
      refine ab.ev0n [3,10,0] [(100,db (!y37.1))] [⟨_,hc36⟩,⟨_,hc36⟩] ?_
      cases h
      exact ⟨_,(GStep.trans (GStep.keep [0,3,4,17,18,19,100]) (GStep.ren [0,2] (by decide) rfl rfl)),rfl,rfl⟩
     refine aa.region (ab.ev0n [0,0,0,1,0,0,1,0,0,0,0,0,1,0,0,2,0,0,0,0,0,0,0,0,2,0,0,0,0,0,0,0,0,0,0,0,2,0,0,0,0,0,0,0] [(100,db false)] [⟨_,hc19⟩,⟨_,hc20⟩,⟨_,hc21⟩,⟨_,hc22⟩,⟨_,hc31⟩,⟨_,hc36⟩] ?_)
     cases h
     exact ⟨_,(GStep.trans (GStep.keep [0,3,4,17,18,19,100]) (GStep.ren [0,2] (by decide) rfl rfl)),rfl,rfl⟩
    refine au h (fun hc38 h=>?_) (fun hc38 h=>?_)
    ·
     refine au h (fun hc39 h=>?_) (fun hc39 h=>?_)
     ·
      refine aa.region (ab.ev0n [0,0,0,1,0,0,2,0,0,0,0,0,0,0,0,1,0,0,0,0,0,2,0,0,0,0,0,0,0,0,0,0,0,0,0,0,0,0,0,0,0,0,0,0] [(100,db true)] [⟨_,hc19⟩,⟨_,hc20⟩,⟨_,hc38⟩,⟨_,hc39⟩] ?_)
      cases h
      exact ⟨_,(GStep.trans (GStep.keep [0,3,4,17,18,19,100]) (GStep.ren [0,2] (by decide) rfl rfl)),rfl,rfl⟩
     refine au h (fun hc40 h=>?_) (fun hc40 h=>?_)
     ·
      refine ao h fun y41 hy41 h=>?_
      refine au h (fun hc42 h=>?_) (fun hc42 h=>?_)
      ·
       refine aa.region (ab.ev0 [0,0,0,1,0,0,2,0,0,0,0,0,0,0,0,1,0,0,0,0,0,3,3,3,3,3,3,3] [(77,db (!decide (x18.2.b=0))),(80,db (decide (y5≥1))),(81,.clo 201 [] [.ptr 0 0]),(83,di x18.2.a),(84,di v0_0)] [⟨_,hc19⟩,⟨_,hc20⟩,⟨_,hc38⟩,⟨_,hc39⟩,⟨_,hc39⟩,⟨_,hc39⟩,⟨_,hc40⟩,⟨_,hc40⟩,⟨_,hc40⟩,⟨_,hc40⟩] ?_)
       refine ab.gstep (v:=db y41.1) (ae.callS [0,2] (aJ x18.2.a v0_0 v0_1 _ hy41) rfl rfl ⟨rfl,rfl,rfl,trivial⟩ (by decide) rfl rfl ⟨⟨rfl,rfl⟩,⟨rfl,rfl⟩,trivial⟩) rfl rfl rfl hc40 rfl rfl ?_
       refine ab.hp (h':=[.live (.var [.osl 2 0 y41.2.length 1]),.live (.var (aT x18.2)),.live (.arr 1 y41.2.length false (row eB y41.2))]) (by kernel_rfl) ?_
       refine ab.ev0n [3,13,20,0,2,0,0,0,0,0,0,0,0,0,0] [(100,db true)] [⟨_,hc40⟩,⟨_,hc39⟩,⟨_,hc40⟩,⟨_,hc39⟩,⟨_,hc42⟩] ?_
       cases h
       exact ⟨_,(GStep.trans (GStep.keep [0,3,4,17,18,19,100]) (GStep.ren [0,2] (by decide) rfl rfl)),rfl,rfl⟩
      refine au h (fun hc43 h=>?_) (fun hc43 h=>?_)
      ·
       refine ao h fun y44 hy44 h=>?_
       refine aa.region (ab.ev0 [0,0,0,1,0,0,2,0,0,0,0,0,0,0,0,1,0,0,0,0,0,3,3,3,3,3,3,3] [(77,db (!decide (x18.2.b=0))),(80,db (decide (y5≥1))),(81,.clo 201 [] [.ptr 0 0]),(83,di x18.2.a),(84,di v0_0)] [⟨_,hc19⟩,⟨_,hc20⟩,⟨_,hc38⟩,⟨_,hc39⟩,⟨_,hc39⟩,⟨_,hc39⟩,⟨_,hc40⟩,⟨_,hc40⟩,⟨_,hc40⟩,⟨_,hc40⟩] ?_)
       refine ab.gstep (v:=db y41.1) (ae.callS [0,2] (aJ x18.2.a v0_0 v0_1 _ hy41) rfl rfl ⟨rfl,rfl,rfl,trivial⟩ (by decide) rfl rfl ⟨⟨rfl,rfl⟩,⟨rfl,rfl⟩,trivial⟩) rfl rfl rfl hc40 rfl rfl ?_
       refine ab.hp (h':=[.live (.var [.osl 2 0 y41.2.length 1]),.live (.var (aT x18.2)),.live (.arr 1 y41.2.length false (row eB y41.2))]) (by kernel_rfl) ?_
       refine ab.ev0 [3,13,20,0,3,3,3,3,3,3,3] [(89,db (!y41.1)),(92,db (decide (y5≥2))),(93,.clo 201 [] [.ptr 0 0]),(95,di x18.2.b),(96,di v0_0)] [⟨_,hc40⟩,⟨_,hc39⟩,⟨_,hc40⟩,⟨_,hc39⟩,⟨_,hc42⟩,⟨_,hc42⟩,⟨_,hc42⟩,⟨_,hc43⟩,⟨_,hc43⟩,⟨_,hc43⟩,⟨_,hc43⟩] ?_
       refine ab.gstep (v:=db y44.1) (ae.callS [0,2] (aJ x18.2.b v0_0 y41.2 _ hy44) rfl rfl ⟨rfl,rfl,rfl,trivial⟩ (by decide) rfl rfl ⟨⟨rfl,rfl⟩,⟨rfl,rfl⟩,trivial⟩) rfl rfl rfl hc43 rfl rfl ?_
       refine ab.hp (h':=[.live (.var [.osl 2 0 y44.2.length 1]),.live (.var (aT x18.2)),.live (.arr 1 y44.2.length false (row eB y44.2))]) (by kernel_rfl) ?_
       refine ab.ev0n [3,13,20] [(100,db (!y44.1))] [⟨_,hc43⟩,⟨_,hc42⟩,⟨_,hc43⟩,⟨_,hc42⟩] ?_
       cases h
       exact ⟨_,(GStep.trans (GStep.keep [0,3,4,17,18,19,100]) (GStep.ren [0,2] (by decide) rfl rfl)),rfl,rfl⟩
      refine aa.region (ab.ev0 [0,0,0,1,0,0,2,0,0,0,0,0,0,0,0,1,0,0,0,0,0,3,3,3,3,3,3,3] [(77,db (!decide (x18.2.b=0))),(80,db (decide (y5≥1))),(81,.clo 201 [] [.ptr 0 0]),(83,di x18.2.a),(84,di v0_0)] [⟨_,hc19⟩,⟨_,hc20⟩,⟨_,hc38⟩,⟨_,hc39⟩,⟨_,hc39⟩,⟨_,hc39⟩,⟨_,hc40⟩,⟨_,hc40⟩,⟨_,hc40⟩,⟨_,hc40⟩] ?_)
      refine ab.gstep (v:=db y41.1) (ae.callS [0,2] (aJ x18.2.a v0_0 v0_1 _ hy41) rfl rfl ⟨rfl,rfl,rfl,trivial⟩ (by decide) rfl rfl ⟨⟨rfl,rfl⟩,⟨rfl,rfl⟩,trivial⟩) rfl rfl rfl hc40 rfl rfl ?_
      refine ab.hp (h':=[.live (.var [.osl 2 0 y41.2.length 1]),.live (.var (aT x18.2)),.live (.arr 1 y41.2.length false (row eB y41.2))]) (by kernel_rfl) ?_
      refine ab.ev0n [3,13,20,0,1,0,0,2,0,0,0,0,0,0,0] [(100,db false)] [⟨_,hc40⟩,⟨_,hc39⟩,⟨_,hc40⟩,⟨_,hc39⟩,⟨_,hc42⟩,⟨_,hc43⟩] ?_
      cases h
      exact ⟨_,(GStep.trans (GStep.keep [0,3,4,17,18,19,100]) (GStep.ren [0,2] (by decide) rfl rfl)),rfl,rfl⟩
     refine au h (fun hc45 h=>?_) (fun hc45 h=>?_)
     ·
      refine ao h fun y46 hy46 h=>?_
      refine aa.region (ab.ev0 [0,0,0,1,0,0,2,0,0,0,0,0,0,0,0,1,0,0,0,0,0,1,0,0,2,0,0,0,0,0,0,0,0,0,0,0,3,3,3,3] [(89,db false),(92,db (decide (y5≥2))),(93,.clo 201 [] [.ptr 0 0]),(95,di x18.2.b),(96,di v0_0)] [⟨_,hc19⟩,⟨_,hc20⟩,⟨_,hc38⟩,⟨_,hc39⟩,⟨_,hc40⟩,⟨_,hc45⟩,⟨_,hc45⟩,⟨_,hc45⟩,⟨_,hc45⟩] ?_)
      refine ab.gstep (v:=db y46.1) (ae.callS [0,2] (aJ x18.2.b v0_0 v0_1 _ hy46) rfl rfl ⟨rfl,rfl,rfl,trivial⟩ (by decide) rfl rfl ⟨⟨rfl,rfl⟩,⟨rfl,rfl⟩,trivial⟩) rfl rfl rfl hc45 rfl rfl ?_
      refine ab.hp (h':=[.live (.var [.osl 2 0 y46.2.length 1]),.live (.var (aT x18.2)),.live (.arr 1 y46.2.length false (row eB y46.2))]) (by kernel_rfl) ?_
      refine ab.ev0n [3,10,0] [(100,db (!y46.1))] [⟨_,hc45⟩,⟨_,hc45⟩] ?_
      cases h
      exact ⟨_,(GStep.trans (GStep.keep [0,3,4,17,18,19,100]) (GStep.ren [0,2] (by decide) rfl rfl)),rfl,rfl⟩
     refine aa.region (ab.ev0n [0,0,0,1,0,0,2,0,0,0,0,0,0,0,0,1,0,0,0,0,0,1,0,0,2,0,0,0,0,0,0,0,0,0,0,0,2,0,0,0,0,0,0,0] [(100,db false)] [⟨_,hc19⟩,⟨_,hc20⟩,⟨_,hc38⟩,⟨_,hc39⟩,⟨_,hc40⟩,⟨_,hc45⟩] ?_)
     cases h
     exact ⟨_,(GStep.trans (GStep.keep [0,3,4,17,18,19,100]) (GStep.ren [0,2] (by decide) rfl rfl)),rfl,rfl⟩
    refine au h (fun hc47 h=>?_) (fun hc47 h=>?_)
    ·
     refine ao h fun y48 hy48 h=>?_
     refine au h (fun hc49 h=>?_) (fun hc49 h=>?_)
     ·
      refine aa.region (ab.ev0 [0,0,0,1,0,0,2,0,0,0,0,0,0,0,0,2,0,0,0,0,0,0,0,0,3,3,3,3] [(77,db false),(80,db (decide (y5≥1))),(81,.clo 201 [] [.ptr 0 0]),(83,di x18.2.a),(84,di v0_0)] [⟨_,hc19⟩,⟨_,hc20⟩,⟨_,hc38⟩,⟨_,hc47⟩,⟨_,hc47⟩,⟨_,hc47⟩,⟨_,hc47⟩] ?_)
      refine ab.gstep (v:=db y48.1) (ae.callS [0,2] (aJ x18.2.a v0_0 v0_1 _ hy48) rfl rfl ⟨rfl,rfl,rfl,trivial⟩ (by decide) rfl rfl ⟨⟨rfl,rfl⟩,⟨rfl,rfl⟩,trivial⟩) rfl rfl rfl hc47 rfl rfl ?_
      refine ab.hp (h':=[.live (.var [.osl 2 0 y48.2.length 1]),.live (.var (aT x18.2)),.live (.arr 1 y48.2.length false (row eB y48.2))]) (by kernel_rfl) ?_
      refine ab.ev0n [3,10,0,0,2,0,0,0,0,0,0,0,0,0,0] [(100,db true)] [⟨_,hc47⟩,⟨_,hc47⟩,⟨_,hc49⟩] ?_
      cases h
      exact ⟨_,(GStep.trans (GStep.keep [0,3,4,17,18,19,100]) (GStep.ren [0,2] (by decide) rfl rfl)),rfl,rfl⟩
     refine au h (fun hc50 h=>?_) (fun hc50 h=>?_)
     ·
      refine ao h fun y51 hy51 h=>?_
      refine aa.region (ab.ev0 [0,0,0,1,0,0,2,0,0,0,0,0,0,0,0,2,0,0,0,0,0,0,0,0,3,3,3,3] [(77,db false),(80,db (decide (y5≥1))),(81,.clo 201 [] [.ptr 0 0]),(83,di x18.2.a),(84,di v0_0)] [⟨_,hc19⟩,⟨_,hc20⟩,⟨_,hc38⟩,⟨_,hc47⟩,⟨_,hc47⟩,⟨_,hc47⟩,⟨_,hc47⟩] ?_)
      refine ab.gstep (v:=db y48.1) (ae.callS [0,2] (aJ x18.2.a v0_0 v0_1 _ hy48) rfl rfl ⟨rfl,rfl,rfl,trivial⟩ (by decide) rfl rfl ⟨⟨rfl,rfl⟩,⟨rfl,rfl⟩,trivial⟩) rfl rfl rfl hc47 rfl rfl ?_
      refine ab.hp (h':=[.live (.var [.osl 2 0 y48.2.length 1]),.live (.var (aT x18.2)),.live (.arr 1 y48.2.length false (row eB y48.2))]) (by kernel_rfl) ?_
      refine ab.ev0 [3,10,0,0,3,3,3,3,3,3,3] [(89,db (!y48.1)),(92,db (decide (y5≥2))),(93,.clo 201 [] [.ptr 0 0]),(95,di x18.2.b),(96,di v0_0)] [⟨_,hc47⟩,⟨_,hc47⟩,⟨_,hc49⟩,⟨_,hc49⟩,⟨_,hc49⟩,⟨_,hc50⟩,⟨_,hc50⟩,⟨_,hc50⟩,⟨_,hc50⟩] ?_
      refine ab.gstep (v:=db y51.1) (ae.callS [0,2] (aJ x18.2.b v0_0 y48.2 _ hy51) rfl rfl ⟨rfl,rfl,rfl,trivial⟩ (by decide) rfl rfl ⟨⟨rfl,rfl⟩,⟨rfl,rfl⟩,trivial⟩) rfl rfl rfl hc50 rfl rfl ?_
      refine ab.hp (h':=[.live (.var [.osl 2 0 y51.2.length 1]),.live (.var (aT x18.2)),.live (.arr 1 y51.2.length false (row eB y51.2))]) (by kernel_rfl) ?_
      refine ab.ev0n [3,13,20] [(100,db (!y51.1))] [⟨_,hc50⟩,⟨_,hc49⟩,⟨_,hc50⟩,⟨_,hc49⟩] ?_
      cases h
      exact ⟨_,(GStep.trans (GStep.keep [0,3,4,17,18,19,100]) (GStep.ren [0,2] (by decide) rfl rfl)),rfl,rfl⟩
     refine aa.region (ab.ev0 [0,0,0,1,0,0,2,0,0,0,0,0,0,0,0,2,0,0,0,0,0,0,0,0,3,3,3,3] [(77,db false),(80,db (decide (y5≥1))),(81,.clo 201 [] [.ptr 0 0]),(83,di x18.2.a),(84,di v0_0)] [⟨_,hc19⟩,⟨_,hc20⟩,⟨_,hc38⟩,⟨_,hc47⟩,⟨_,hc47⟩,⟨_,hc47⟩,⟨_,hc47⟩] ?_)
     refine ab.gstep (v:=db y48.1) (ae.callS [0,2] (aJ x18.2.a v0_0 v0_1 _ hy48) rfl rfl ⟨rfl,rfl,rfl,trivial⟩ (by decide) rfl rfl ⟨⟨rfl,rfl⟩,⟨rfl,rfl⟩,trivial⟩) rfl rfl rfl hc47 rfl rfl ?_
     refine ab.hp (h':=[.live (.var [.osl 2 0 y48.2.length 1]),.live (.var (aT x18.2)),.live (.arr 1 y48.2.length false (row eB y48.2))]) (by kernel_rfl) ?_
     refine ab.ev0n [3,10,0,0,1,0,0,2,0,0,0,0,0,0,0] [(100,db false)] [⟨_,hc47⟩,⟨_,hc47⟩,⟨_,hc49⟩,⟨_,hc50⟩] ?_
     cases h
     exact ⟨_,(GStep.trans (GStep.keep [0,3,4,17,18,19,100]) (GStep.ren [0,2] (by decide) rfl rfl)),rfl,rfl⟩
    refine au h (fun hc52 h=>?_) (fun hc52 h=>?_)
    ·
     refine ao h fun y53 hy53 h=>?_
     refine aa.region (ab.ev0 [0,0,0,1,0,0,2,0,0,0,0,0,0,0,0,2,0,0,0,0,0,0,0,0,2,0,0,0,0,0,0,0,0,0,0,0,3,3,3,3] [(89,db false),(92,db (decide (y5≥2))),(93,.clo 201 [] [.ptr 0 0]),(95,di x18.2.b),(96,di v0_0)] [⟨_,hc19⟩,⟨_,hc20⟩,⟨_,hc38⟩,⟨_,hc47⟩,⟨_,hc52⟩,⟨_,hc52⟩,⟨_,hc52⟩,⟨_,hc52⟩] ?_)
     refine ab.gstep (v:=db y53.1) (ae.callS [0,2] (aJ x18.2.b v0_0 v0_1 _ hy53) rfl rfl ⟨rfl,rfl,rfl,trivial⟩ (by decide) rfl rfl ⟨⟨rfl,rfl⟩,⟨rfl,rfl⟩,trivial⟩) rfl rfl rfl hc52 rfl rfl ?_
     refine ab.hp (h':=[.live (.var [.osl 2 0 y53.2.length 1]),.live (.var (aT x18.2)),.live (.arr 1 y53.2.length false (row eB y53.2))]) (by kernel_rfl) ?_
     refine ab.ev0n [3,10,0] [(100,db (!y53.1))] [⟨_,hc52⟩,⟨_,hc52⟩] ?_
     cases h
     exact ⟨_,(GStep.trans (GStep.keep [0,3,4,17,18,19,100]) (GStep.ren [0,2] (by decide) rfl rfl)),rfl,rfl⟩
    refine aa.region (ab.ev0n [0,0,0,1,0,0,2,0,0,0,0,0,0,0,0,2,0,0,0,0,0,0,0,0,2,0,0,0,0,0,0,0,0,0,0,0,2,0,0,0,0,0,0,0] [(100,db false)] [⟨_,hc19⟩,⟨_,hc20⟩,⟨_,hc38⟩,⟨_,hc47⟩,⟨_,hc52⟩] ?_)
    cases h
    exact ⟨_,(GStep.trans (GStep.keep [0,3,4,17,18,19,100]) (GStep.ren [0,2] (by decide) rfl rfl)),rfl,rfl⟩
   rintro e s' hq
   obtain ⟨rfl,rfl⟩:=hq
   refine aa.condI h rfl (fun hc56 h=>?_) (fun hc56 h=>?_)
   ·
    refine aa.sr (ab.ev0n [0] [(2,di 40)] [] ?_)
    refine aa.ret ?_
    cases h
    exact ⟨_,(GStep.trans (GStep.keep [2]) (GStep.ren [] (by decide) rfl rfl)),rfl,Fin.mk2 (aB.one (.tmp rfl)) [] (by decide) rfl rfl rfl rfl⟩
   refine aa.skip ?_
   refine aa.region (ab.ev0n [0,0] [(19,di (IntKind.wrap .i64 (v0_0+1)))] [] ?_)
   exact aM.ghost (GStep.keep [0,3,4,17,18,19]) (ih ((IntKind.wrap .i64 (v0_0+1)),x55.2) h)
  refine aa.exit ?_
  cases h
  exact ⟨_,(GStep.keep [0,3]),rfl,rfl⟩
 rcases o66 with r57 | x58
 ·
  rintro e s' hq
  obtain ⟨rfl,hq⟩:=hq
  cases h
  exact ⟨_,GStep.refl _ _,.inr rfl,hq⟩
 rintro e s' hq
 obtain ⟨rfl,rfl⟩:=hq
 refine aa.seq ?_
 refine aa.sr (ab.ev0n [0,0,0,0] [(104,di (IntKind.wrap .i64 ((a0.length:Int) - 1))),(105,di 0)] [] ?_)
 refine aa.block ?_
 refine ao h fun o65 ho65 h=>?_
 refine aa.cut (Q':=fun e s'=>match o65 with | .inl r62=>((e = .ret)∧Fin P (Tryz.f150.results) 0 [] (di r62) s') | .inr x63=>(e = .exit 3∧s'=⟨[(0,.d (af 5 aO a0))],[]⟩)) ?_ ?_
 ·
  have h:=ho65
  refine aa.ghost (GStep.keep [0,3,104,105]) ?_
  refine aa.loopI (F:=fun k v=>dG k a0 x58 v) (fun v=>⟨[(0,.d (af 5 aO a0)),(3,.ptr 0 0),(104,di (IntKind.wrap .i64 ((a0.length:Int) - 1))),(105,di v)],[.live (.var [.osl 1 0 x58.length 1]),.live (.arr 1 x58.length false (row eB x58))]⟩) (k:=k) (v:=0) h rfl (fun _=>rfl) ?_
  intro k v0_0 ih h
  have h:=(jU ..).symm.trans h
  refine aa.sr (ab.ev0n [0] [(106,db (decide (v0_0 < (IntKind.wrap .i64 ((a0.length:Int) - 1)))))] [] ?_)
  refine aa.seq ?_
  refine aa.condI h rfl (fun hc59 h=>?_) (fun hc59 h=>?_)
  ·
   refine aa.skip ?_
   refine aa.seq ?_
   refine aa.block ?_
   refine aa.sr (ab.ev0n [0,0] [(9,di v0_0)] [] ?_)
   refine aa.seq ?_
   refine aD h fun hb60 h=>?_
   refine aa.region (ab.ev0 [0,0,0] [(110,.eptr 1 (Int.toNat v0_0) 0 1)] [⟨_,hb60.1⟩,⟨_,hb60.2⟩] ?_)
   refine ab.step (ae.loadE rfl rfl fF rfl (by have:=hb60; omega) rfl) rfl rfl rfl ?_
   refine ab.ev0n [0] [(112,db (!(x58.getD (Int.toNat v0_0) default)))] [] ?_
   refine aa.condI h rfl (fun hc61 h=>?_) (fun hc61 h=>?_)
   ·
    refine aa.sr (ab.ev0n [0] [(2,di 40)] [] ?_)
    refine aa.ret ?_
    cases h
    exact ⟨_,(GStep.trans (GStep.keep [2]) (GStep.ren [] (by decide) rfl rfl)),rfl,Fin.mk2 (aB.one (.tmp rfl)) [] (by decide) rfl rfl rfl rfl⟩
   refine aa.skip ?_
   refine aa.region (ab.ev0n [0,0] [(105,di (IntKind.wrap .i64 (v0_0+1)))] [] ?_)
   exact aM.ghost (GStep.keep [0,3,104,105]) (ih (IntKind.wrap .i64 (v0_0+1)) h)
  refine aa.exit ?_
  cases h
  exact ⟨_,(GStep.trans (GStep.keep [0]) (GStep.ren [] (by decide) rfl rfl)),rfl,rfl⟩
 rcases o65 with r62 | x63
 ·
  rintro e s' hq
  obtain ⟨rfl,hq⟩:=hq
  cases h
  exact ⟨_,GStep.refl _ _,.inr rfl,hq⟩
 rintro e s' hq
 obtain ⟨rfl,rfl⟩:=hq
 refine aa.seq ?_
 refine aa.sr (ab.ev0n [0,0,0] [(116,db (decide ((a0.length:Int)=0)))] [] ?_)
 refine aa.condI h rfl (fun hc64 h=>?_) (fun hc64 h=>?_)
 ·
  refine aa.sr (ab.ev0n [0] [(2,di 40)] [] ?_)
  refine aa.ret ?_
  cases h
  exact ⟨_,(GStep.keep [2]),.inr rfl,Fin.mk2 (aB.one (.tmp rfl)) [] (by decide) rfl rfl rfl rfl⟩
 refine aa.skip ?_
 refine aa.sr (ab.ev0n [0] [(2,di 0)] [] ?_)
 refine aa.ret ?_
 cases h
 exact ⟨_,(GStep.keep [2]),.inr rfl,Fin.mk2 (aB.one (.tmp rfl)) [] (by decide) rfl rfl rfl rfl⟩
noncomputable def eX (a0:List cE)(a1:ByteArray):Option Bool:=rW 151 [.d (af 5 aO a0),.d (.str a1)]
theorem nq (a0:List cE)(a1:ByteArray)(r:Bool)(h:eX a0 a1=some r):SC P 151 [.d (af 5 aO a0),.d (.str a1)] [] (.d (.bool r)) []:=sR h
noncomputable def bK (k:Nat)(a0:am)(y1:List (ByteArray×Bool))(v:Int×(List (ByteArray×Bool))):Option (Int⊕Unit):=match k,v with
  | 0,_=>none
  | k+1,(v0_0,v0_1)=>(if (decide (v0_0 < (a0.tokens.length:Int)))=true then (if (0:Int)≤v0_0∧v0_0 < (a0.tokens.length:Int) then ((((cv ((nth a0.tokens v0_0).name) v0_1).bind fun y4=>(if (!y4.1)=true then some (true,(nth a0.tokens v0_0),y4.2) else (if (decide ((nth a0.tokens v0_0).classF < 0))=true then some (true,(nth a0.tokens v0_0),y4.2) else (if (decide ((nth a0.tokens v0_0).classF > 2))=true then some (true,(nth a0.tokens v0_0),y4.2) else ((dg k ((nth a0.tokens v0_0).ifF) (a0.conditions.length:Int)).bind fun y8=>some ((!y8),(nth a0.tokens v0_0),y4.2)))))):Option (Bool×aL×(List (ByteArray×Bool)))).bind fun x10=>(if x10.1=true then some (.inl 51) else (((if (!decide (x10.2.1.literal=(⟨#[]⟩:ByteArray)))=true then (((if (decide (x10.2.1.sample=(⟨#[]⟩:ByteArray)))=true then some (decide ((x10.2.1.pattern.length:Int)=0)) else some false):Option Bool).bind fun x15=>some x15) else ((eR k x10.2.1.pattern).bind fun y16=>(((if (!decide (y16=0))=true then some false else (((if (decide (x10.2.1.classF=0))=true then (((if (!(decide (x10.2.1.sample=(⟨#[]⟩:ByteArray))))=true then ((eX x10.2.1.pattern x10.2.1.sample).bind fun y20=>some y20) else some false):Option Bool).bind fun x22=>some x22) else some (decide (x10.2.1.sample=(⟨#[]⟩:ByteArray)))):Option Bool).bind fun x24=>some x24)):Option Bool).bind fun x26=>some x26))):Option Bool).bind fun x28=>(if (!x28)=true then some (.inl 51) else (bK k a0 y1 ((IntKind.wrap .i64 (v0_0+1)),x10.2.2)))))) else none) else some (.inr ()))
theorem df:type_of% (@bK.eq_2):=@bK.eq_2
noncomputable def cK (k:Nat)(a0:am):Option Int:=((eP).bind fun y1=>(((bK k a0 y1 (0,y1)):Option (Int⊕Unit)).bind fun o32=>match o32 with | .inl r30=>(some r30) | .inr x31=>(some 0)))
set_option maxRecDepth 100000 in
set_option maxHeartbeats 4000000 in
theorem kO (k:Nat)(a0:am)(r:Int)(h:cK k a0=some r):SC P 76 [.agg (ah a0)] [] (di r) []:=by
 unfold cK at h
 refine SC.intro3 (N:=74) Tryz.func76 rfl rfl Tryz.ntmps76 rfl ?_
 refine aa.sr (ab.evn (h':=[.live (.var (ah a0))]) [0,0] [(1,.ptr 0 0)] [] ?_)
 refine aa.seq ?_
 refine ao h fun y1 hy1 h=>?_
 refine aa.region ?_
 refine ab.step (v:=.clo 198 [] [.ptr 1 0]) (ae.callS [] (fL _ hy1) rfl rfl trivial (by decide) rfl rfl trivial) rfl rfl rfl ?_
 refine ab.hp (h':=[.live (.var (ah a0)),.live (.var [.mp 2]),.live (.mp (aI D.str D.bool y1))]) (by kernel_rfl) ?_
 refine ab.ev0n [0] [(3,.clo 198 [] [.ptr 1 0])] [] ?_
 refine aa.seq ?_
 refine aa.sr (ab.ev0n [0,0,0,0] [(9,.d (af 7 aE a0.tokens)),(10,di (a0.tokens.length:Int)),(11,di 0)] [] ?_)
 refine aa.block ?_
 refine ao h fun o32 ho32 h=>?_
 refine aa.cut (Q':=fun e s'=>match o32 with | .inl r30=>((e = .ret)∧Fin P (Tryz.f76.results) 0 [] (di r30) s') | .inr x31=>(e = .exit 0∧s'=⟨[],[]⟩)) ?_ ?_
 ·
  have h:=ho32
  refine aa.ghost (GStep.keep [1,3,9,10,11]) ?_
  refine aa.loopI (F:=fun k v=>bK k a0 y1 v) (fun v=>⟨[(1,.ptr 0 0),(3,.clo 198 [] [.ptr 1 0]),(9,.d (af 7 aE a0.tokens)),(10,di (a0.tokens.length:Int)),(11,di v.1)],[.live (.var (ah a0)),.live (.var [.mp 2]),.live (.mp (aI D.str D.bool v.2))]⟩) (k:=k) (v:=(0,y1)) h rfl (fun _=>rfl) ?_
  intro k v ih h
  obtain ⟨v0_0,v0_1⟩:=v
  have h:=(df ..).symm.trans h
  refine aa.sr (ab.ev0n [0] [(12,db (decide (v0_0 < (a0.tokens.length:Int))))] [] ?_)
  refine aa.seq ?_
  refine aa.condI h rfl (fun hc2 h=>?_) (fun hc2 h=>?_)
  ·
   refine aa.skip ?_
   refine aa.seq ?_
   refine aa.block ?_
   refine aa.seq ?_
   refine aD h fun hb3 h=>?_
   refine aa.region (ab.evn (h':=[.live (.var (ah a0)),.live (.var [.mp 2]),.live (.mp (aI D.str D.bool v0_1)),.live (.var (dp (nth a0.tokens v0_0)))]) [0,0,0,0] [(5,.ptr 3 0)] [⟨_,hb3.1⟩,⟨_,hb3.2⟩] ?_)
   refine aa.seq ?_
   refine aa.seq ?_
   refine ao h fun x10 ho9 h=>?_
   refine aa.cut (Q':=fun e s'=>e = .normal∧s'=⟨[(1,.ptr 0 0),(3,.clo 198 [] [.ptr 1 0]),(5,.ptr 2 0),(9,.d (af 7 aE a0.tokens)),(10,di (a0.tokens.length:Int)),(11,di v0_0),(38,db x10.1)],[.live (.var (ah a0)),.live (.var [.mp 3]),.live (.var (dp x10.2.1)),.live (.mp (aI D.str D.bool x10.2.2))]⟩) ?_ ?_
   ·
    have h:=ho9
    refine ao h fun y4 hy4 h=>?_
    refine au h (fun hc5 h=>?_) (fun hc5 h=>?_)
    ·
     refine aa.region (ab.ev0 [0,0,0] [(15,.clo 198 [] [.ptr 1 0]),(17,.d (.str ((nth a0.tokens v0_0).name)))] [] ?_)
     refine ab.step (v:=db y4.1) (ae.callS [1,2] (bm ((nth a0.tokens v0_0).name) v0_1 _ hy4) rfl rfl ⟨rfl,rfl,trivial⟩ (by decide) rfl rfl ⟨⟨rfl,rfl⟩,⟨rfl,rfl⟩,trivial⟩) rfl rfl rfl ?_
     refine ab.hp (h':=[.live (.var (ah a0)),.live (.var [.mp 2]),.live (.mp (aI D.str D.bool y4.2)),.live (.var (dp (nth a0.tokens v0_0)))]) (by kernel_rfl) ?_
     refine ab.ev0n [0,0,2,0,0,0,0,0,0,0,0,0,0,0,0,0,0,0,0,0] [(38,db true)] [⟨_,hc5⟩] ?_
     cases h
     exact ⟨_,(GStep.trans (GStep.keep [1,3,5,9,10,11,38]) (GStep.ren [0,1,3,2] (by decide) rfl rfl)),rfl,rfl⟩
    refine au h (fun hc6 h=>?_) (fun hc6 h=>?_)
    ·
     refine aa.region (ab.ev0 [0,0,0] [(15,.clo 198 [] [.ptr 1 0]),(17,.d (.str ((nth a0.tokens v0_0).name)))] [] ?_)
     refine ab.step (v:=db y4.1) (ae.callS [1,2] (bm ((nth a0.tokens v0_0).name) v0_1 _ hy4) rfl rfl ⟨rfl,rfl,trivial⟩ (by decide) rfl rfl ⟨⟨rfl,rfl⟩,⟨rfl,rfl⟩,trivial⟩) rfl rfl rfl ?_
     refine ab.hp (h':=[.live (.var (ah a0)),.live (.var [.mp 2]),.live (.mp (aI D.str D.bool y4.2)),.live (.var (dp (nth a0.tokens v0_0)))]) (by kernel_rfl) ?_
     refine ab.ev0n [0,0,1,0,0,0,0,2,0,0,0,0,0,0,0,0,0,0,0,0] [(38,db true)] [⟨_,hc5⟩,⟨_,hc6⟩] ?_
     cases h
     exact ⟨_,(GStep.trans (GStep.keep [1,3,5,9,10,11,38]) (GStep.ren [0,1,3,2] (by decide) rfl rfl)),rfl,rfl⟩
    refine au h (fun hc7 h=>?_) (fun hc7 h=>?_)
    ·
     refine aa.region (ab.ev0 [0,0,0] [(15,.clo 198 [] [.ptr 1 0]),(17,.d (.str ((nth a0.tokens v0_0).name)))] [] ?_)
     refine ab.step (v:=db y4.1) (ae.callS [1,2] (bm ((nth a0.tokens v0_0).name) v0_1 _ hy4) rfl rfl ⟨rfl,rfl,trivial⟩ (by decide) rfl rfl ⟨⟨rfl,rfl⟩,⟨rfl,rfl⟩,trivial⟩) rfl rfl rfl ?_
     refine ab.hp (h':=[.live (.var (ah a0)),.live (.var [.mp 2]),.live (.mp (aI D.str D.bool y4.2)),.live (.var (dp (nth a0.tokens v0_0)))]) (by kernel_rfl) ?_
     refine ab.ev0n [0,0,1,0,0,0,0,1,0,0,0,0,2,0,0,0,0,0,0,0] [(38,db true)] [⟨_,hc5⟩,⟨_,hc6⟩,⟨_,hc7⟩] ?_
     cases h
     exact ⟨_,(GStep.trans (GStep.keep [1,3,5,9,10,11,38]) (GStep.ren [0,1,3,2] (by decide) rfl rfl)),rfl,rfl⟩
    refine ao h fun y8 hy8 h=>?_
    refine aa.region (ab.ev0 [0,0,0] [(15,.clo 198 [] [.ptr 1 0]),(17,.d (.str ((nth a0.tokens v0_0).name)))] [] ?_)
    refine ab.step (v:=db y4.1) (ae.callS [1,2] (bm ((nth a0.tokens v0_0).name) v0_1 _ hy4) rfl rfl ⟨rfl,rfl,trivial⟩ (by decide) rfl rfl ⟨⟨rfl,rfl⟩,⟨rfl,rfl⟩,trivial⟩) rfl rfl rfl ?_
    refine ab.hp (h':=[.live (.var (ah a0)),.live (.var [.mp 2]),.live (.mp (aI D.str D.bool y4.2)),.live (.var (dp (nth a0.tokens v0_0)))]) (by kernel_rfl) ?_
    refine ab.ev0 [0,0,1,0,0,0,0,1,0,0,0,0,3,3,3,3,3] [(30,db (decide ((nth a0.tokens v0_0).classF > 2))),(32,.agg (an ((nth a0.tokens v0_0).ifF))),(35,di (a0.conditions.length:Int))] [⟨_,hc5⟩,⟨_,hc6⟩,⟨_,hc7⟩,⟨_,hc7⟩,⟨_,hc7⟩,⟨_,hc7⟩,⟨_,hc7⟩] ?_
    refine ab.gstep (v:=db y8) (ae.callS [] (cu k ((nth a0.tokens v0_0).ifF) (a0.conditions.length:Int) _ hy8) rfl rfl ⟨⟨rfl,rfl,trivial⟩,rfl,trivial⟩ (by decide) rfl rfl trivial) rfl rfl rfl hc7 rfl rfl ?_
    refine ab.ev0n [3,20] [(38,db (!y8))] [⟨_,hc7⟩,⟨_,hc7⟩] ?_
    cases h
    exact ⟨_,(GStep.trans (GStep.keep [1,3,5,9,10,11,38]) (GStep.ren [0,1,3,2] (by decide) rfl rfl)),rfl,rfl⟩
   rintro e s' hq
   obtain ⟨rfl,rfl⟩:=hq
   refine aa.condI h rfl (fun hc11 h=>?_) (fun hc11 h=>?_)
   ·
    refine aa.sr (ab.ev0n [0] [(2,di 51)] [] ?_)
    refine aa.ret ?_
    cases h
    exact ⟨_,(GStep.trans (GStep.keep [2]) (GStep.ren [] (by decide) rfl rfl)),rfl,Fin.mk2 (aB.one (.tmp rfl)) [] (by decide) rfl rfl rfl rfl⟩
   refine aa.skip ?_
   refine aa.sr (ab.ev0n [0,0,0,0] [(6,db (decide (x10.2.1.sample=(⟨#[]⟩:ByteArray))))] [] ?_)
   refine aa.seq ?_
   refine aa.block ?_
   refine aa.sr (ab.ev0n [0,0,0,0] [(42,db (!decide (x10.2.1.literal=(⟨#[]⟩:ByteArray))))] [] ?_)
   refine ao h fun x28 ho27 h=>?_
   refine aa.cut (Q':=fun e s'=>e = .normal∧s'=⟨[(1,.ptr 0 0),(3,.clo 198 [] [.ptr 1 0]),(6,db x28),(9,.d (af 7 aE a0.tokens)),(10,di (a0.tokens.length:Int)),(11,di v0_0)],[.live (.var (ah a0)),.live (.var [.mp 2]),.live (.mp (aI D.str D.bool x10.2.2))]⟩) ?_ ?_
   ·
    have h:=ho27
    refine aa.condI h rfl (fun hc12 h=>?_) (fun hc12 h=>?_)
    ·
     refine ao h fun x15 ho14 h=>?_
     refine aa.cut (Q':=fun e s'=>e = .normal∧s'=⟨[(1,.ptr 0 0),(3,.clo 198 [] [.ptr 1 0]),(6,db x15),(9,.d (af 7 aE a0.tokens)),(10,di (a0.tokens.length:Int)),(11,di v0_0)],[.live (.var (ah a0)),.live (.var [.mp 2]),.live (.mp (aI D.str D.bool x10.2.2))]⟩) ?_ ?_
     ·
      have h:=ho14
      refine au h (fun hc13 h=>?_) (fun hc13 h=>?_)
      ·
       refine aa.region (ab.ev0n [0,0,1,0,0,0,0,0] [(6,db (decide ((x10.2.1.pattern.length:Int)=0)))] [⟨_,hc13⟩] ?_)
       cases h
       exact ⟨_,(GStep.trans (GStep.keep [1,3,6,9,10,11]) (GStep.ren [0,1,3] (by decide) rfl rfl)),rfl,rfl⟩
      refine aa.region (ab.ev0n [0,0,2,0,0,0,0,0] [(6,db false)] [⟨_,hc13⟩] ?_)
      cases h
      exact ⟨_,(GStep.trans (GStep.keep [1,3,6,9,10,11]) (GStep.ren [0,1,3] (by decide) rfl rfl)),rfl,rfl⟩
     rintro e s' hq
     obtain ⟨rfl,rfl⟩:=hq
     cases h
     exact ⟨_,(GStep.keep [1,3,6,9,10,11]),rfl,rfl⟩
    refine aa.seq ?_
    refine ao h fun y16 hy16 h=>?_
    refine aa.region (ab.ev0 [0,0] [(55,.d (af 5 aO x10.2.1.pattern))] [] ?_)
    refine ab.step (v:=di y16) (ae.callS [] (oY k x10.2.1.pattern _ hy16) rfl rfl ⟨rfl,trivial⟩ (by decide) rfl rfl trivial) rfl rfl rfl ?_
    refine ab.ev0n [0,0] [(53,db (!decide (y16=0)))] [] ?_
    refine ao h fun x26 ho25 h=>?_
    refine aa.cut (Q':=fun e s'=>e = .normal∧s'=⟨[(1,.ptr 0 0),(3,.clo 198 [] [.ptr 1 0]),(6,db x26),(9,.d (af 7 aE a0.tokens)),(10,di (a0.tokens.length:Int)),(11,di v0_0)],[.live (.var (ah a0)),.live (.var [.mp 2]),.live (.mp (aI D.str D.bool x10.2.2))]⟩) ?_ ?_
    ·
     have h:=ho25
     refine aa.condI h rfl (fun hc17 h=>?_) (fun hc17 h=>?_)
     ·
      refine aa.region (ab.ev0n [0] [(6,db false)] [] ?_)
      cases h
      exact ⟨_,(GStep.trans (GStep.keep [1,3,6,9,10,11]) (GStep.ren [0,1,3] (by decide) rfl rfl)),rfl,rfl⟩
     refine aa.sr (ab.ev0n [0,0,0,0] [(58,db (decide (x10.2.1.classF=0)))] [] ?_)
     refine ao h fun x24 ho23 h=>?_
     refine aa.cut (Q':=fun e s'=>e = .normal∧s'=⟨[(1,.ptr 0 0),(3,.clo 198 [] [.ptr 1 0]),(6,db x24),(9,.d (af 7 aE a0.tokens)),(10,di (a0.tokens.length:Int)),(11,di v0_0)],[.live (.var (ah a0)),.live (.var [.mp 2]),.live (.mp (aI D.str D.bool x10.2.2))]⟩) ?_ ?_
     ·
      have h:=ho23
      refine aa.condI h rfl (fun hc18 h=>?_) (fun hc18 h=>?_)
      ·
       refine ao h fun x22 ho21 h=>?_
       refine aa.cut (Q':=fun e s'=>e = .normal∧s'=⟨[(1,.ptr 0 0),(3,.clo 198 [] [.ptr 1 0]),(6,db x22),(9,.d (af 7 aE a0.tokens)),(10,di (a0.tokens.length:Int)),(11,di v0_0)],[.live (.var (ah a0)),.live (.var [.mp 2]),.live (.mp (aI D.str D.bool x10.2.2))]⟩) ?_ ?_
       ·
        have h:=ho21
        refine au h (fun hc19 h=>?_) (fun hc19 h=>?_)
        ·
         refine ao h fun y20 hy20 h=>?_
         refine aa.region (ab.ev0 [0,0,0,3,3,3,3] [(64,db (!(decide (x10.2.1.sample=(⟨#[]⟩:ByteArray))))),(66,.d (af 5 aO x10.2.1.pattern)),(68,.d (.str x10.2.1.sample))] [⟨_,hc19⟩,⟨_,hc19⟩,⟨_,hc19⟩,⟨_,hc19⟩] ?_)
         refine ab.gstep (v:=db y20) (ae.callS [] (nq x10.2.1.pattern x10.2.1.sample _ hy20) rfl rfl ⟨rfl,rfl,trivial⟩ (by decide) rfl rfl trivial) rfl rfl rfl hc19 rfl rfl ?_
         refine ab.ev0n [10,0] [(6,db y20)] [⟨_,hc19⟩] ?_
         cases h
         exact ⟨_,(GStep.trans (GStep.keep [1,3,6,9,10,11]) (GStep.ren [0,1,3] (by decide) rfl rfl)),rfl,rfl⟩
        refine aa.region (ab.ev0n [0,0,0,2,0,0,0,0,0,0] [(6,db false)] [⟨_,hc19⟩] ?_)
        cases h
        exact ⟨_,(GStep.trans (GStep.keep [1,3,6,9,10,11]) (GStep.ren [0,1,3] (by decide) rfl rfl)),rfl,rfl⟩
       rintro e s' hq
       obtain ⟨rfl,rfl⟩:=hq
       cases h
       exact ⟨_,(GStep.keep [1,3,6,9,10,11]),rfl,rfl⟩
      refine aa.skip ?_
      cases h
      exact ⟨_,(GStep.trans (GStep.keep [1,3,6,9,10,11]) (GStep.ren [0,1,3] (by decide) rfl rfl)),rfl,rfl⟩
     rintro e s' hq
     obtain ⟨rfl,rfl⟩:=hq
     cases h
     exact ⟨_,(GStep.keep [1,3,6,9,10,11]),rfl,rfl⟩
    rintro e s' hq
    obtain ⟨rfl,rfl⟩:=hq
    cases h
    exact ⟨_,(GStep.keep [1,3,6,9,10,11]),rfl,rfl⟩
   rintro e s' hq
   obtain ⟨rfl,rfl⟩:=hq
   refine aa.sr (ab.ev0n [0,0] [(72,db (!x28))] [] ?_)
   refine aa.condI h rfl (fun hc29 h=>?_) (fun hc29 h=>?_)
   ·
    refine aa.sr (ab.ev0n [0] [(2,di 51)] [] ?_)
    refine aa.ret ?_
    cases h
    exact ⟨_,(GStep.trans (GStep.keep [2]) (GStep.ren [] (by decide) rfl rfl)),rfl,Fin.mk2 (aB.one (.tmp rfl)) [] (by decide) rfl rfl rfl rfl⟩
   refine aa.skip ?_
   refine aa.region (ab.ev0n [0,0] [(11,di (IntKind.wrap .i64 (v0_0+1)))] [] ?_)
   exact aM.ghost (GStep.keep [1,3,9,10,11]) (ih ((IntKind.wrap .i64 (v0_0+1)),x10.2.2) h)
  refine aa.exit ?_
  cases h
  exact ⟨_,(GStep.trans (GStep.keep []) (GStep.ren [] (by decide) rfl rfl)),rfl,rfl⟩
 rcases o32 with r30 | x31
 ·
  rintro e s' hq
  obtain ⟨rfl,hq⟩:=hq
  cases h
  exact ⟨_,GStep.refl _ _,.inr rfl,hq⟩
 rintro e s' hq
 obtain ⟨rfl,rfl⟩:=hq
 refine aa.sr (ab.ev0n [0] [(2,di 0)] [] ?_)
 refine aa.ret ?_
 cases h
 exact ⟨_,(GStep.keep [2]),.inr rfl,Fin.mk2 (aB.one (.tmp rfl)) [] (by decide) rfl rfl rfl rfl⟩
noncomputable def bk (k:Nat)(a0:am)(y1:List (ByteArray×Bool))(v:Int×(List (ByteArray×Bool))):Option (Int⊕Unit):=match k,v with
  | 0,_=>none
  | k+1,(v0_0,v0_1)=>(if (decide (v0_0 < (a0.nonterminals.length:Int)))=true then (if (0:Int)≤v0_0∧v0_0 < (a0.nonterminals.length:Int) then ((cv (nth a0.nonterminals v0_0) v0_1).bind fun y4=>(if (!y4.1)=true then some (.inl 50) else (bk k a0 y1 ((IntKind.wrap .i64 (v0_0+1)),y4.2)))) else none) else some (.inr ()))
theorem cA:type_of% (@bk.eq_2):=@bk.eq_2
noncomputable def bg (k:Nat)(a0:am):Option Int:=((eP).bind fun y1=>(((bk k a0 y1 (0,y1)):Option (Int⊕Unit)).bind fun o12=>match o12 with | .inl r6=>(some r6) | .inr x7=>(((if (decide (a0.start < 0))=true then some true else some (decide (a0.start≥(a0.nonterminals.length:Int)))):Option Bool).bind fun x10=>(if x10=true then some 50 else some 0))))
set_option maxRecDepth 100000 in
set_option maxHeartbeats 4000000 in
theorem iL (k:Nat)(a0:am)(r:Int)(h:bg k a0=some r):SC P 77 [.agg (ah a0)] [] (di r) []:=by
 unfold bg at h
 refine SC.intro3 (N:=30) Tryz.func77 rfl rfl Tryz.ntmps77 rfl ?_
 refine aa.sr (ab.evn (h':=[.live (.var (ah a0))]) [0,0] [(1,.ptr 0 0)] [] ?_)
 refine aa.seq ?_
 refine ao h fun y1 hy1 h=>?_
 refine aa.region ?_
 refine ab.step (v:=.clo 198 [] [.ptr 1 0]) (ae.callS [] (fL _ hy1) rfl rfl trivial (by decide) rfl rfl trivial) rfl rfl rfl ?_
 refine ab.hp (h':=[.live (.var (ah a0)),.live (.var [.mp 2]),.live (.mp (aI D.str D.bool y1))]) (by kernel_rfl) ?_
 refine ab.ev0n [0] [(3,.clo 198 [] [.ptr 1 0])] [] ?_
 refine aa.seq ?_
 refine aa.sr (ab.ev0n [0,0,0,0] [(8,.d (af 1 eS a0.nonterminals)),(9,di (a0.nonterminals.length:Int)),(10,di 0)] [] ?_)
 refine aa.block ?_
 refine ao h fun o12 ho12 h=>?_
 refine aa.cut (Q':=fun e s'=>match o12 with | .inl r6=>((e = .ret)∧Fin P (Tryz.f77.results) 0 [] (di r6) s') | .inr x7=>(e = .exit 0∧s'=⟨[(1,.ptr 0 0)],[.live (.var (ah a0))]⟩)) ?_ ?_
 ·
  have h:=ho12
  refine aa.ghost (GStep.keep [1,3,8,9,10]) ?_
  refine aa.loopI (F:=fun k v=>bk k a0 y1 v) (fun v=>⟨[(1,.ptr 0 0),(3,.clo 198 [] [.ptr 1 0]),(8,.d (af 1 eS a0.nonterminals)),(9,di (a0.nonterminals.length:Int)),(10,di v.1)],[.live (.var (ah a0)),.live (.var [.mp 2]),.live (.mp (aI D.str D.bool v.2))]⟩) (k:=k) (v:=(0,y1)) h rfl (fun _=>rfl) ?_
  intro k v ih h
  obtain ⟨v0_0,v0_1⟩:=v
  have h:=(cA ..).symm.trans h
  refine aa.sr (ab.ev0n [0] [(11,db (decide (v0_0 < (a0.nonterminals.length:Int))))] [] ?_)
  refine aa.seq ?_
  refine aa.condI h rfl (fun hc2 h=>?_) (fun hc2 h=>?_)
  ·
   refine aa.skip ?_
   refine aa.seq ?_
   refine aa.block ?_
   refine aa.seq ?_
   refine aD h fun hb3 h=>?_
   refine aa.region (ab.ev0n [0,0,0] [(5,.d (.str (nth a0.nonterminals v0_0)))] [⟨_,hb3.1⟩,⟨_,hb3.2⟩] ?_)
   refine aa.seq ?_
   refine ao h fun y4 hy4 h=>?_
   refine aa.region (ab.ev0 [0,0] [(14,.clo 198 [] [.ptr 1 0]),(15,.d (.str (nth a0.nonterminals v0_0)))] [] ?_)
   refine ab.step (v:=db y4.1) (ae.callS [1,2] (bm (nth a0.nonterminals v0_0) v0_1 _ hy4) rfl rfl ⟨rfl,rfl,trivial⟩ (by decide) rfl rfl ⟨⟨rfl,rfl⟩,⟨rfl,rfl⟩,trivial⟩) rfl rfl rfl ?_
   refine ab.hp (h':=[.live (.var (ah a0)),.live (.var [.mp 2]),.live (.mp (aI D.str D.bool y4.2))]) (by kernel_rfl) ?_
   refine ab.ev0n [0] [(17,db (!y4.1))] [] ?_
   refine aa.condI h rfl (fun hc5 h=>?_) (fun hc5 h=>?_)
   ·
    refine aa.sr (ab.ev0n [0] [(2,di 50)] [] ?_)
    refine aa.ret ?_
    cases h
    exact ⟨_,(GStep.trans (GStep.keep [2]) (GStep.ren [] (by decide) rfl rfl)),rfl,Fin.mk2 (aB.one (.tmp rfl)) [] (by decide) rfl rfl rfl rfl⟩
   refine aa.skip ?_
   refine aa.region (ab.ev0n [0,0] [(10,di (IntKind.wrap .i64 (v0_0+1)))] [] ?_)
   exact aM.ghost (GStep.keep [1,3,8,9,10]) (ih ((IntKind.wrap .i64 (v0_0+1)),y4.2) h)
  refine aa.exit ?_
  cases h
  exact ⟨_,(GStep.trans (GStep.keep [1]) (GStep.ren [0] (by decide) rfl rfl)),rfl,rfl⟩
 rcases o12 with r6 | x7
 ·
  rintro e s' hq
  obtain ⟨rfl,hq⟩:=hq
  cases h
  exact ⟨_,GStep.refl _ _,.inr rfl,hq⟩
 rintro e s' hq
 obtain ⟨rfl,rfl⟩:=hq
 refine aa.seq ?_
 refine aa.seq ?_
 refine ao h fun x10 ho9 h=>?_
 refine aa.cut (Q':=fun e s'=>e = .normal∧s'=⟨[(29,db x10)],[]⟩) ?_ ?_
 ·
  have h:=ho9
  refine au h (fun hc8 h=>?_) (fun hc8 h=>?_)
  ·
   refine aa.region (ab.ev0n [0,0,0,0,2,0,0,0,0,0,0] [(29,db true)] [⟨_,hc8⟩] ?_)
   cases h
   exact ⟨_,(GStep.trans (GStep.keep [29]) (GStep.ren [] (by decide) rfl rfl)),rfl,rfl⟩
  refine aa.region (ab.ev0n [0,0,0,0,1,0,0,0,0,0,0] [(29,db (decide (a0.start≥(a0.nonterminals.length:Int))))] [⟨_,hc8⟩] ?_)
  cases h
  exact ⟨_,(GStep.trans (GStep.keep [29]) (GStep.ren [] (by decide) rfl rfl)),rfl,rfl⟩
 rintro e s' hq
 obtain ⟨rfl,rfl⟩:=hq
 refine aa.condI h rfl (fun hc11 h=>?_) (fun hc11 h=>?_)
 ·
  refine aa.sr (ab.ev0n [0] [(2,di 50)] [] ?_)
  refine aa.ret ?_
  cases h
  exact ⟨_,(GStep.keep [2]),.inr rfl,Fin.mk2 (aB.one (.tmp rfl)) [] (by decide) rfl rfl rfl rfl⟩
 refine aa.skip ?_
 refine aa.sr (ab.ev0n [0] [(2,di 0)] [] ?_)
 refine aa.ret ?_
 cases h
 exact ⟨_,(GStep.keep [2]),.inr rfl,Fin.mk2 (aB.one (.tmp rfl)) [] (by decide) rfl rfl rfl rfl⟩
noncomputable def ft (a0:am)(a1:aw):Option Bool:=(if (!a1.token)=true then (((if (decide (a1.index≥0))=true then some (decide (a1.index < (a0.nonterminals.length:Int))) else some false):Option Bool).bind fun x4=>some x4) else (((if (decide (a1.index≥0))=true then (if (decide (a1.index < (a0.tokens.length:Int)))=true then (if (0:Int)≤a1.index∧a1.index < (a0.tokens.length:Int) then some (decide ((nth a0.tokens a1.index).classF=0)) else none) else some false) else some false):Option Bool).bind fun x9=>some x9))
set_option maxRecDepth 100000 in
set_option maxHeartbeats 4000000 in
theorem og (a0:am)(a1:aw)(r:Bool)(h:ft a0 a1=some r):SC P 153 [.agg (ah a0),.agg (bW a1)] [] (db r) []:=by
 unfold ft at h
 refine SC.intro3 (N:=40) Tryz.func153 rfl rfl Tryz.ntmps153 rfl ?_
 refine aa.sr (ab.evn (h':=[.live (.var (ah a0)),.live (.var (bW a1))]) [0,0,0] [(2,.ptr 0 0),(3,.ptr 1 0)] [] ?_)
 refine aa.seq ?_
 refine aa.sr (ab.ev0n [0,0,0] [(7,db (!a1.token))] [] ?_)
 refine aa.condI h rfl (fun hc1 h=>?_) (fun hc1 h=>?_)
 ·
  refine aa.seq ?_
  refine ao h fun x4 ho3 h=>?_
  refine aa.cut (Q':=fun e s'=>e = .normal∧s'=⟨[(4,db x4)],[]⟩) ?_ ?_
  ·
   have h:=ho3
   refine au h (fun hc2 h=>?_) (fun hc2 h=>?_)
   ·
    refine aa.region (ab.ev0n [0,0,0,0,1,0,0,0,0,0,0,0] [(4,db (decide (a1.index < (a0.nonterminals.length:Int))))] [⟨_,hc2⟩] ?_)
    cases h
    exact ⟨_,(GStep.trans (GStep.keep [4]) (GStep.ren [] (by decide) rfl rfl)),rfl,rfl⟩
   refine aa.region (ab.ev0n [0,0,0,0,2,0,0,0,0,0,0,0] [(4,db false)] [⟨_,hc2⟩] ?_)
   cases h
   exact ⟨_,(GStep.trans (GStep.keep [4]) (GStep.ren [] (by decide) rfl rfl)),rfl,rfl⟩
  rintro e s' hq
  obtain ⟨rfl,rfl⟩:=hq
  refine aa.ret ?_
  cases h
  exact ⟨_,(GStep.keep [4]),.inr rfl,Fin.mk2 (aB.one (.tmp rfl)) [] (by decide) rfl rfl rfl rfl⟩
 refine aa.skip ?_
 refine aa.seq ?_
 refine ao h fun x9 ho8 h=>?_
 refine aa.cut (Q':=fun e s'=>e = .normal∧s'=⟨[(4,db x9)],[]⟩) ?_ ?_
 ·
  have h:=ho8
  refine au h (fun hc5 h=>?_) (fun hc5 h=>?_)
  ·
   refine au h (fun hc6 h=>?_) (fun hc6 h=>?_)
   ·
    refine aD h fun hb7 h=>?_
    refine aa.region (ab.ev0n [0,0,0,0,1,0,0,0,0,0,0,0,1,0,0,0,0,0,0,0,0,0] [(4,db (decide ((nth a0.tokens a1.index).classF=0)))] [⟨_,hc5⟩,⟨_,hc6⟩,⟨_,hb7.1⟩,⟨_,hb7.2⟩] ?_)
    cases h
    exact ⟨_,(GStep.trans (GStep.keep [4]) (GStep.ren [] (by decide) rfl rfl)),rfl,rfl⟩
   refine aa.region (ab.ev0n [0,0,0,0,1,0,0,0,0,0,0,0,2,0,0,0,0,0,0,0,0,0] [(4,db false)] [⟨_,hc5⟩,⟨_,hc6⟩] ?_)
   cases h
   exact ⟨_,(GStep.trans (GStep.keep [4]) (GStep.ren [] (by decide) rfl rfl)),rfl,rfl⟩
  refine aa.region (ab.ev0n [0,0,0,0,2,0,0,0,0,0,0,0,0,0,0,0,0,0,0,0,0,0] [(4,db false)] [⟨_,hc5⟩] ?_)
  cases h
  exact ⟨_,(GStep.trans (GStep.keep [4]) (GStep.ren [] (by decide) rfl rfl)),rfl,rfl⟩
 rintro e s' hq
 obtain ⟨rfl,rfl⟩:=hq
 refine aa.ret ?_
 cases h
 exact ⟨_,(GStep.keep [4]),.inr rfl,Fin.mk2 (aB.one (.tmp rfl)) [] (by decide) rfl rfl rfl rfl⟩
noncomputable def bF (a0:aw)(a1:am):Option Bool:=((ft a1 a0).bind fun y1=>some (!y1))
set_option maxRecDepth 100000 in
set_option maxHeartbeats 4000000 in
theorem dy (a0:aw)(a1:am)(r:Bool)(h:bF a0 a1=some r):SC P 152 [.agg (bW a0),.ptr 0 0] [(.var (ah a1))] (db r) [.live (.var (ah a1))]:=by
 unfold bF at h
 refine SC.intro3 (N:=8) Tryz.func152 rfl rfl Tryz.ntmps152 rfl ?_
 refine aa.sr (ab.evn (h':=[.live (.var (ah a1)),.live (.var (bW a0))]) [0,0] [(2,.ptr 1 0)] [] ?_)
 refine aa.seq ?_
 refine ao h fun y1 hy1 h=>?_
 refine aa.region (ab.ev0 [0,0] [(4,.agg (ah a1)),(5,.agg (bW a0))] [] ?_)
 refine ab.step (v:=db y1) (ae.callS [] (og a1 a0 _ hy1) rfl rfl ⟨⟨rfl,rfl,rfl,rfl,rfl,rfl,rfl,rfl,rfl,trivial⟩,⟨rfl,rfl,trivial⟩,trivial⟩ (by decide) rfl rfl trivial) rfl rfl rfl ?_
 refine ab.ev0n [0,0] [(3,db (!y1))] [] ?_
 refine aa.ret ?_
 cases h
 exact ⟨_,(GStep.trans (GStep.keep [3]) (GStep.ren [0] (by decide) rfl rfl)),.inr rfl,Fin.mk2 (aB.one (.tmp rfl)) [0] (by decide) rfl rfl rfl rfl⟩
noncomputable def co (k:Nat)(a0:List aw)(a1:am)(v:Int):Option (Int⊕Unit):=match k,v with
  | 0,_=>none
  | k+1,v0_0=>(if (decide (v0_0 < (a0.length:Int)))=true then (if (0:Int)≤v0_0∧v0_0 < (a0.length:Int) then ((bF (nth a0 v0_0) a1).bind fun y3=>(if y3=true then some (.inl v0_0) else (co k a0 a1 (IntKind.wrap .i64 (v0_0+1))))) else none) else some (.inr ()))
theorem cZ:type_of% (@co.eq_2):=@co.eq_2
noncomputable def gG (k:Nat)(a0:List aw)(a1:am):Option Int:=(((co k a0 a1 0):Option (Int⊕Unit)).bind fun o7=>match o7 with | .inl r5=>(some r5) | .inr x6=>(some (-1)))
end
end Go.Abs
