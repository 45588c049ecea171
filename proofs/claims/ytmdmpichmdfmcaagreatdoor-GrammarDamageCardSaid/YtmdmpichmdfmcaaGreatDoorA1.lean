/- Part 1 of what the claim stands on: an abstract calculus of the program's steps, what each function computes, and the plain law. -/
import Derived.Laws.BytesString
import Derived.ChangeKeysEq
import Derived.KernelRfl
import Derived.Test.YtmdmpichmdfmcaaGreatDoorProg
import Derived.Test.YtmdmpichmdfmcaaGreatDoorA0
set_option linter.all false
namespace Go.Abs
noncomputable def eI (k:IntKind)(n:Int):List D:=[.int k n]
noncomputable def eB (b:Bool):List D:=[.bool b]
noncomputable def eS (s:ByteArray):List D:=[.str s]
noncomputable def kI (k:IntKind)(n:Int):D:=.int k n
theorem GStep.refl (m:Nat)(s:St):GStep m s s:=fun G a w hi hr=>⟨G,hi,hr,.refl _ _ _ _⟩
theorem GStep.trans {m:Nat}{s s1 s2:St}(h:GStep m s s1)(k:GStep m s1 s2):GStep m s s2:=by
  intro G a w hi hr
  obtain ⟨G1,h1,h2,h3⟩:=h G a w hi hr
  obtain ⟨G2,k1,k2,k3⟩:=k G1 a w h1 h2
  exact ⟨G2,k1,k2,h3.trans k3⟩
section
variable {P:Program}{N m:Nat}{s s':St}{Q Q':Exit→St→Prop}{c:Code}
noncomputable def mE (m:Nat)(Q':Exit→St→Prop):Exit→St→Prop:=fun e s=>∃ s',GStep m s s'∧Q' e s'
theorem aa.cut (h:aa P N m c s (mE m Q'))(hq:∀ e s',Q' e s'→Q e s'):aa P N m c s Q:=by
  intro G a w hN hi hr Qc k
  refine h G a w hN hi hr Qc fun e a' w' G' s1 q hN' hd hi' hr' he=>?_
  obtain ⟨s2,g1,g2⟩:=q
  obtain ⟨G2,k1,k2,k3⟩:=g1 G' a' w' hi' hr'
  exact k e a' w' G2 s2 (hq e s2 g2) hN' hd k1 k2 (he.trans k3)
theorem aa.loopI {τ ω:Type}{F:Nat→τ→Option ω}(st:τ→St){o:ω}{k:Nat}{v:τ}(h:F k v=some o)(hs:s=st v)(h0:∀ v,F 0 v=none)
    (hstep:∀ k v,(∀ v',F k v'=some o→aM P N m c Q k (st v'))→F (k+1) v=some o→aa P N m c (st v) (n7 (aM P N m c Q k) Q)):aa P N m (.loop c) s Q:=by
  subst hs
  refine aa.loop k ?_
  induction k generalizing v with
  | zero=>rw [h0] at h; cases h
  | succ k ih=>exact hstep k v (fun v' h'=>ih h') h
end
noncomputable def kG:AV→AV→Prop
  | .agg xs,.agg ys=>dH xs ys
  | x,y=>aF x y
noncomputable def gk:List AV→List AV→Prop
  | [],[]=>True
  | x::xs,y::ys=>kG x y∧gk xs ys
  | _,_=>False
noncomputable def oA:AV→AV→Prop
  | .tup xs,.tup ys=>gk xs ys
  | x,y=>kG x y
theorem RV.sube {G:Gh}{v:Value}{x y:AV}(h:RV G v x)(hs:kG x y):RV G v y:=by
  unfold kG at hs
  split at hs
  · cases h with
    | agg vs _ hl h=>exact .agg vs _ (by rw [hl,hs.len]) fun i hi=>(h i (by rw [hs.len]; exact hi)).sub (hs.get i (by rw [hs.len]; exact hi))
  · exact h.sub hs
theorem gk.len:∀ {xs ys},gk xs ys→xs.length=ys.length
  | [],[],_=>rfl
  | [],_::_,h=>h.elim
  | _::_,[],h=>h.elim
  | _::xs,_::ys,h=>by simp [gk.len h.2]
theorem gk.get:∀ {xs ys} (i:Nat),gk xs ys→i < xs.length→kG (xs.getD i default) (ys.getD i default)
  | [],[],i,_,h=>by simp at h
  | [],_::_,i,h,_=>h.elim
  | _::_,[],i,h,_=>h.elim
  | x::xs,y::ys,0,h,_=>h.1
  | x::xs,y::ys,i+1,h,hl=>by
    have:=gk.get (xs:=xs) (ys:=ys) i h.2 (by simpa using hl)
    simpa using this
theorem RV.subr {G:Gh}{v:Value}{x y:AV}(h:RV G v x)(hs:oA x y):RV G v y:=by
  unfold oA at hs
  split at hs
  · cases h with
    | tup vs _ hl h=>exact .tup vs _ (by rw [hl,hs.len]) fun i hi=>(h i (by rw [hs.len]; exact hi)).sube (hs.get i (by rw [hs.len]; exact hi))
  · exact h.sube hs
theorem aM.ghost {P:Program}{N m n:Nat}{c:Code}{Q:Exit→St→Prop}{s s':St}(hs:GStep m s s')(h:aM P N m c Q n s'):aM P N m c Q n s:=by
  cases n with
  | zero=>exact h
  | succ n=>exact aa.ghost hs h
noncomputable def Fin (P:Program)(rs:Array ResultVar)(m:Nat)(h':List ak)(r:AV)(s:St):Prop:=
  ∃ r0,aB P rs s r0∧∀ G v w,Inv G s.h w→RV G v r0→∃ G',Inv G' h' w∧RV G' v r∧jE m G s.h w G' h' w
theorem Fin.mk2 {P:Program}{rs:Array ResultVar}{m:Nat}{h':List ak}{r r0:AV}{s:St}(hr:aB P rs s r0)(π:List Nat)(hnd:π.Nodup)(hlt:π.all (fun id=>Nat.blt id s.h.length)=true)(hm:π.take m=List.range m)
    (hh:g6 (dl π 0) s.h π=h') (hrr:oA (r0.tr (dl π 0)) r):Fin P rs m h' r s:=
  ⟨r0,hr,fun G v w hi hv=>by
    obtain ⟨G',h1,h2,h3⟩:=yT π hnd hlt hm G v w hi hv
    rw [hh] at h1 h3
    exact ⟨G',h1,h2.subr hrr,h3⟩⟩
theorem SC.intro3 {P:Program}{f:FuncId}{args:List AV}{h:List aQ}{r:AV}{h':List ak}{fn:Func}{c:Code}{N:Nat}
    (hf:P.funcs[f]? = some fn) (hn:(fn.name == "runtime.NumGoroutine")=false) (hb:fn.body=some c) (hN:fn.ntmps=N) (hle:Nat.ble args.length N=true)
    (H:aa P N h.length c ⟨jc args 0,h.map .live⟩ (mE h.length fun e s=>(e = .normal∨e = .ret)∧Fin P fn.results h.length h' r s)):SC P f args h r h':=by
  refine ⟨⟨fn,hf,hn,by rw [hb]; rfl⟩,fun G w vs hi hs hv R hR=>calls_of_wp hf hb ?_⟩
  have hle':args.length≤N:=Nat.le_of_ble_eq_true hle
  refine H.cut (fun e s' q=>q) G _ w ?_ hi ?_ _ fun e a' w' G' s' q hN' hd hi' hr' he=>?_
  · simp [hN,hs]; omega
  · intro i v hl
    obtain ⟨_,h2⟩:=nb args 0 i v hl
    have hi':i < args.length:=(List.getElem?_eq_some_iff.1 h2).1
    have:=hv i hi'
    have e1:args.getD i default=v:=by simp [List.getD_eq_getElem?_getD] ; rw [show args[i]? = some v from h2]; rfl
    rw [e1] at this
    have e2:(vs++Array.replicate (fn.ntmps - vs.size) undef).getD i undef=vs.getD i undef:=by
      simp [Array.getD_eq_getD_getElem?,Array.getElem?_append,hs,hi']
    rw [e2]
    exact this
  · obtain ⟨hex,r0,hres,hfin⟩:=q
    obtain ⟨v,hrun,hrv⟩:=hres G' a' w' hi' hr'
    obtain ⟨G2,i2,v2,e2⟩:=hfin G' v w' hi' hrv
    have hpost:a'.defers=[]∧∃ v,(results fn a'.tmps).run P w' = .ok v w'∧R (.returned v) w':=⟨hd,v,by rw [p7]; exact hrun,hR v w' G2 v2 i2 (he.trans e2)⟩
    rcases hex with rfl | rfl
    · exact hpost
    · exact hpost
section
variable {P:Program}{o:Oper}{ts:List (Nat×AV)}{h:List ak}
theorem ae.indexO0 {t:TypeId}{x y:Operand}{id n sz e:Nat}{g:Bool}{k:IntKind}{i:Int}(ho:o.op = .indexAddr t x y)(hx:ax ts x = .osl id 0 n sz)(hy:ax ts y = .d (.int k i))(hs:cy P t=some (e,g,sz))
    (h0:0≤i) (h1:i < n):ae P o ts h (.eptr id i.toNat 0 sz) h:=by
  have:=ae.indexO (P:=P) (h:=h) ho hx hy hs h0 h1
  rwa [Nat.zero_add] at this
theorem ae.callS {fo:Operand}{args:Array Operand}{tys:Array TypeId}{f:FuncId}{cargs az9:List AV}{hs:List aQ}{r:AV}{hc:List ak}
    (σ:List Nat) (sc:SC P f cargs hs r hc) (ho:o.op = .call { callee:=.value fo,args:=args,argTypes:=tys }) (hf:pu (ax ts fo) (args.toList.map (ax ts))=some (f,az9)) (hsub:gk az9 (fk (fun j=>σ[j]?) cargs))
    (hnd:σ.Nodup) (hok:et (fun j=>σ[j]?) cargs=true) (hcl:Nat.ble hs.length hc.length=true) (hm:gB (fun j=>σ[j]?) h σ hs) :
    ae P o ts h (r.tr (names σ σ.length h.length)) (ed h σ hc):=by
  intro G a w hi hr next Q hn
  obtain ⟨fn,e1,e2,e3⟩:=sc.enters
  have hcall:∀ (vs:Array Value),callFunc f vs=callFunc f vs:=fun _=>rfl
  have hrun:∀ vs:Array Value,(callFunc f vs).run P w = .ok (.enter f vs) w:=fun vs=>by
    unfold callFunc
    simp only [Sem.run_bind,run_program,Result.andThen_ok,e1,e2,e3,Bool.false_eq_true,if_false,Sem.run_pure]
  have key:∃ vs:Array Value,(execOp a.eval o).run P w = .ok (.enter f vs) w∧vs.size=az9.length∧∀ i,i < az9.length→RV G (vs.getD i undef) (az9.getD i default):=by
    have hargs:∀ i,i < args.size→RV G ((args.map a.eval).getD i undef) ((args.toList.map (ax ts)).getD i default):=fun i hlt=>by
      simp [List.getD_eq_getElem?_getD,Array.getD_eq_getD_getElem?,hlt]
      exact hr.ev _
    have hfo:=hr.ev fo
    generalize ax ts fo=fv at hf hfo
    unfold pu at hf
    split at hf
    · simp only [Option.some.injEq,Prod.mk.injEq] at hf
      obtain ⟨rfl,hl⟩:=hf
      have hv:=vj hfo
      refine ⟨args.map a.eval,?_,?_,fun i hlt=>?_⟩
      · simp [execOp,ho,resolve,hv,Deferred.ofValue,invoke,hrun]
      · have:=congrArg List.length hl
        simpa using this
      · have h1:i < args.size:=by
          have:=congrArg List.length hl
          simp at this
          omega
        have h2:=hargs i h1
        rw [hl] at h2
        exact h2
    · rename_i f' fs cs
      simp only [Option.some.injEq,Prod.mk.injEq] at hf
      obtain ⟨rfl,hl⟩:=hf
      obtain ⟨vs,us,hv,s1,g1,s2,g2⟩:=qv hfo
      have hlen:fs.length+args.size+cs.length=az9.length:=by
        have:=congrArg List.length hl
        simp at this
        omega
      refine ⟨vs++args.map a.eval++us,?_,by simp [s1,s2]; omega,fun i hlt=>?_⟩
      · simp [execOp,ho,resolve,hv,Deferred.ofValue,invoke,hrun]
      · rw [← hl]
        rcases Nat.lt_or_ge i fs.length with c1 | c1
        · have:=g1 i c1
          simp only [List.getD_eq_getElem?_getD,Array.getD_eq_getD_getElem?] at this ⊢
          rw [Array.getElem?_append_left (by simp; omega),Array.getElem?_append_left (by omega),List.getElem?_append_left (by simp; omega),List.getElem?_append_left c1]
          exact this
        · rcases Nat.lt_or_ge i (fs.length+args.size) with c2 | c2
          · have:=hargs (i - fs.length) (by omega)
            simp only [List.getD_eq_getElem?_getD,Array.getD_eq_getD_getElem?] at this ⊢
            rw [Array.getElem?_append_left (by simp; omega),Array.getElem?_append_right (by omega),List.getElem?_append_left (by simp; omega),List.getElem?_append_right c1,s1]
            exact this
          · have:=g2 (i - (fs.length+args.size)) (by omega)
            simp only [List.getD_eq_getElem?_getD,Array.getD_eq_getD_getElem?] at this ⊢
            rw [Array.getElem?_append_right (by simp; omega),List.getElem?_append_right (by simp; omega)]
            simpa [s1] using this
    · cases hf
  obtain ⟨vs,hexec,hsz,hv⟩:=key
  unfold Oper.wp
  rw [hexec]
  have hln:az9.length=cargs.length:=by rw [hsub.len,aS]
  exact sc.use hnd hm.len (Nat.le_of_ble_eq_true hcl) hm.at_ hi (by rw [hsz,hln]) (fun i hlt=>by
    have:=(hv i (by omega)).sube (hsub.get i (by omega))
    rwa [dv _ cargs i hlt] at this) hok _ fun v w' G' h1 h2 h3=>hn v w' G' h1 h2 h3
end
end Go.Abs
namespace Go.Abs
noncomputable def pr:D→D→Bool
  | .int _ a,.int _ b=>decide (a=b)
  | .bool a,.bool b=>a == b
  | .str a,.str b=>decide (a=b)
  | _,_=>false
noncomputable def bs:List D→List D→Bool
  | [x],[y]=>pr x y
  | x::xs,y::ys=>pr x y&&bs xs ys
  | _,_=>true
inductive EK where
  | int (k:IntKind) | bool | str
noncomputable def jN (P:Program)(t:TypeId):Option EK:=match P.underlying t with
  | some (.int k)=>some (.int k)
  | some .bool=>some .bool
  | some .string=>some .str
  | _=>none
noncomputable def mo:EK→D→Bool
  | .int k,.int k' _=>decide (k=k')
  | .bool,.bool _=>true
  | .str,.str _=>true
  | _,_=>false
noncomputable def cx:List EK→List D→Bool
  | [],[]=>true
  | k::ks,d::ds=>mo k d&&cx ks ds
  | _,_=>false
noncomputable def oN (P:Program):List Field→Nat→Option (List EK)
  | [],_=>some []
  | f::fs,i=>match jN P f.type,decide (f.offset=i),decide (f.name = "_"),oN P fs (i+1) with
    | some k,true,false,some ks=>some (k::ks)
    | _,_,_,_=>none
noncomputable def sK (P:Program)(t:TypeId):Option (List EK):=match P.underlying t,P.stoodInHeld t,P.eqGuardType P.depth t with
  | some (.struct fs),false,false=>oN P fs.toList 0
  | _,_,_=>none
section
variable {P:Program}{w:World}
theorem ud {t:TypeId}{k:EK}(hk:jN P t=some k){I:Nat→Nat→Option Value}{v u:Value}{x y:D}(hx:mo k x=true)(hy:mo k y=true)(hv:RD I v x)(hu:RD I u y)(d:Nat):(Op.equalIn (d+1) t v u).run P w = .ok (pr x y) w:=by
  unfold jN at hk
  split at hk <;> first | (cases hk; done) | skip
  all_goals
    cases hk
    rename_i h
    cases x <;> simp [mo] at hx
    cases y <;> simp [mo] at hy
    cases hv
    cases hu
  · subst hx hy
    rw [run_equalIn_int w d t _ _ _ _ h]
    rfl
  · rw [run_equalIn_bool w d t _ _ h]; rfl
  · rw [run_equalIn_string w d t _ _ h,lK]; rfl
theorem iO {t:TypeId}{k:EK}(hk:jN P t=some k){cs:Array Value}{off:Nat}{v:Value}(h:cs[off]? = some v):(part t cs off).run P w = .ok v w:=by
  have ha:(isAgg t).run P w = .ok false w:=by
    unfold jN at hk
    split at hk <;> first | (cases hk; done) | skip
    all_goals
      rename_i hh
      simp [isAgg,run_underlying hh]
  unfold part
  simp [ha,h]
theorem jO {I:Nat→Nat→Option Value}{xs ys:Array Value}(d:Nat):∀ (fs:List Field) (i:Nat) (ks:List EK) (ds es:List D),oN P fs i=some ks→cx ks ds=true→cx ks es=true→
    (∀ j,j < ds.length→RD I (xs.getD (i+j) undef) (ds.getD j default)∧i+j < xs.size)→(∀ j,j < es.length→RD I (ys.getD (i+j) undef) (es.getD j default)∧i+j < ys.size)→
    (Op.eqFields (d+1) xs ys fs).run P w = .ok (bs ds es) w
  | [],i,ks,ds,es,h1,h2,h3,_,_=>by
    simp [oN] at h1
    subst h1
    cases ds <;> simp [cx] at h2
    cases es <;> simp [cx] at h3
    simp [Op.eqFields,bs]
  | f::fs,i,ks,ds,es,h1,h2,h3,hx,hy=>by
    simp only [oN] at h1
    split at h1
    · rename_i k ks' e1 e2 e3 e4
      cases h1
      cases ds with
      | nil=>simp [cx] at h2
      | cons x ds=>
        cases es with
        | nil=>simp [cx] at h3
        | cons y es=>
          simp only [cx,Bool.and_eq_true] at h2 h3
          have e2':=of_decide_eq_true e2
          have e3':=of_decide_eq_false e3
          obtain ⟨x1,x2⟩:=hx 0 (by simp)
          obtain ⟨y1,y2⟩:=hy 0 (by simp)
          simp only [Nat.add_zero,List.getD_cons_zero] at x1 x2 y1 y2
          have xa:xs[i]? = some (xs.getD i undef):=by simp [Array.getD_eq_getD_getElem?,x2]
          have ya:ys[i]? = some (ys.getD i undef):=by simp [Array.getD_eq_getD_getElem?,y2]
          have ih:=jO (I:=I) (xs:=xs) (ys:=ys) d fs (i+1) ks' ds es e4 h2.2 h3.2 (fun j hj=>by
            have:=hx (j+1) (by simpa using hj)
            rwa [show i+(j+1)=i+1+j by omega,List.getD_cons_succ] at this) (fun j hj=>by
            have:=hy (j+1) (by simpa using hj)
            rwa [show i+(j+1)=i+1+j by omega,List.getD_cons_succ] at this)
          simp only [Op.eqFields]
          rw [if_pos (show f.name≠ "_" from e3')]
          rw [e2']
          simp only [Sem.run_bind,iO e1 xa,iO e1 ya,Result.andThen_ok,ud e1 h2.1 h3.1 x1 y1]
          cases ds with
          | nil=>
            cases es with
            | cons y' es=>cases ks' <;> simp [cx] at h2 h3
            | nil=>
              simp only [bs] at ih ⊢
              cases hb:pr x y
              · simp
              · simp only [Bool.not_true,Bool.false_eq_true,if_false]; exact ih
          | cons x' ds=>
            cases es with
            | nil=>cases ks' <;> simp [cx] at h2 h3
            | cons y' es=>
              have e5:bs (x::x'::ds) (y::y'::es)=(pr x y&&bs (x'::ds) (y'::es)):=rfl
              rw [e5]
              cases hb:pr x y
              · simp
              · simp only [Bool.not_true,Bool.false_eq_true,if_false,Bool.true_and]; exact ih
    · cases h1
variable {o:Oper}{ts:List (Nat×AV)}{h:List ak}
theorem uc {t:TypeId}{ks:List EK}(ht:sK P t=some ks){G:Gh}{v u:Value}{ds es:List D}(hv:RV G v (.agg (ds.map .d)))(hu:RV G u (.agg (es.map .d)))(h1:cx ks ds=true)(h2:cx ks es=true) :
    ∃ xs ys,v = .agg xs∧u = .agg ys∧P.eqGuardType P.depth t=false∧(Op.equalIn 10000 t (.agg xs) (.agg ys)).run P w = .ok (bs ds es) w:=by
  unfold sK at ht
  split at ht
  · rename_i fs e1 e2 e3
    obtain ⟨xs,rfl,xl,xr⟩:=nL hv
    obtain ⟨ys,rfl,yl,yr⟩:=nL hu
    refine ⟨xs,ys,rfl,rfl,e3,?_⟩
    have hf:P.fieldsOf t=fs:=by simp [Program.fieldsOf,e1]
    have hd:∀ (l:List D) (j:Nat),j < l.length→(l.map AV.d).getD j default = .d (l.getD j default):=fun l j hj=>by simp [List.getD_eq_getElem?_getD,hj]
    rw [run_equalIn_struct w 9999 t xs ys (by rw [hf]; exact e1) e2,hf]
    refine jO (I:=G.I) 9998 fs.toList 0 ks ds es ht h1 h2 (fun j hj=>?_) (fun j hj=>?_)
    · have:=xr j (by simpa using hj)
      rw [hd _ _ hj] at this
      rw [Nat.zero_add]
      exact ⟨gu this,by rw [xl]; simpa using hj⟩
    · have:=yr j (by simpa using hj)
      rw [hd _ _ hj] at this
      rw [Nat.zero_add]
      exact ⟨gu this,by rw [yl]; simpa using hj⟩
  · cases ht
theorem ae.eqlA {t t':TypeId}{x y:Operand}{ks:List EK}(ds es:List D)(ho:o.op = .binOp .eql t x y t')(hx:ax ts x = .agg (ds.map .d))(hy:ax ts y = .agg (es.map .d))(ht:sK P t=some ks)(h1:cx ks ds=true)(h2:cx ks es=true) :
    ae P o ts h (.d (.bool (bs ds es))) h:=
  ae.same fun G a w hi hr=>by
    obtain ⟨xs,ys,e1,e2,e3,e4⟩:=uc (w:=w) ht (hr.ev_of hx) (hr.ev_of hy) h1 h2
    refine ⟨.bool (bs ds es),?_,.d (.bool _)⟩
    simp only [execOp,ho,e1,e2,Sem.run_bind,run_eqGuard_agg w .eql t x y xs ys e3,Result.andThen_ok,run_eql_struct,e4,Sem.run_pure]
theorem ae.neqA {t t':TypeId}{x y:Operand}{ks:List EK}(ds es:List D)(ho:o.op = .binOp .neq t x y t')(hx:ax ts x = .agg (ds.map .d))(hy:ax ts y = .agg (es.map .d))(ht:sK P t=some ks)(h1:cx ks ds=true)(h2:cx ks es=true) :
    ae P o ts h (.d (.bool (!bs ds es))) h:=
  ae.same fun G a w hi hr=>by
    obtain ⟨xs,ys,e1,e2,e3,e4⟩:=uc (w:=w) ht (hr.ev_of hx) (hr.ev_of hy) h1 h2
    refine ⟨.bool (!bs ds es),?_,.d (.bool _)⟩
    simp only [execOp,ho,e1,e2,Sem.run_bind,run_eqGuard_agg w .neq t x y xs ys e3,Result.andThen_ok,run_neq_struct,e4,Sem.run_pure]
end
end Go.Abs
namespace Go.Abs
theorem qZ {I:Nat→Nat→Option Value}{v:Value}{k:IntKind}{n:Int}(h:RD I v (.int k n)):v = .int k n:=by cases h; rfl
theorem oq:∀ (l:List Value) (r:List Value),l.length=r.length→(∀ i,i < r.length→l.getD i undef=r.getD i undef)→l=r
  | [],[],_,_=>rfl
  | [],_::_,h,_=>by simp at h
  | _::_,[],h,_=>by simp at h
  | x::l,y::r,h,g=>by
    have h0:x=y:=by simpa using g 0 (by simp)
    have ht:=oq l r (by simpa using h) fun i hi=>by simpa using g (i+1) (by simpa using hi)
    rw [h0,ht]
theorem uX {vs:Array Value}{r:List Value}(h:vs.size=r.length)(g:∀ i,i < r.length→vs.getD i undef=r.getD i undef):vs=r.toArray:=by
  apply Array.ext'
  refine oq _ _ (by simpa using h) fun i hi=>?_
  have:=g i hi
  simpa [List.getD_eq_getElem?_getD,Array.getD_eq_getD_getElem?] using this
theorem Inv.nilrow {G:Gh}{h:List ak}{w:World}(hi:Inv G h w)(sz:Nat)(hz:0 < sz)(ex:Bool)(get:Nat→Nat→D) :
    ∃ G1,G1.ρ h.length=some (0,0,0)∧Inv G1 (h++[.live (.arr sz 0 ex get)]) w∧d5 G h w G1 (h++[.live (.arr sz 0 ex get)]) w:=by
  let G1:Gh:=⟨G.I,fun i=>if i=h.length then some (0,0,0) else G.ρ i,G.tab⟩
  have hold:∀ i,i < h.length→G1.ρ i=G.ρ i:=fun i hl=>by simp [G1,Nat.ne_of_lt hl]
  have hnew:G1.ρ h.length=some (0,0,0):=by simp [G1]
  have hle:G.Le G1:=⟨fun _ _ _ x=>x,fun i p x=>by
    have:i≠h.length:=by rintro rfl; rw [hi.fresh _ (Nat.le_refl _)] at x; cases x
    simp [G1,this,x]⟩
  have hsplit:∀ (i:Nat) (s:ak),(h++[ak.live (.arr sz 0 ex get)])[i]? = some s→(i < h.length∧h[i]? = some s)∨(i=h.length∧s = .live (.arr sz 0 ex get)):=by
    intro i s hx
    rcases Nat.lt_trichotomy i h.length with h1 | h1 | h1
    · rw [List.getElem?_append_left h1] at hx; exact .inl ⟨h1,hx⟩
    · subst h1; rw [List.getElem?_append_right (Nat.le_refl _)] at hx; simp at hx; exact .inr ⟨rfl,hx.symm⟩
    · rw [List.getElem?_eq_none (by simp; omega)] at hx; cases hx
  have hno:∀ b k,¬ bX (0,0,0) (.arr sz 0 ex get) b k:=fun b k f=>by
    have:=f.2.2
    simp at this
  have hfoot:∀ b k,cN G1 (h++[.live (.arr sz 0 ex get)]) b k→cN G h b k:=by
    rintro b k ⟨i,ob,p,h1,h2,h3⟩
    rcases hsplit i _ h1 with ⟨a1,a2⟩ | ⟨rfl,a2⟩
    · exact ⟨i,ob,p,a2,by rw [← hold i a1]; exact h2,h3⟩
    · cases a2; rw [hnew] at h2; cases h2; exact absurd h3 (hno b k)
  refine ⟨G1,hnew,⟨hi.imm,fun i ob hx=>?_,fun i hl=>?_,fun i hx=>?_,?_,?_⟩,⟨hle,bd.refl _ _,fun _ _ _ x=>.inl x,fun b k x=>.inl (hfoot b k x)⟩⟩
  · rcases hsplit i _ hx with ⟨a1,a2⟩ | ⟨rfl,a2⟩
    · obtain ⟨p,b1,b2⟩:=hi.obj i ob a2
      exact ⟨p,by rw [hold i a1]; exact b1,b2.frame (F:=fun _ _=>False) (bd.refl _ _) hle (fun _ _ _ x=>x)⟩
    · cases a2
      refine ⟨_,hnew,.inr rfl,fun i hi=>by omega,fun k h1 h2=>?_,by simp,fun _=>by simp,hz⟩
      simp at h2
  · simp at hl
    rw [show G1.ρ i=G.ρ i by simp [G1]; omega]
    exact hi.fresh i (by omega)
  · rcases hsplit i _ hx with ⟨a1,a2⟩ | ⟨_,a2⟩
    · rw [hold i a1]; exact hi.resv i a2
    · cases a2
  · intro i1 o1 p1 i2 o2 p2 hne h1 h2 h3 h4 b k f1 f2
    rcases hsplit i1 _ h1 with ⟨a1,a2⟩ | ⟨rfl,a2⟩
    · rcases hsplit i2 _ h3 with ⟨b1,b2⟩ | ⟨rfl,b2⟩
      · rw [hold i1 a1] at h2; rw [hold i2 b1] at h4
        exact hi.disj i1 o1 p1 i2 o2 p2 hne a2 h2 b2 h4 b k f1 f2
      · cases b2; rw [hnew] at h4; cases h4; exact hno b k f2
    · cases a2; rw [hnew] at h2; cases h2; exact hno b k f1
  · intro i ob p h1 h2 b k f1
    rcases hsplit i _ h1 with ⟨a1,a2⟩ | ⟨rfl,a2⟩
    · rw [hold i a1] at h2; exact hi.free i ob p a2 h2 b k f1
    · cases a2; rw [hnew] at h2; cases h2; exact absurd f1 (hno b k)
section
variable {P:Program}{o:Oper}{ts:List (Nat×AV)}{h:List ak}
theorem ae.appN {α:Type}[Inhabited α](enc:α→List D)(ys:List α){x y:Operand}{t t2 e:TypeId}{g:Bool}{sz bytes:Nat}(ho:o.op = .call { callee:=.builtin .append,args:=#[x,y],argTypes:=#[t,t2] })
    (hx:ax ts x = .nsl) (hy:ax ts y = .d (af sz enc ys)) (hs:cy P t=some (e,g,sz)) (hin:dz P e=some (sz,bytes)) (ht2:cj P t2=true) (hb0:Nat.blt 0 bytes=true) (hz0:Nat.blt 0 sz=true) (hb:ys.length*bytes≤140737488355328) :
    ae P o ts h (.osl (h.length+1) 0 ys.length sz) (h++[.freed,.live (.arr sz ys.length false (row enc ys))]):=
  ae.value fun G a w hi hr=>by
    have hz:0 < sz:=by simpa using hz0
    obtain ⟨G1,h1,h2,h3⟩:=hi.nilrow sz hz false (row enc ([]:List α))
    obtain ⟨news,g1,g2⟩:=qh (P:=P) h2 ht2 hz ((hr.mono h3.le).ev_of hy)
    have hxn:=jB (hr.ev_of hx)
    have hx':RV G1 (a.eval x) (.osl h.length 0 0 sz):=by
      rw [hxn]
      exact .osl none 0 0 sz 0 h1 (by simp) (Nat.le_refl _) (.inr ⟨rfl,rfl⟩)
    obtain ⟨val,w',G',hrun,r1,r2,r3⟩:=iW (ty:=o.type) (gn:=row enc ys) (ex:=false) (N:=0) (get:=row enc ([]:List α)) h2 hx' (by simp) (by simp) hs hin g1 g2 (by rw [Nat.zero_add]; exact hb) (by simpa using hb0) (fun i hi=>by omega) (fun i hi j hj=>by rw [Nat.zero_add])
    have e1:(h++[ak.live (.arr sz 0 false (row enc ([]:List α)))]).set h.length .freed++[.live (.arr sz (0+ys.length) false (row enc ys))]=h++[.freed,.live (.arr sz ys.length false (row enc ys))]:=by
      rw [List.set_append_right _ _ (Nat.le_refl _)]
      simp
    rw [e1] at r2 r3
    refine ⟨val,w',G',eZ ho hrun,?_,r2,h3.trans r3⟩
    simpa using r1
end
end Go.Abs
namespace Go.Abs
mutual
noncomputable def AV.sg (id:Nat)(get:Nat→Nat→D):AV→AV
  | .osl i off n sz=>bif i.beq id then .d (.sl n sz (lB off get)) else .osl i off n sz
  | .agg cs=>.agg (lA id get cs)
  | .tup cs=>.tup (lA id get cs)
  | .clo f fs cs=>.clo f (lA id get fs) (lA id get cs)
  | .rsl es=>.rsl (lA id get es)
  | .rp v=>.rp (v.sg id get)
  | .d x=>.d x
  | .ptr i off=>.ptr i off
  | .eptr i j k sz=>.eptr i j k sz
  | .vp n g=>.vp n g
  | .mp i=>.mp i
  | .nsl=>.nsl
  | .bad=>.bad
noncomputable def lA (id:Nat)(get:Nat→Nat→D):List AV→List AV
  | []=>[]
  | v::cs=>v.sg id get::lA id get cs
end
mutual
noncomputable def AV.okG (id N sz0:Nat):AV→Prop
  | .osl i off n sz=>i=id→off+n≤N∧sz=sz0
  | .agg cs=>kU id N sz0 cs
  | .tup cs=>kU id N sz0 cs
  | .clo f fs cs=>kU id N sz0 fs∧kU id N sz0 cs
  | .rsl es=>kU id N sz0 es
  | .rp v=>v.okG id N sz0
  | _=>True
noncomputable def kU (id N sz0:Nat):List AV→Prop
  | []=>True
  | v::cs=>v.okG id N sz0∧kU id N sz0 cs
end
theorem cP (id get):∀ cs,(lA id get cs).length=cs.length
  | []=>rfl
  | v::cs=>by simp [lA,cP id get cs]
theorem iR (id get):∀ (cs:List AV) (i:Nat),i < cs.length→(lA id get cs).getD i default=(cs.getD i default).sg id get
  | [],i,h=>by simp at h
  | c::cs,0,h=>by simp [lA]
  | c::cs,i+1,h=>by simpa [lA] using iR id get cs i (by simpa using h)
theorem gX {id N sz0}:∀ (cs:List AV) (i:Nat),kU id N sz0 cs→i < cs.length→(cs.getD i default).okG id N sz0
  | [],i,_,h=>by simp at h
  | c::cs,0,ho,h=>by simp only [kU] at ho; simpa using ho.1
  | c::cs,i+1,ho,h=>by simp only [kU] at ho; simpa using gX cs i ho.2 (by simpa using h)
theorem RV.sg {G G':Gh}(hG:G.Le G'){id N sz0:Nat}{get:Nat→Nat→D}(hs:∀ v off n,RV G v (.osl id off n sz0)→off+n≤N→RV G' v (.d (.sl n sz0 (lB off get)))){v:Value}{x:AV}(h:RV G v x)(ho:x.okG id N sz0):RV G' v (x.sg id get):=by
  induction h with
  | d h=>exact .d (h.mono hG.I)
  | agg vs cs hl h ih=>exact .agg vs _ (by rw [hl,cP]) fun i hi=>by rw [cP] at hi; rw [iR _ _ cs i hi]; exact ih i hi (gX cs i (by simpa only [AV.okG] using ho) hi)
  | tup vs cs hl h ih=>exact .tup vs _ (by rw [hl,cP]) fun i hi=>by rw [cP] at hi; rw [iR _ _ cs i hi]; exact ih i hi (gX cs i (by simpa only [AV.okG] using ho) hi)
  | ptr off h=>exact .ptr off (hG.ρ _ _ h)
  | eptr i k sz h=>exact .eptr i k sz (hG.ρ _ _ h)
  | vp b o u hI hr=>exact .vp b o u (fun j hj=>hG.I _ _ _ (hI j hj)) (fun j hj=>(hr j hj).mono hG.I)
  | osl ad off n sz c h hc hn had=>
    rename_i i0 b o e
    simp only [AV.sg]
    cases hb:i0.beq id with
    | false=>exact .osl ad off n sz c (hG.ρ _ _ h) hc hn had
    | true=>
      obtain rfl:=Nat.eq_of_beq_eq_true hb
      simp only [AV.okG] at ho
      obtain ⟨h1,rfl⟩:=ho trivial
      exact hs _ off n (.osl ad off n sz c h hc hn had) h1
  | mp h=>exact .mp (hG.ρ _ _ h)
  | clo f vs us fs cs hl h hl' h' ih ih'=>
    simp only [AV.okG] at ho
    exact .clo f vs us _ _ (by rw [hl,cP]) (fun i hi=>by rw [cP] at hi; rw [iR _ _ fs i hi]; exact ih i hi (gX fs i ho.1 hi)) (by rw [hl',cP]) (fun i hi=>by rw [cP] at hi; rw [iR _ _ cs i hi]; exact ih' i hi (gX cs i ho.2 hi))
  | nsl=>exact .nsl
  | rsl b o c us es hl hc hI h ih=>
    have e:es.length=(lA id get es).length:=(cP _ _ _).symm
    simp only [AV.okG] at ho
    simp only [AV.sg]
    rw [e]
    exact .rsl b o c us _ (by rw [hl,e]) (by rw [← e]; exact hc) (fun i hi=>by rw [← e] at hi; exact hG.I _ _ _ (hI i hi)) (fun i hi=>by rw [← e] at hi; rw [iR _ _ es i hi]; exact ih i hi (gX es i ho hi))
  | rp b o u hI h ih=>exact .rp b o u (hG.I _ _ _ hI) (ih (by simpa only [AV.okG] using ho))
  | bad v=>exact .bad v
noncomputable def fb (id:Nat)(get:Nat→Nat→D):ak→ak
  | .live (.var cs)=>.live (.var (lA id get cs))
  | s=>s
noncomputable def uw (id N sz0:Nat):ak→Prop
  | .live (.var cs)=>kU id N sz0 cs
  | _=>True
noncomputable def tE (id:Nat)(get:Nat→Nat→D):List (Nat×AV)→List (Nat×AV)
  | []=>[]
  | (i,v)::ts=>(i,v.sg id get)::tE id get ts
noncomputable def vq (id N sz0:Nat):List (Nat×AV)→Prop
  | []=>True
  | (_,v)::ts=>v.okG id N sz0∧vq id N sz0 ts
noncomputable def qd (id:Nat)(get:Nat→Nat→D):List ak→List ak
  | []=>[]
  | s::h=>fb id get s::qd id get h
noncomputable def xJ (id N sz0:Nat):List ak→Prop
  | []=>True
  | s::h=>uw id N sz0 s∧xJ id N sz0 h
theorem qM (id get):∀ (h:List ak) (i:Nat),(qd id get h)[i]? = (h[i]?).map (fb id get)
  | [],i=>by simp [qd]
  | s::h,0=>by simp [qd]
  | s::h,i+1=>by simpa [qd] using qM id get h i
theorem jz (id get):∀ h,(qd id get h).length=h.length
  | []=>rfl
  | s::h=>by simp [qd,jz id get h]
theorem tf {id N sz0}:∀ (h:List ak) (i:Nat) (s:ak),xJ id N sz0 h→h[i]? = some s→uw id N sz0 s
  | [],i,s,_,h=>by simp at h
  | x::hs,0,s,ho,h=>by simp at h; subst h; exact ho.1
  | x::hs,i+1,s,ho,h=>tf hs i s ho.2 (by simpa using h)
theorem q9 (id get):∀ (ts:List (Nat×AV)) (i:Nat) (v:AV),look (tE id get ts) i=some v→∃ u,look ts i=some u∧v=u.sg id get
  | [],i,v,h=>by simp [tE,look] at h
  | (k,u)::ts,i,v,h=>by
    simp only [tE,look] at h ⊢
    cases hb:k.beq i with
    | true=>rw [hb] at h; simp at h; exact ⟨u,by simp,h.symm⟩
    | false=>rw [hb] at h; simpa using q9 id get ts i v (by simpa using h)
theorem pL {id N sz0}:∀ (ts:List (Nat×AV)) (i:Nat) (v:AV),vq id N sz0 ts→look ts i=some v→v.okG id N sz0
  | [],i,v,_,h=>by simp [look] at h
  | (k,u)::ts,i,v,ho,h=>by
    simp only [look] at h
    cases hb:k.beq i with
    | true=>rw [hb] at h; simp at h; subst h; exact ho.1
    | false=>rw [hb] at h; exact pL ts i v ho.2 (by simpa using h)
theorem GStep.shutG {m:Nat}{s:St}(id:Nat){sz N:Nat}{ex:Bool}{get:Nat→Nat→D}(hh:s.h[id]? = some (.live (.arr sz N ex get)))(h1:vq id N sz s.ts)(h2:xJ id N sz s.h):GStep m s ⟨tE id get s.ts,(qd id get s.h).set id .freed⟩:=by
  intro G a w hi hr
  obtain ⟨⟨b,o,e⟩,hρ,hobj⟩:=hi.obj id _ hh
  obtain ⟨hb,hc,hk,hle,hex,hz⟩:=hobj
  simp only at hb hc hk hle
  have hlt:=eV hh
  let G':Gh:=⟨fun b' k=>if b'=b∧o≤k∧k < o+N*sz then w.cell? ⟨b,k,none⟩ else G.I b' k,G.ρ,fun b' k v ht=>by
    show (if _ then _ else _)=_
    by_cases hcd:b'=b∧o≤k∧k < o+N*sz
    · rw [if_pos hcd,← hi.imm _ _ _ (G.tab _ _ _ ht),hcd.1]
    · rw [if_neg hcd]; exact G.tab _ _ _ ht⟩
  have hfree:∀ k,o≤k→k < o+N*sz→G.I b k=none:=fun k hk' hk2=>hi.free id _ _ hh hρ b k ⟨rfl,hk',by show k < e; omega⟩
  have hGle:G.Le G':=⟨fun b' k v x=>by
    show (if _ then _ else _)=_
    by_cases hcd:b'=b∧o≤k∧k < o+N*sz
    · obtain ⟨rfl,h3,h4⟩:=hcd
      rw [hfree k h3 h4] at x; cases x
    · rw [if_neg hcd]; exact x,fun _ _ x=>x⟩
  have hcellI:∀ k v,o≤k→k < o+N*sz→w.cell? ⟨b,k,none⟩=some v→G'.I b k=some v:=fun k v h3 h4 h5=>by
    show (if _ then _ else _)=_
    rw [if_pos ⟨rfl,h3,h4⟩]; exact h5
  have hseal:∀ v x,RV G v x→x.okG id N sz→RV G' v (x.sg id get):=fun v x hv hk=>RV.sg hGle (fun v off n hv hN=>by
    obtain ⟨b1,o1,e1,c,ad,hρ1,rfl,hcap,hnc,had⟩:=hD hv
    rw [hρ] at hρ1
    cases hρ1
    let u:Nat→Nat→Value:=fun i j=>(w.cell? ⟨b,o+(off+i)*sz+j,none⟩).getD undef
    have hu:∀ i,i < n→∀ j,j < sz→w.cell? ⟨b,o+(off+i)*sz+j,none⟩=some (u i j)∧(u i j).oneCell'=true∧RD G.I (u i j) (get (off+i) j):=fun i hi' j hj=>by
      obtain ⟨v,g1,g2,g3⟩:=hc (off+i) (by omega) j hj
      have g1':w.cell? ⟨b,o+(off+i)*sz+j,none⟩=some v:=g1
      simp only [u,g1',Option.getD_some]
      exact ⟨trivial,g2,g3⟩
    rw [rH]
    rcases had with rfl | ⟨rfl,rfl⟩
    case inr=>
      obtain rfl:n=0:=by omega
      exact .d (.sl0 _ _ _ _)
    refine .d (.sl b (o+off*sz) n c sz _ u hnc (fun i hi' j hj=>?_) (fun i hi' j hj=>(hu i hi' j hj).2.1) (fun i hi' j hj=>(hu i hi' j hj).2.2.mono hGle.I))
    have e1:o+off*sz+i*sz+j=o+(off+i)*sz+j:=by rw [Nat.add_mul]; omega
    rw [e1]
    have hlt2:=ja (n:=N) (i:=off+i) (by omega) hj
    exact hcellI _ _ (by omega) (by omega) (hu i hi' j hj).1) hv hk
  have hslot:∀ i ob,((qd id get s.h).set id .freed)[i]? = some (.live ob)→i≠id∧∃ ob0,s.h[i]? = some (.live ob0)∧ak.live ob=fb id get (.live ob0):=by
    intro i ob hx
    by_cases ei:i=id
    · subst ei
      rw [List.getElem?_set_self (by rw [jz]; exact hlt)] at hx
      cases hx
    · rw [List.getElem?_set_ne (Ne.symm ei),qM] at hx
      obtain ⟨s0,g1,g2⟩:=Option.map_eq_some_iff.1 hx
      cases s0 with
      | live ob0=>exact ⟨ei,ob0,g1,g2.symm⟩
      | freed=>simp [fb] at g2
      | resv=>simp [fb] at g2
  have hfoot:∀ ob ob0 p,ak.live ob=fb id get (.live ob0)→bX p ob=bX p ob0:=by
    intro ob ob0 p he
    cases ob0 with
    | var cs=>simp [fb] at he; subst he; funext b k; simp [bX,cP]
    | arr a b c d=>simp [fb] at he; subst he; rfl
    | mp es=>simp [fb] at he; subst he; rfl
  refine ⟨G',⟨fun b' k v x=>?_,fun i ob hx=>?_,fun i hl=>hi.fresh i (by simpa [jz] using hl),fun i hx=>?_,?_,?_⟩,fun i v hl=>?_,⟨bd.refl _ _,hGle.I,fun b' k v x=>?_,?_,fun i p _ x=>x⟩⟩
  · have x':(if b'=b∧o≤k∧k < o+N*sz then w.cell? ⟨b,k,none⟩ else G.I b' k)=some v:=x
    by_cases hcd:b'=b∧o≤k∧k < o+N*sz
    · rw [if_pos hcd] at x'; rw [hcd.1]; exact x'
    · rw [if_neg hcd] at x'; exact hi.imm b' k v x'
  · obtain ⟨hne,ob0,g1,g2⟩:=hslot i ob hx
    obtain ⟨p,g3,g4⟩:=hi.obj i ob0 g1
    refine ⟨p,g3,?_⟩
    cases ob0 with
    | var cs=>
      simp [fb] at g2; subst g2
      refine ⟨g4.1,fun j hj=>?_⟩
      rw [cP] at hj
      obtain ⟨v,c1,c2,c3⟩:=g4.2 j hj
      exact ⟨v,c1,c2,by rw [iR id get cs j hj]; exact hseal v _ c3 (gX cs j (tf s.h i _ h2 g1) hj)⟩
    | arr a b c d=>simp [fb] at g2; subst g2; exact g4.frame (F:=fun _ _=>False) (bd.refl _ _) hGle (fun _ _ _ x=>x)
    | mp es=>simp [fb] at g2; subst g2; exact g4.frame (F:=fun _ _=>False) (bd.refl _ _) hGle (fun _ _ _ x=>x)
  · by_cases ei:i=id
    · subst ei
      rw [List.getElem?_set_self (by rw [jz]; exact hlt)] at hx
      cases hx
    · rw [List.getElem?_set_ne (Ne.symm ei),qM] at hx
      obtain ⟨s0,g1,g2⟩:=Option.map_eq_some_iff.1 hx
      cases s0 with
      | live ob0=>cases ob0 <;> simp [fb] at g2
      | freed=>simp [fb] at g2
      | resv=>exact hi.resv i g1
  · intro i1 o1 p1 i2 o2 p2 hne g1 g2 g3 g4 b' k f1 f2
    obtain ⟨_,q1,a1,a2⟩:=hslot i1 o1 g1
    obtain ⟨_,q2,b1,b2⟩:=hslot i2 o2 g3
    rw [hfoot _ _ _ a2] at f1
    rw [hfoot _ _ _ b2] at f2
    exact hi.disj i1 q1 p1 i2 q2 p2 hne a1 g2 b1 g4 b' k f1 f2
  · intro i1 o1 p1 g1 g2 b' k f1
    obtain ⟨hne,q1,a1,a2⟩:=hslot i1 o1 g1
    rw [hfoot _ _ _ a2] at f1
    show (if b'=b∧o≤k∧k < o+N*sz then w.cell? ⟨b,k,none⟩ else G.I b' k)=none
    rw [if_neg (fun hcd=>hi.disj i1 q1 p1 id _ _ hne a1 g2 hh hρ b' k f1 ⟨hcd.1,hcd.2.1,by show k < e; omega⟩)]
    exact hi.free i1 q1 p1 a1 g2 b' k f1
  · obtain ⟨u,g1,rfl⟩:=q9 _ _ _ _ _ hl
    exact hseal _ _ (hr i u g1) (pL s.ts i u h1 g1)
  · have x':(if b'=b∧o≤k∧k < o+N*sz then w.cell? ⟨b,k,none⟩ else G.I b' k)=some v:=x
    by_cases hcd:b'=b∧o≤k∧k < o+N*sz
    · exact .inr (.inl ⟨id,_,_,hh,hρ,hcd.1,hcd.2.1,by show k < e; omega⟩)
    · rw [if_neg hcd] at x'; exact .inl x'
  · rintro b' k ⟨i1,o1,p1,g1,g2,f1⟩
    obtain ⟨_,q1,a1,a2⟩:=hslot i1 o1 g1
    rw [hfoot _ _ _ a2] at f1
    exact .inl ⟨i1,q1,p1,a1,g2,f1⟩
theorem GStep.own {m:Nat}{s:St}(id c sz:Nat){cs:List AV}(get:Nat→Nat→D)(hh:s.h[id]? = some (.live (.var cs)))(hc:cs[c]? = some .nsl)(hz:Nat.blt 0 sz=true) :
    GStep m s ⟨s.ts,s.h.set id (.live (.var (cs.set c (.osl s.h.length 0 0 sz))))++[.live (.arr sz 0 false get)]⟩:=by
  intro G a w hi hr
  have hz':0 < sz:=by simpa using hz
  obtain ⟨G1,h1,h2,h3⟩:=hi.nilrow sz hz' false get
  have hlt:=eV hh
  have hclt:=(List.getElem?_eq_some_iff.1 hc).1
  have hh1:(s.h++[ak.live (.arr sz 0 false get)])[id]? = some (.live (.var cs)):=by rw [List.getElem?_append_left hlt]; exact hh
  obtain ⟨p,q1,q2⟩:=h2.obj id _ hh1
  have hnew:bH G1 w p (.var (cs.set c (.osl s.h.length 0 0 sz))):=by
    refine ⟨q2.1,fun i hi'=>?_⟩
    rw [List.length_set] at hi'
    obtain ⟨v,k1,k2,k3⟩:=q2.2 i hi'
    refine ⟨v,k1,k2,?_⟩
    rw [lO]
    by_cases e:c=i∧c < cs.length
    · rw [if_pos e]
      obtain ⟨rfl,_⟩:=e
      rw [List.getD_eq_getElem?_getD,hc] at k3
      rw [jB k3]
      exact .osl none 0 0 sz 0 h1 (by simp) (Nat.le_refl _) (.inr ⟨rfl,rfl⟩)
    · rw [if_neg e]; exact k3
  obtain ⟨e1,e2⟩:=h2.change hh1 q1 (fun b k f=>by simpa [bX] using f) (bd.refl _ _) hnew
  have e3:(s.h++[ak.live (.arr sz 0 false get)]).set id (.live (.var (cs.set c (.osl s.h.length 0 0 sz))))=s.h.set id (.live (.var (cs.set c (.osl s.h.length 0 0 sz))))++[.live (.arr sz 0 false get)]:=List.set_append_left _ _ hlt
  rw [e3] at e1 e2
  exact ⟨G1,e1,hr.mono h3.le,(h3.trans e2).ext m⟩
section
variable {P:Program}{o:Oper}{ts ts':List (Nat×AV)}{h h':List ak}{v:AV}
theorem ae.unex {sz n:Nat}{get:Nat→Nat→D}(hop:ae P o ts h v (h++[.live (.arr sz n true get)])):ae P o ts h v (h++[.live (.arr sz n false get)]):=by
  intro G a w hi hr next Q hn
  refine hop G a w hi hr next Q fun val w' G' h1 h2 h3=>?_
  have hh:(h++[ak.live (.arr sz n true get)])[h.length]? = some (.live (.arr sz n true get)):=by simp
  obtain ⟨p,q1,q2⟩:=h2.obj _ _ hh
  obtain ⟨e1,e2⟩:=h2.change (ob':=.arr sz n false get) hh q1 (fun _ _ f=>f) (bd.refl _ _) ⟨q2.1,q2.2.1,q2.2.2.1,q2.2.2.2.1,fun x=>by simp at x,q2.2.2.2.2.2⟩
  have e3:(h++[ak.live (.arr sz n true get)]).set h.length (.live (.arr sz n false get))=h++[.live (.arr sz n false get)]:=by simp
  rw [e3] at e1 e2
  exact hn val w' G' h1 e1 (h3.trans e2)
theorem ae.gh (hs:GStep h.length ⟨ts,h⟩ ⟨ts',h'⟩){h2:List ak}(hop:ae P o ts' h' v h2):ae P o ts h v h2:=by
  intro G a w hi hr next Q hn
  obtain ⟨G1,i1,r1,e1⟩:=hs G a w hi hr
  have hle:G.Le G1:=⟨e1.imono,fun id p x=>by
    rcases Nat.lt_or_ge id h.length with c | c
    · exact e1.rmono id p c x
    · rw [hi.fresh id c] at x; cases x⟩
  have ef:d5 G h w G1 h' w:=⟨hle,e1.pres,e1.inew,e1.fnew⟩
  exact hop G1 a w i1 r1 next Q fun val w' G' h1 h2 h3=>hn val w' G' h1 h2 (ef.trans h3)
end
noncomputable def jZ (id n i:Nat):Option Nat:=bif i.beq id then some n else some i
theorem GStep.reid {m:Nat}{s:St}(id:Nat){ob:aQ}(hh:s.h[id]? = some (.live ob)):GStep m s ⟨ma (jZ id s.h.length) s.ts,(s.h.map (ak.tr (jZ id s.h.length))).set id .freed++[(ak.live ob).tr (jZ id s.h.length)]⟩:=by
  intro G a w hi hr
  have hlt:=eV hh
  obtain ⟨p,hp,hob⟩:=hi.obj id ob hh
  let n:=s.h.length
  let G1:Gh:=⟨G.I,fun i=>if i=n then some p else G.ρ i,G.tab⟩
  have hne:∀ i,i < n→G1.ρ i=G.ρ i:=fun i h=>by simp [G1,Nat.ne_of_lt h]
  have hn:G1.ρ n=some p:=by simp [G1]
  have hle:G.Le G1:=⟨fun _ _ _ x=>x,fun i q x=>by
    have:i≠n:=by rintro rfl; rw [hi.fresh _ (Nat.le_refl _)] at x; cases x
    simp [G1,this,x]⟩
  have hτ:∀ j i q,jZ id n j=some i→G.ρ j=some q→G1.ρ i=some q:=fun j i q h1 h2=>by
    unfold jZ at h1
    cases hb:j.beq id with
    | true=>
      rw [hb] at h1
      cases h1
      obtain rfl:=Nat.eq_of_beq_eq_true hb
      rw [hp] at h2; cases h2; exact hn
    | false=>rw [hb] at h1; cases h1; exact hle.ρ _ _ h2
  have hv:∀ v x,RV G v x→RV G1 v (x.tr (jZ id n)):=fun v x h=>RV.tr_out (G:=G1) (Gc:=G) (fun _ _ _ x=>x) hτ h
  have hO:∀ q ob',bH G w q ob'→bH G1 w q (ob'.tr (jZ id n)):=fun q ob' h=>bH.tr_out (G:=G1) (Gc:=G) rfl hτ h
  have fw:∀ i s',((s.h.map (ak.tr (jZ id n))).set id .freed++[(ak.live ob).tr (jZ id n)])[i]? = some s'→(i < n∧i≠id∧∃ s0,s.h[i]? = some s0∧s'=s0.tr (jZ id n))∨(i=id∧s' = .freed)∨(i=n∧s'=(ak.live ob).tr (jZ id n)):=by
    intro i s' hx
    rcases Nat.lt_trichotomy i n with c | c | c
    · rw [List.getElem?_append_left (by simpa using c)] at hx
      by_cases e:i=id
      · subst e
        rw [List.getElem?_set_self (by simpa using c)] at hx
        cases hx
        exact .inr (.inl ⟨rfl,rfl⟩)
      · rw [List.getElem?_set_ne (Ne.symm e),List.getElem?_map] at hx
        obtain ⟨s0,h1,h2⟩:=Option.map_eq_some_iff.1 hx
        exact .inl ⟨c,e,s0,h1,h2.symm⟩
    · subst c
      have hln:((s.h.map (ak.tr (jZ id n))).set id .freed).length=n:=by simp [n]
      rw [List.getElem?_append_right (by omega),hln,Nat.sub_self] at hx
      simp at hx
      exact .inr (.inr ⟨rfl,hx.symm⟩)
    · rw [List.getElem?_eq_none (by simp; omega)] at hx; cases hx
  have hlive:∀ i ob',((s.h.map (ak.tr (jZ id n))).set id .freed++[(ak.live ob).tr (jZ id n)])[i]? = some (.live ob')→∃ j ob0,s.h[j]? = some (.live ob0)∧ob'=ob0.tr (jZ id n)∧G1.ρ i=G.ρ j∧((i=j∧i≠id)∨(i=n∧j=id)):=by
    intro i ob' hx
    rcases fw i _ hx with ⟨c,e,s0,h1,h2⟩ | ⟨_,h2⟩ | ⟨c,h2⟩
    · cases s0 with
      | live ob0=>simp only [ak.tr,ak.live.injEq] at h2; exact ⟨i,ob0,h1,h2,hne i c,.inl ⟨rfl,e⟩⟩
      | freed=>cases h2
      | resv=>cases h2
    · cases h2
    · simp only [ak.tr,ak.live.injEq] at h2
      exact ⟨id,ob,hh,h2,by rw [c,hn,hp],.inr ⟨c,rfl⟩⟩
  refine ⟨G1,⟨hi.imm,fun i ob' hx=>?_,fun i hl=>?_,fun i hx=>?_,?_,?_⟩,fun i v hx=>?_,⟨bd.refl _ _,fun _ _ _ x=>x,fun _ _ _ x=>.inl x,?_,fun i q _ x=>hle.ρ _ _ x⟩⟩
  · obtain ⟨j,ob0,h1,rfl,h3,_⟩:=hlive i ob' hx
    obtain ⟨q,g1,g2⟩:=hi.obj j ob0 h1
    exact ⟨q,by rw [h3]; exact g1,hO _ _ g2⟩
  · have hl':n+1≤i:=by simpa using hl
    have:i≠n:=by omega
    simp only [G1,this,if_false]
    exact hi.fresh i (by omega)
  · rcases fw i _ hx with ⟨c,e,s0,h1,h2⟩ | ⟨_,h2⟩ | ⟨c,h2⟩
    · cases s0 with
      | resv=>rw [hne i c]; exact hi.resv i h1
      | live _=>cases h2
      | freed=>cases h2
    · cases h2
    · cases h2
  · intro i1 o1 p1 i2 o2 p2 hn12 g1 g2 g3 g4 b k f1 f2
    obtain ⟨j1,q1,a1,rfl,a3,a4⟩:=hlive i1 o1 g1
    obtain ⟨j2,q2,b1,rfl,b3,b4⟩:=hlive i2 o2 g3
    rw [cF] at f1 f2
    have hj:j1≠j2:=by
      rcases a4 with ⟨rfl,e1⟩ | ⟨rfl,rfl⟩ <;> rcases b4 with ⟨rfl,e2⟩ | ⟨rfl,rfl⟩
      · exact hn12
      · exact e1
      · exact fun h=>e2 h.symm
      · exact absurd rfl hn12
    exact hi.disj j1 q1 p1 j2 q2 p2 hj a1 (by rw [← a3]; exact g2) b1 (by rw [← b3]; exact g4) b k f1 f2
  · intro i ob' q g1 g2 b k f1
    obtain ⟨j1,q1,a1,rfl,a3,a4⟩:=hlive i ob' g1
    rw [cF] at f1
    exact hi.free j1 q1 q a1 (by rw [← a3]; exact g2) b k f1
  · obtain ⟨u,h1,rfl⟩:=lS _ _ _ _ hx
    exact hv _ _ (hr i u h1)
  · rintro b k ⟨i,ob',q,g1,g2,f1⟩
    obtain ⟨j1,q1,a1,rfl,a3,a4⟩:=hlive i ob' g1
    rw [cF] at f1
    exact .inl ⟨j1,q1,q,a1,by rw [← a3]; exact g2,f1⟩
theorem GStep.see {ts:List (Nat×AV)}{h:List ak}{m:Nat}{t:Nat}{u u':AV}(hl:look ts t=some u)(hs:aF u u'):GStep m ⟨ts,h⟩ ⟨(t,u')::ts,h⟩:=by
  intro G a w hi hr
  refine ⟨G,hi,fun i x hx=>?_,.refl _ _ _ _⟩
  simp only [look] at hx
  cases hb:t.beq i with
  | true=>
    rw [hb] at hx
    simp at hx
    subst hx
    obtain rfl:=Nat.eq_of_beq_eq_true hb
    exact (hr t u hl).sub hs
  | false=>rw [hb] at hx; exact hr i x (by simpa using hx)
theorem GStep.eqv {m:Nat}{s s1 s':St}(e1:s=s1)(e2:s1=s'):GStep m s s':=by
  subst e1 e2
  exact GStep.refl _ _
section
variable {P:Program}{o:Oper}{ts:List (Nat×AV)}{h:List ak}
theorem ae.storeN {α:Type}[Inhabited α](enc:α→List D)(xs:List α)(x':α){N:Nat}(hN:N=xs.length){t:TypeId}{x y:Operand}{id i k sz n:Nat}{g ex:Bool}{v:AV}(ho:o.op = .store t x y)(hx:ax ts x = .eptr id i k sz)(hy:ax ts y=v)(ht:cf P t=some (g,n))(hh:h[id]? = some (.live (.arr sz N ex (row enc xs))))
    (hi:i < N) (hb:v.boxable=true) (hf:(cellsOf v).all AV.flat=true) (hn:(cellsOf v).length=n) (hk:Nat.ble (k+n) sz=true) (hl:(enc (xs.getD i default)).length=sz) (hl':(enc x').length=sz)
    (hnew:dH (dV ((enc (xs.getD i default)).map .d) k (cellsOf v)) ((enc x').map .d)):ae P o ts h .bad (h.set id (.live (.arr sz N ex (row enc (xs.set i x'))))):=by
  subst hN
  have:=ae.storeT enc xs x' ho hx hy ht hh hi hb hf hn hk hl hl' hnew
  rwa [List.length_set] at this
theorem ae.appTn {α:Type}[Inhabited α](enc:α→List D)(xs ys:List α){N:Nat}(hN:N=xs.length){x y:Operand}{t t2 e:TypeId}{g ex:Bool}{id sz bytes:Nat}(ho:o.op = .call { callee:=.builtin .append,args:=#[x,y],argTypes:=#[t,t2] })
    (hx:ax ts x = .osl id 0 N sz) (hh:h[id]? = some (.live (.arr sz N ex (row enc xs)))) (hy:ax ts y = .d (af sz enc ys)) (hs:cy P t=some (e,g,sz)) (hin:dz P e=some (sz,bytes)) (ht2:cj P t2=true)
    (hb0:Nat.blt 0 bytes=true) (hb:(xs.length+ys.length)*bytes≤140737488355328):ae P o ts h (.osl h.length 0 (xs++ys).length sz) (h.set id .freed++[.live (.arr sz (xs++ys).length false (row enc (xs++ys)))]):=by
  subst hN
  exact ae.appT enc xs ys ho hx hh hy hs hin ht2 hb0 hb
end
theorem ab.hp {P:Program}{N m:Nat}{ops:Array Oper}{l:List Oper}{Q:St→Prop}{ts:List (Nat×AV)}{h h':List ak}(e:h=h')(next:ab P N m ops l ⟨ts,h'⟩ Q):ab P N m ops l ⟨ts,h⟩ Q:=e▸next
theorem aM.step {P:Program}{N m n:Nat}{c:Code}{Q:Exit→St→Prop}{s:St}(h:aa P N m c s (n7 (aM P N m c Q n) Q)):aM P N m c Q (n+1) s:=h
end Go.Abs
namespace Go.Abs
noncomputable section
section
variable {P:Program}{o:Oper}{ts:List (Nat×AV)}{h:List ak}{v:AV}
noncomputable def fw (l:List ak)(i:Nat):Option ak:=List.rec (motive:=fun _=>Nat→Option ak) (fun _=>none) (fun x _ ih i=>Nat.rec (motive:=fun _=>Option ak) (some x) (fun n _=>ih n) i) l i
theorem dY:∀ (h:List ak) (i:Nat),fw h i=h[i]?
  | [],i=>by simp; rfl
  | s::h,0=>rfl
  | s::h,i+1=>by
    show fw h i=_
    rw [dY h i]; simp
noncomputable def vy (c a b:AV):Option AV:=match c with
  | .d (.bool true)=>some a
  | .d (.bool false)=>some b
  | _=>none
theorem xS {c x y:Operand}(ho:o.op = .pick c x y)(e:vy (ax ts c) (ax ts x) (ax ts y)=some v):ae P o ts h v h:=by
  unfold vy at e
  split at e <;> cases e
  · exact ae.pickT ho (by assumption) rfl rfl
  · exact ae.pickF ho (by assumption) rfl rfl
noncomputable def pU (P:Program)(t:TypeId)(i:Nat)(x:AV):Option AV:=match gz P t with
  | none=>none
  | some l=>match l[i]? with
    | none=>none
    | some (fo,_,n)=>bif Nat.blt 0 n then (match x with
      | .ptr id off=>some (.ptr id (off+fo))
      | .eptr id j k sz=>some (.eptr id j (k+fo) sz)
      | .vp m get=>some (.vp (m - fo) (fun j=>get (fo+j)))
      | _=>none) else none
theorem rz {t:TypeId}{x:Operand}{i:Nat}(ho:o.op = .fieldAddr t x i)(e:pU P t i (ax ts x)=some v):ae P o ts h v h:=by
  unfold pU at e
  split at e
  · cases e
  · rename_i l hl
    split at e
    · cases e
    · rename_i fo g n hn
      cases hb:Nat.blt 0 n with
      | false=>rw [hb] at e; cases e
      | true=>
        rw [hb] at e
        simp only [cond_true] at e
        split at e <;> cases e
        · exact ae.fieldAddr ho (by assumption) hl hn hb
        · exact ae.fieldAddrE ho (by assumption) hl hn hb
        · exact ae.fieldAddrV ho (by assumption) hl hn hb
noncomputable def vx (x:AV):Option AV:=match x with
  | .ptr id off=>some (.ptr id off)
  | .eptr id j k sz=>some (.eptr id j k sz)
  | .vp m get=>some (.vp m get)
  | .d (.fn f)=>some (.d (.fn f))
  | .clo f fs cs=>some (.clo f fs cs)
  | _=>none
theorem uF {x:Operand}(ho:o.op = .nilCheck x)(e:vx (ax ts x)=some v):ae P o ts h v h:=by
  unfold vx at e
  split at e <;> cases e
  · exact ae.nilCheck ho (by assumption)
  · exact ae.nilCheckE ho (by assumption)
  · exact ae.nilCheckV ho (by assumption)
  · exact ae.nilCheckF ho (by assumption)
  · exact ae.nilCheckC ho (by assumption)
noncomputable def sd (P:Program)(t:TypeId)(h:List ak)(x:AV):Option AV:=match cf P t with
  | none=>none
  | some (g,n)=>match x with
    | .ptr id off=>(match fw h id with
      | some (.live (.var cs))=>bif g then (bif Nat.ble (off+n) cs.length then some (.agg ((cs.drop off).take n)) else none) else cs[off]?
      | _=>none)
    | .vp m get=>bif g then (bif Nat.ble n m then some (.agg (ie get n 0)) else none) else (bif Nat.blt 0 m then some (.d (get 0)) else none)
    | .eptr id i k sz=>(match fw h id with
      | some (.live (.arr sz' N ex get))=>bif sz.beq sz'&&Nat.blt i N then (bif g then (bif Nat.ble (k+n) sz' then some (.agg (ie (fun j=>get i (k+j)) n 0)) else none) else (bif Nat.blt k sz' then some (.d (get i k)) else none)) else none
      | _=>none)
    | .rp u=>bif g then none else some u
    | _=>none
theorem aG {α:Type}{c:Bool}{x:Option α}{r:α}(h:(bif c then x else none)=some r):c=true∧x=some r:=by
  cases c
  · cases h
  · exact ⟨rfl,h⟩
theorem tt {t:TypeId}{x:Operand}(ho:o.op = .load t x)(e:sd P t h (ax ts x)=some v):ae P o ts h v h:=by
  unfold sd at e
  split at e
  · cases e
  · rename_i g n ht
    split at e
    · rename_i id off hx
      split at e
      · rename_i cs hh
        rw [dY] at hh
        cases g with
        | true=>
          simp only [cond_true] at e
          obtain ⟨h1,h2⟩:=aG e
          cases h2
          exact ae.loadA ho hx ht hh h1
        | false=>
          simp only [cond_false] at e
          exact ae.load ho hx ht hh e
      · cases e
    · rename_i m get hx
      cases g with
      | true=>
        simp only [cond_true] at e
        obtain ⟨h1,h2⟩:=aG e
        cases h2
        exact ae.loadVA ho hx ht h1
      | false=>
        simp only [cond_false] at e
        obtain ⟨h1,h2⟩:=aG e
        cases h2
        exact ae.loadV ho hx ht h1
    · rename_i id i k sz hx
      split at e
      · rename_i sz' N ex get hh
        rw [dY] at hh
        obtain ⟨h0,e⟩:=aG e
        simp only [Bool.and_eq_true] at h0
        obtain rfl:=Nat.eq_of_beq_eq_true h0.1
        have hi:i < N:=by simpa using h0.2
        cases g with
        | true=>
          simp only [cond_true] at e
          obtain ⟨h1,h2⟩:=aG e
          cases h2
          exact ae.loadEA ho hx ht hh hi h1
        | false=>
          simp only [cond_false] at e
          obtain ⟨h1,h2⟩:=aG e
          cases h2
          exact ae.loadE ho hx ht hh hi h1
      · cases e
    · rename_i u hx
      cases g with
      | true=>cases e
      | false=>cases e; exact ae.loadR ho hx ht
    · cases e
noncomputable def lZ (P:Program)(t:TypeId)(x y:AV):Option AV:=match cy P t with
  | none=>none
  | some (_,_,sz0)=>match y with
    | .d (.int _ i)=>(match x with
      | .d (.sl n sz get)=>bif sz.beq sz0&&decide (0≤i)&&decide (i < n) then some (.vp sz (fun j=>get i.toNat j)) else none
      | .osl id off n sz=>bif sz.beq sz0&&decide (0≤i)&&decide (i < n) then some (.eptr id (off+i.toNat) 0 sz) else none
      | .rsl es=>bif Nat.beq sz0 1&&decide (0≤i) then (match es[i.toNat]? with | some v=>some (.rp v) | none=>none) else none
      | _=>none)
    | _=>none
theorem jp {t:TypeId}{x y:Operand}(ho:o.op = .indexAddr t x y)(e:lZ P t (ax ts x) (ax ts y)=some v):ae P o ts h v h:=by
  unfold lZ at e
  split at e
  · cases e
  · rename_i e0 g sz0 hs
    split at e
    · rename_i k i hy
      split at e
      · rename_i n sz get hx
        obtain ⟨h0,e2⟩:=aG e
        clear e
        simp only [Bool.and_eq_true,decide_eq_true_eq] at h0
        obtain rfl:=Nat.eq_of_beq_eq_true h0.1.1
        cases e2
        exact ae.index ho hx hy hs h0.1.2 h0.2
      · rename_i id off n sz hx
        obtain ⟨h0,e2⟩:=aG e
        clear e
        simp only [Bool.and_eq_true,decide_eq_true_eq] at h0
        obtain rfl:=Nat.eq_of_beq_eq_true h0.1.1
        cases e2
        exact ae.indexO ho hx hy hs h0.1.2 h0.2
      · rename_i es hx
        obtain ⟨h0,e2⟩:=aG e
        clear e
        simp only [Bool.and_eq_true,decide_eq_true_eq] at h0
        obtain rfl:=Nat.eq_of_beq_eq_true h0.1
        split at e2 <;> cases e2
        rename_i u hu
        refine ae.indexR (i:=i.toNat) (k:=k) ho hx ?_ hs hu
        rw [hy,Int.toNat_of_nonneg h0.2]
      · cases e
    · cases e
noncomputable def tq (P:Program)(t:TypeId)(x y:AV):Option AV:=match x,y with
  | .d (.str s),.d (.int _ i)=>bif (match P.underlying t with | some .string=>true | _=>false)&&decide (0≤i)&&decide (i < s.size) then some (.d (.int .u8 (bM s i.toNat))) else none
  | _,_=>none
theorem mZ {t:TypeId}(h:(match P.underlying t with | some .string=>true | _=>false)=true):P.underlying t=some .string:=by
  split at h
  · assumption
  · cases h
theorem wL {t:TypeId}{x y:Operand}(ho:o.op = .index t x y)(e:tq P t (ax ts x) (ax ts y)=some v):ae P o ts h v h:=by
  unfold tq at e
  split at e
  · rename_i s k i hx hy
    obtain ⟨h0,e⟩:=aG e
    simp only [Bool.and_eq_true,decide_eq_true_eq] at h0
    cases e
    exact ae.indexS ho hx hy (mZ h0.1.1) h0.1.2 h0.2
  · cases e
noncomputable def mH:List AV→Option (List D)
  | []=>some []
  | .d x::l=>(match mH l with | some r=>some (x::r) | none=>none)
  | _::_=>none
theorem iF:∀ {l:List AV} {r:List D},mH l=some r→l=r.map .d
  | [],r,h=>by cases h; rfl
  | .d x::l,r,h=>by
    simp only [mH] at h
    split at h
    · rename_i r' hr'; cases h; simp [iF hr']
    · cases h
  | .agg _::_,_,h | .tup _::_,_,h | .ptr .. :: _,_,h | .eptr .. :: _,_,h | .vp .. :: _,_,h | .osl .. :: _,_,h | .mp _::_,_,h | .clo .. :: _,_,h | .nsl::_,_,h | .rsl _::_,_,h | .rp _::_,_,h | .bad::_,_,h=>by cases h
noncomputable def isBool (P:Program)(t:TypeId):Bool:=match P.underlying t with | some .bool=>true | _=>false
theorem vl {t:TypeId}(h:isBool P t=true):P.underlying t=some .bool:=by
  unfold isBool at h
  split at h
  · assumption
  · cases h
noncomputable def vu (P:Program)(op:BinOp)(t:TypeId)(x y:AV):Option AV:=match x,y with
  | .d (.int k m),.d (.int k' n)=>(xo op k m k' n).map .d
  | .d (.str m),.d (.str n)=>(u4 op m n).map .d
  | .d (.bool m),.d (.bool n)=>bif isBool P t then (match op with | .eql=>some (.d (.bool (m == n))) | .neq=>some (.d (.bool (!(m == n)))) | _=>none) else none
  | .agg xs,.agg ys=>(match sK P t,mH xs,mH ys with
    | some ks,some ds,some es=>bif cx ks ds&&cx ks es then (match op with | .eql=>some (.d (.bool (bs ds es))) | .neq=>some (.d (.bool (!bs ds es))) | _=>none) else none
    | _,_,_=>none)
  | _,_=>none
theorem uD {op:BinOp}{t t':TypeId}{x y:Operand}(ho:o.op = .binOp op t x y t')(e:vu P op t (ax ts x) (ax ts y)=some v):ae P o ts h v h:=by
  unfold vu at e
  split at e
  · rename_i k m k' n hx hy
    obtain ⟨r,hr,rfl⟩:=Option.map_eq_some_iff.1 e
    exact ae.intOp ho hx hy hr
  · rename_i m n hx hy
    obtain ⟨r,hr,rfl⟩:=Option.map_eq_some_iff.1 e
    exact ae.strOp ho hx hy hr
  · rename_i m n hx hy
    obtain ⟨h0,e⟩:=aG e
    have ht:=vl h0
    split at e <;> cases e
    · exact ae.eqlB ho hx hy ht
    · exact ae.neqB ho hx hy ht
  · rename_i xs ys hx hy
    split at e
    · rename_i ks ds es h1 h2 h3
      obtain ⟨h0,e⟩:=aG e
      simp only [Bool.and_eq_true] at h0
      rw [iF h2] at hx
      rw [iF h3] at hy
      split at e <;> cases e
      · exact ae.eqlA ds es ho hx hy h1 h0.1 h0.2
      · exact ae.neqA ds es ho hx hy h1 h0.1 h0.2
    · cases e
  · cases e
noncomputable def yC (op:UnOp)(x:AV):Option AV:=match op,x with
  | .not,.d (.bool b)=>some (.d (.bool (!b)))
  | .neg,.d (.int k n)=>some (.d (.int k (k.wrap (0 - n))))
  | _,_=>none
theorem wM {op:UnOp}{t:TypeId}{x:Operand}(ho:o.op = .unOp op t x)(e:yC op (ax ts x)=some v):ae P o ts h v h:=by
  unfold yC at e
  split at e <;> cases e
  · exact ae.not ho (by assumption)
  · exact ae.neg ho (by assumption)
noncomputable def sb (P:Program)(s t:TypeId)(x:AV):Option AV:=match x with
  | .d (.int _ n)=>bif (P.underlying s).isSome then (match im P t with | some k'=>some (.d (.int k' (k'.wrap n))) | none=>none) else none
  | _=>none
theorem tn {s t:TypeId}{x:Operand}(ho:o.op = .convert s t x)(e:sb P s t (ax ts x)=some v):ae P o ts h v h:=by
  unfold sb at e
  split at e
  · rename_i k n hx
    obtain ⟨h0,e⟩:=aG e
    split at e <;> cases e
    exact ae.convI ho hx h0 (by assumption)
  · cases e
noncomputable def lY (x:AV)(i:Nat):Option AV:=match x with
  | .tup vs=>vs[i]?
  | _=>none
theorem ou {x:Operand}{i:Nat}(ho:o.op = .extract x i)(e:lY (ax ts x) i=some v):ae P o ts h v h:=by
  unfold lY at e
  split at e
  · exact ae.extract ho (by assumption) e
  · cases e
noncomputable def vv (P:Program)(t:TypeId)(x:AV):Option AV:=match x with
  | .d (.str s)=>bif (match P.underlying t with | some .string=>true | _=>false) then some (.d (.int .i64 s.size)) else none
  | .d (.sl n _ _)=>bif (cy P t).isSome then some (.d (.int .i64 n)) else none
  | .osl _ _ n _=>bif (cy P t).isSome then some (.d (.int .i64 n)) else none
  | .nsl=>bif (cy P t).isSome then some (.d (.int .i64 0)) else none
  | .rsl es=>bif (cy P t).isSome then some (.d (.int .i64 es.length)) else none
  | _=>none
theorem uE {x:Operand}{t:TypeId}(ho:o.op = .call { callee:=.builtin .len,args:=#[x],argTypes:=#[t] })(e:vv P t (ax ts x)=some v):ae P o ts h v h:=by
  unfold vv at e
  split at e
  · obtain ⟨h0,e⟩:=aG e
    cases e
    exact ae.lenS ho (by assumption) (mZ h0)
  · obtain ⟨h0,e⟩:=aG e
    obtain ⟨y,hy⟩:=Option.isSome_iff_exists.1 h0
    cases e
    exact ae.len ho (by assumption) hy
  · obtain ⟨h0,e⟩:=aG e
    obtain ⟨y,hy⟩:=Option.isSome_iff_exists.1 h0
    cases e
    exact ae.lenO ho (by assumption) hy
  · obtain ⟨h0,e⟩:=aG e
    obtain ⟨y,hy⟩:=Option.isSome_iff_exists.1 h0
    cases e
    exact ae.lenN ho (by assumption) hy
  · obtain ⟨h0,e⟩:=aG e
    obtain ⟨y,hy⟩:=Option.isSome_iff_exists.1 h0
    cases e
    exact ae.lenR ho (by assumption) hy
  · cases e
end
end
end Go.Abs
namespace Go.Abs
noncomputable section
mutual
noncomputable def AV.sl (id N sz0:Nat)(get:Nat→Nat→D):AV→AV
  | .osl i off n sz=>bif i.beq id&&Nat.ble (off+n) N&&sz.beq sz0 then .d (.sl n sz (lB off get)) else .osl i off n sz
  | .agg cs=>.agg (j9 id N sz0 get cs)
  | .tup cs=>.tup (j9 id N sz0 get cs)
  | .clo f fs cs=>.clo f (j9 id N sz0 get fs) (j9 id N sz0 get cs)
  | .rsl es=>.rsl (j9 id N sz0 get es)
  | .rp v=>.rp (v.sl id N sz0 get)
  | .d x=>.d x
  | .ptr i off=>.ptr i off
  | .eptr i j k sz=>.eptr i j k sz
  | .vp n g=>.vp n g
  | .mp i=>.mp i
  | .nsl=>.nsl
  | .bad=>.bad
noncomputable def j9 (id N sz0:Nat)(get:Nat→Nat→D):List AV→List AV
  | []=>[]
  | v::cs=>v.sl id N sz0 get::j9 id N sz0 get cs
end
theorem cQ (id N sz0 get):∀ cs,(j9 id N sz0 get cs).length=cs.length
  | []=>rfl
  | v::cs=>by simp [j9,cQ id N sz0 get cs]
theorem iT (id N sz0 get):∀ (cs:List AV) (i:Nat),i < cs.length→(j9 id N sz0 get cs).getD i default=(cs.getD i default).sl id N sz0 get
  | [],i,h=>by simp at h
  | c::cs,0,h=>by simp [j9]
  | c::cs,i+1,h=>by simpa [j9] using iT id N sz0 get cs i (by simpa using h)
theorem RV.sl {G G':Gh}(hG:G.Le G'){id N sz0:Nat}{get:Nat→Nat→D}(hs:∀ v off n,RV G v (.osl id off n sz0)→off+n≤N→RV G' v (.d (.sl n sz0 (lB off get)))){v:Value}{x:AV}(h:RV G v x):RV G' v (x.sl id N sz0 get):=by
  induction h with
  | d h=>exact .d (h.mono hG.I)
  | agg vs cs hl h ih=>exact .agg vs _ (by rw [hl,cQ]) fun i hi=>by rw [cQ] at hi; rw [iT _ _ _ _ cs i hi]; exact ih i hi
  | tup vs cs hl h ih=>exact .tup vs _ (by rw [hl,cQ]) fun i hi=>by rw [cQ] at hi; rw [iT _ _ _ _ cs i hi]; exact ih i hi
  | ptr off h=>exact .ptr off (hG.ρ _ _ h)
  | eptr i k sz h=>exact .eptr i k sz (hG.ρ _ _ h)
  | vp b o u hI hr=>exact .vp b o u (fun j hj=>hG.I _ _ _ (hI j hj)) (fun j hj=>(hr j hj).mono hG.I)
  | osl ad off n sz c h hc hn had=>
    rename_i i0 b o e
    simp only [AV.sl]
    cases hb:i0.beq id&&Nat.ble (off+n) N&&sz.beq sz0 with
    | false=>exact .osl ad off n sz c (hG.ρ _ _ h) hc hn had
    | true=>
      simp only [Bool.and_eq_true] at hb
      obtain rfl:=Nat.eq_of_beq_eq_true hb.1.1
      obtain rfl:=Nat.eq_of_beq_eq_true hb.2
      exact hs _ off n (.osl ad off n sz c h hc hn had) (Nat.le_of_ble_eq_true hb.1.2)
  | mp h=>exact .mp (hG.ρ _ _ h)
  | clo f vs us fs cs hl h hl' h' ih ih'=>exact .clo f vs us _ _ (by rw [hl,cQ]) (fun i hi=>by rw [cQ] at hi; rw [iT _ _ _ _ fs i hi]; exact ih i hi) (by rw [hl',cQ]) (fun i hi=>by rw [cQ] at hi; rw [iT _ _ _ _ cs i hi]; exact ih' i hi)
  | nsl=>exact .nsl
  | rsl b o c us es hl hc hI h ih=>
    have e:es.length=(j9 id N sz0 get es).length:=(cQ _ _ _ _ _).symm
    simp only [AV.sl]
    rw [e]
    exact .rsl b o c us _ (by rw [hl,e]) (by rw [← e]; exact hc) (fun i hi=>by rw [← e] at hi; exact hG.I _ _ _ (hI i hi)) (fun i hi=>by rw [← e] at hi; rw [iT _ _ _ _ es i hi]; exact ih i hi)
  | rp b o u hI h ih=>exact .rp b o u (hG.I _ _ _ hI) ih
  | bad v=>exact .bad v
noncomputable def eE (id N sz0:Nat)(get:Nat→Nat→D):ak→ak
  | .live (.var cs)=>.live (.var (j9 id N sz0 get cs))
  | s=>s
noncomputable def qN (id N sz0:Nat)(get:Nat→Nat→D):List (Nat×AV)→List (Nat×AV)
  | []=>[]
  | (i,v)::ts=>(i,v.sl id N sz0 get)::qN id N sz0 get ts
noncomputable def ow (id N sz0:Nat)(get:Nat→Nat→D):List ak→List ak
  | []=>[]
  | s::h=>eE id N sz0 get s::ow id N sz0 get h
theorem n5 (id N sz0 get):∀ (h:List ak) (i:Nat),(ow id N sz0 get h)[i]? = (h[i]?).map (eE id N sz0 get)
  | [],i=>by simp [ow]
  | s::h,0=>by simp [ow]
  | s::h,i+1=>by simpa [ow] using n5 id N sz0 get h i
theorem iz (id N sz0 get):∀ h,(ow id N sz0 get h).length=h.length
  | []=>rfl
  | s::h=>by simp [ow,iz id N sz0 get h]
theorem ra (id N sz0 get):∀ (ts:List (Nat×AV)) (i:Nat) (v:AV),look (qN id N sz0 get ts) i=some v→∃ u,look ts i=some u∧v=u.sl id N sz0 get
  | [],i,v,h=>by simp [qN,look] at h
  | (k,u)::ts,i,v,h=>by
    simp only [qN,look] at h ⊢
    cases hb:k.beq i with
    | true=>rw [hb] at h; simp at h; exact ⟨u,by simp,h.symm⟩
    | false=>rw [hb] at h; simpa using ra id N sz0 get ts i v (by simpa using h)
theorem GStep.shutD {m:Nat}{s:St}(id:Nat){sz N:Nat}{ex:Bool}{get:Nat→Nat→D}(hh:s.h[id]? = some (.live (.arr sz N ex get))):GStep m s ⟨qN id N sz get s.ts,(ow id N sz get s.h).set id .freed⟩:=by
  intro G a w hi hr
  obtain ⟨⟨b,o,e⟩,hρ,hobj⟩:=hi.obj id _ hh
  obtain ⟨hb,hc,hk,hle,hex,hz⟩:=hobj
  simp only at hb hc hk hle
  have hlt:=eV hh
  let G':Gh:=⟨fun b' k=>if b'=b∧o≤k∧k < o+N*sz then w.cell? ⟨b,k,none⟩ else G.I b' k,G.ρ,fun b' k v ht=>by
    show (if _ then _ else _)=_
    by_cases hcd:b'=b∧o≤k∧k < o+N*sz
    · rw [if_pos hcd,← hi.imm _ _ _ (G.tab _ _ _ ht),hcd.1]
    · rw [if_neg hcd]; exact G.tab _ _ _ ht⟩
  have hfree:∀ k,o≤k→k < o+N*sz→G.I b k=none:=fun k hk' hk2=>hi.free id _ _ hh hρ b k ⟨rfl,hk',by show k < e; omega⟩
  have hGle:G.Le G':=⟨fun b' k v x=>by
    show (if _ then _ else _)=_
    by_cases hcd:b'=b∧o≤k∧k < o+N*sz
    · obtain ⟨rfl,h3,h4⟩:=hcd
      rw [hfree k h3 h4] at x; cases x
    · rw [if_neg hcd]; exact x,fun _ _ x=>x⟩
  have hcellI:∀ k v,o≤k→k < o+N*sz→w.cell? ⟨b,k,none⟩=some v→G'.I b k=some v:=fun k v h3 h4 h5=>by
    show (if _ then _ else _)=_
    rw [if_pos ⟨rfl,h3,h4⟩]; exact h5
  have hseal:∀ v x,RV G v x→RV G' v (x.sl id N sz get):=fun v x hv=>RV.sl hGle (fun v off n hv hN=>by
    obtain ⟨b1,o1,e1,c,ad,hρ1,rfl,hcap,hnc,had⟩:=hD hv
    rw [hρ] at hρ1
    cases hρ1
    let u:Nat→Nat→Value:=fun i j=>(w.cell? ⟨b,o+(off+i)*sz+j,none⟩).getD undef
    have hu:∀ i,i < n→∀ j,j < sz→w.cell? ⟨b,o+(off+i)*sz+j,none⟩=some (u i j)∧(u i j).oneCell'=true∧RD G.I (u i j) (get (off+i) j):=fun i hi' j hj=>by
      obtain ⟨v,g1,g2,g3⟩:=hc (off+i) (by omega) j hj
      have g1':w.cell? ⟨b,o+(off+i)*sz+j,none⟩=some v:=g1
      simp only [u,g1',Option.getD_some]
      exact ⟨trivial,g2,g3⟩
    rw [rH]
    rcases had with rfl | ⟨rfl,rfl⟩
    case inr=>
      obtain rfl:n=0:=by omega
      exact .d (.sl0 _ _ _ _)
    refine .d (.sl b (o+off*sz) n c sz _ u hnc (fun i hi' j hj=>?_) (fun i hi' j hj=>(hu i hi' j hj).2.1) (fun i hi' j hj=>(hu i hi' j hj).2.2.mono hGle.I))
    have e1:o+off*sz+i*sz+j=o+(off+i)*sz+j:=by rw [Nat.add_mul]; omega
    rw [e1]
    have hlt2:=ja (n:=N) (i:=off+i) (by omega) hj
    exact hcellI _ _ (by omega) (by omega) (hu i hi' j hj).1) hv
  have hslot:∀ i ob,((ow id N sz get s.h).set id .freed)[i]? = some (.live ob)→i≠id∧∃ ob0,s.h[i]? = some (.live ob0)∧ak.live ob=eE id N sz get (.live ob0):=by
    intro i ob hx
    by_cases ei:i=id
    · subst ei
      rw [List.getElem?_set_self (by rw [iz]; exact hlt)] at hx
      cases hx
    · rw [List.getElem?_set_ne (Ne.symm ei),n5] at hx
      obtain ⟨s0,g1,g2⟩:=Option.map_eq_some_iff.1 hx
      cases s0 with
      | live ob0=>exact ⟨ei,ob0,g1,g2.symm⟩
      | freed=>simp [eE] at g2
      | resv=>simp [eE] at g2
  have hfoot:∀ ob ob0 p,ak.live ob=eE id N sz get (.live ob0)→bX p ob=bX p ob0:=by
    intro ob ob0 p he
    cases ob0 with
    | var cs=>simp [eE] at he; subst he; funext b k; simp [bX,cQ]
    | arr a b c d=>simp [eE] at he; subst he; rfl
    | mp es=>simp [eE] at he; subst he; rfl
  refine ⟨G',⟨fun b' k v x=>?_,fun i ob hx=>?_,fun i hl=>hi.fresh i (by simpa [iz] using hl),fun i hx=>?_,?_,?_⟩,fun i v hl=>?_,⟨bd.refl _ _,hGle.I,fun b' k v x=>?_,?_,fun i p _ x=>x⟩⟩
  · have x':(if b'=b∧o≤k∧k < o+N*sz then w.cell? ⟨b,k,none⟩ else G.I b' k)=some v:=x
    by_cases hcd:b'=b∧o≤k∧k < o+N*sz
    · rw [if_pos hcd] at x'; rw [hcd.1]; exact x'
    · rw [if_neg hcd] at x'; exact hi.imm b' k v x'
  · obtain ⟨hne,ob0,g1,g2⟩:=hslot i ob hx
    obtain ⟨p,g3,g4⟩:=hi.obj i ob0 g1
    refine ⟨p,g3,?_⟩
    cases ob0 with
    | var cs=>
      simp [eE] at g2; subst g2
      refine ⟨g4.1,fun j hj=>?_⟩
      rw [cQ] at hj
      obtain ⟨v,c1,c2,c3⟩:=g4.2 j hj
      exact ⟨v,c1,c2,by rw [iT id N sz get cs j hj]; exact hseal v _ c3⟩
    | arr a b c d=>simp [eE] at g2; subst g2; exact g4.frame (F:=fun _ _=>False) (bd.refl _ _) hGle (fun _ _ _ x=>x)
    | mp es=>simp [eE] at g2; subst g2; exact g4.frame (F:=fun _ _=>False) (bd.refl _ _) hGle (fun _ _ _ x=>x)
  · by_cases ei:i=id
    · subst ei
      rw [List.getElem?_set_self (by rw [iz]; exact hlt)] at hx
      cases hx
    · rw [List.getElem?_set_ne (Ne.symm ei),n5] at hx
      obtain ⟨s0,g1,g2⟩:=Option.map_eq_some_iff.1 hx
      cases s0 with
      | live ob0=>cases ob0 <;> simp [eE] at g2
      | freed=>simp [eE] at g2
      | resv=>exact hi.resv i g1
  · intro i1 o1 p1 i2 o2 p2 hne g1 g2 g3 g4 b' k f1 f2
    obtain ⟨_,q1,a1,a2⟩:=hslot i1 o1 g1
    obtain ⟨_,q2,b1,b2⟩:=hslot i2 o2 g3
    rw [hfoot _ _ _ a2] at f1
    rw [hfoot _ _ _ b2] at f2
    exact hi.disj i1 q1 p1 i2 q2 p2 hne a1 g2 b1 g4 b' k f1 f2
  · intro i1 o1 p1 g1 g2 b' k f1
    obtain ⟨hne,q1,a1,a2⟩:=hslot i1 o1 g1
    rw [hfoot _ _ _ a2] at f1
    show (if b'=b∧o≤k∧k < o+N*sz then w.cell? ⟨b,k,none⟩ else G.I b' k)=none
    rw [if_neg (fun hcd=>hi.disj i1 q1 p1 id _ _ hne a1 g2 hh hρ b' k f1 ⟨hcd.1,hcd.2.1,by show k < e; omega⟩)]
    exact hi.free i1 q1 p1 a1 g2 b' k f1
  · obtain ⟨u,g1,rfl⟩:=ra _ _ _ _ _ _ _ hl
    exact hseal _ _ (hr i u g1)
  · have x':(if b'=b∧o≤k∧k < o+N*sz then w.cell? ⟨b,k,none⟩ else G.I b' k)=some v:=x
    by_cases hcd:b'=b∧o≤k∧k < o+N*sz
    · exact .inr (.inl ⟨id,_,_,hh,hρ,hcd.1,hcd.2.1,by show k < e; omega⟩)
    · rw [if_neg hcd] at x'; exact .inl x'
  · rintro b' k ⟨i1,o1,p1,g1,g2,f1⟩
    obtain ⟨_,q1,a1,a2⟩:=hslot i1 o1 g1
    rw [hfoot _ _ _ a2] at f1
    exact .inl ⟨i1,q1,p1,a1,g2,f1⟩
end
end Go.Abs
namespace Go.Abs
noncomputable section
noncomputable def cD (l:List Nat)(i:Nat):Bool:=List.rec (motive:=fun _=>Bool) false (fun x _ ih=>Bool.rec (motive:=fun _=>Bool) ih true (Nat.beq x i)) l
theorem eQ (l:List Nat)(i:Nat):cD l i=av l i:=by
  induction l with
  | nil=>rfl
  | cons x l ih=>
    show Bool.rec (motive:=fun _=>Bool) (cD l i) true (Nat.beq x i)=(Nat.beq x i||av l i)
    rw [ih]
    cases Nat.beq x i <;> rfl
noncomputable def d6 {α:Type}(f:α→Bool)(l:List α):Bool:=List.rec (motive:=fun _=>Bool) true (fun x _ ih=>Bool.rec (motive:=fun _=>Bool) false ih (f x)) l
theorem f8 {α:Type}(f:α→Bool)(x:α)(l:List α):d6 f (x::l)=(f x&&d6 f l):=by
  show Bool.rec (motive:=fun _=>Bool) false (d6 f l) (f x)=_
  cases f x <;> rfl
theorem jH {α:Type}(f:α→Bool):∀ l:List α,d6 f l=l.all f
  | []=>rfl
  | x::l=>by rw [f8,jH f l,List.all_cons]
noncomputable def fZ {α β:Type}(f:α→β)(l:List α):List β:=List.rec (motive:=fun _=>List β) [] (fun x _ ih=>f x::ih) l
theorem uo {α β:Type}(f:α→β)(l:List α):fZ f l=l.map f:=by
  induction l with
  | nil=>rfl
  | cons x l ih=>show f x::fZ f l=_; rw [ih]; rfl
noncomputable def ik {α β:Type}(f:β→α→β)(l:List α)(b:β):β:=List.rec (motive:=fun _=>β→β) (fun b=>b) (fun x _ ih b=>ih (f b x)) l b
noncomputable def rl (τ:Nat→Option Nat)(v:AV):Bool:=match v with
  | .d _=>true
  | .ptr id _=>(τ id).isSome
  | .eptr id _ _ _=>(τ id).isSome
  | .osl id _ _ _=>(τ id).isSome
  | .mp id=>(τ id).isSome
  | .nsl=>true
  | .bad=>true
  | .vp _ _=>true
  | v=>v.okT τ
theorem wD (τ:Nat→Option Nat)(v:AV):rl τ v=v.okT τ:=by cases v <;> simp only [rl,AV.okT]
theorem nM (τ:Nat→Option Nat){f:AV→Bool}(hf:∀ v,f v=v.okT τ):∀ l:List AV,d6 f l=et τ l
  | []=>rfl
  | v::l=>by rw [f8,nM τ hf l,hf]; rfl
noncomputable def s8 (τ:Nat→Option Nat)(v:AV):Bool:=match v with
  | .d _=>true
  | .ptr id _=>(τ id).isSome
  | .eptr id _ _ _=>(τ id).isSome
  | .osl id _ _ _=>(τ id).isSome
  | .mp id=>(τ id).isSome
  | .nsl=>true
  | .bad=>true
  | .vp _ _=>true
  | .agg cs=>d6 (rl τ) cs
  | .tup cs=>d6 (rl τ) cs
  | .clo _ fs cs=>d6 (rl τ) fs&&d6 (rl τ) cs
  | .rsl es=>d6 (rl τ) es
  | .rp v=>rl τ v
theorem wE (τ:Nat→Option Nat)(v:AV):s8 τ v=v.okT τ:=by cases v <;> simp only [s8,AV.okT,nM τ (wD τ),wD]
noncomputable def td (τ:Nat→Option Nat)(v:AV):Bool:=match v with
  | .agg cs=>d6 (s8 τ) cs
  | .tup cs=>d6 (s8 τ) cs
  | .clo _ fs cs=>d6 (s8 τ) fs&&d6 (s8 τ) cs
  | v=>s8 τ v
theorem te (τ:Nat→Option Nat)(v:AV):td τ v=v.okT τ:=by cases v <;> simp only [td,AV.okT,nM τ (wE τ),wE]
noncomputable def xK (τ:Nat→Option Nat)(l:List AV):Bool:=d6 (td τ) l
theorem ux (τ:Nat→Option Nat)(l:List AV):xK τ l=et τ l:=nM τ (te τ) l
noncomputable def qC (τ:Nat→Option Nat):aQ→Bool
  | .var cs=>xK τ cs
  | _=>true
theorem nY (τ:Nat→Option Nat)(ob:aQ):qC τ ob=ob.okT τ:=by cases ob <;> simp only [qC,aQ.okT,ux]
noncomputable def rK (τ:Nat→Option Nat)(id:Nat)(f:Nat→AV):AV:=match τ id with
  | some i=>f i
  | none=>.bad
noncomputable def rJ (τ:Nat→Option Nat)(v:AV):AV:=match v with
  | .d x=>.d x
  | .ptr id off=>rK τ id fun i=>.ptr i off
  | .eptr id i k sz=>rK τ id fun j=>.eptr j i k sz
  | .osl id off n sz=>rK τ id fun i=>.osl i off n sz
  | .mp id=>rK τ id fun i=>.mp i
  | .nsl=>.nsl
  | .bad=>.bad
  | .vp n g=>.vp n g
  | v=>v.tr τ
theorem wZ (τ:Nat→Option Nat)(v:AV):rJ τ v=v.tr τ:=by cases v <;> simp only [rJ,AV.tr] <;> rfl
theorem nX (τ:Nat→Option Nat){f:AV→AV}(hf:∀ v,f v=v.tr τ):∀ l:List AV,fZ f l=fk τ l
  | []=>rfl
  | v::l=>by show f v::fZ f l=_; rw [nX τ hf l,hf]; rfl
noncomputable def tI (τ:Nat→Option Nat)(v:AV):AV:=match v with
  | .d x=>.d x
  | .ptr id off=>rK τ id fun i=>.ptr i off
  | .eptr id i k sz=>rK τ id fun j=>.eptr j i k sz
  | .osl id off n sz=>rK τ id fun i=>.osl i off n sz
  | .mp id=>rK τ id fun i=>.mp i
  | .nsl=>.nsl
  | .bad=>.bad
  | .vp n g=>.vp n g
  | .agg cs=>.agg (fZ (rJ τ) cs)
  | .tup cs=>.tup (fZ (rJ τ) cs)
  | .clo f fs cs=>.clo f (fZ (rJ τ) fs) (fZ (rJ τ) cs)
  | .rsl es=>.rsl (fZ (rJ τ) es)
  | .rp v=>.rp (rJ τ v)
theorem w7 (τ:Nat→Option Nat)(v:AV):tI τ v=v.tr τ:=by cases v <;> simp only [tI,AV.tr,nX τ (wZ τ),wZ] <;> rfl
noncomputable def ox (τ:Nat→Option Nat)(v:AV):AV:=match v with
  | .agg cs=>.agg (fZ (tI τ) cs)
  | .tup cs=>.tup (fZ (tI τ) cs)
  | .clo f fs cs=>.clo f (fZ (tI τ) fs) (fZ (tI τ) cs)
  | v=>tI τ v
theorem qj (τ:Nat→Option Nat)(v:AV):ox τ v=v.tr τ:=by cases v <;> simp only [ox,AV.tr,nX τ (w7 τ),w7]
noncomputable def vI (τ:Nat→Option Nat)(l:List AV):List AV:=fZ (ox τ) l
theorem qP (τ:Nat→Option Nat)(l:List AV):vI τ l=fk τ l:=nX τ (qj τ) l
noncomputable def yi (τ:Nat→Option Nat):aQ→aQ
  | .var cs=>.var (vI τ cs)
  | ob=>ob
theorem zh (τ:Nat→Option Nat)(ob:aQ):yi τ ob=ob.tr τ:=by cases ob <;> simp only [yi,aQ.tr,qP]
noncomputable def vK (τ:Nat→Option Nat):ak→ak
  | .live ob=>.live (yi τ ob)
  | s=>s
theorem zi (τ:Nat→Option Nat)(s:ak):vK τ s=s.tr τ:=by cases s <;> simp only [vK,ak.tr,zh]
noncomputable def vA (τ:Nat→Option Nat)(h:List ak)(π:List Nat):List ak:=fZ (fun id=>vK τ ((fw h id).getD .freed)) π
theorem tu (τ:Nat→Option Nat)(h:List ak):∀ π,vA τ h π=g6 τ h π
  | []=>rfl
  | id::π=>by
    show vK τ ((fw h id).getD .freed)::vA τ h π=_
    rw [tu τ h π,zi,dY]; rfl
noncomputable def iv (π:List Nat)(id:Nat):Option Nat:=List.rec (motive:=fun _=>Nat→Option Nat) (fun _=>none) (fun x _ ih j=>Bool.rec (motive:=fun _=>Option Nat) (ih (j+1)) (some j) (Nat.beq x id)) π 0
theorem iQ (π:List Nat):iv π=dl π 0:=by
  have key:∀ (π:List Nat) (id j:Nat),(List.rec (motive:=fun _=>Nat→Option Nat) (fun _=>none) (fun x _ ih j=>Bool.rec (motive:=fun _=>Option Nat) (ih (j+1)) (some j) (Nat.beq x id)) π j:Option Nat)=dl π j id:=by
    intro π
    induction π with
    | nil=>intro id j; rfl
    | cons x π ih=>
      intro id j
      show Bool.rec (motive:=fun _=>Option Nat) (List.rec (motive:=fun _=>Nat→Option Nat) (fun _=>none) (fun x _ ih j=>Bool.rec (motive:=fun _=>Option Nat) (ih (j+1)) (some j) (Nat.beq x id)) π (j+1)) (some j) (Nat.beq x id)=_
      rw [ih,dl]
      cases Nat.beq x id <;> rfl
  funext id
  exact key π id 0
noncomputable def tw (τ:Nat→Option Nat)(ts:List (Nat×AV)):List (Nat×AV):=fZ (fun p=>(p.1,ox τ p.2)) ts
theorem rD (τ:Nat→Option Nat):∀ ts,tw τ ts=ma τ ts
  | []=>rfl
  | (i,v)::ts=>by
    show (i,ox τ v)::tw τ ts=_
    rw [rD τ ts,qj]; rfl
noncomputable def kS {α:Type}(l:List α)(i:Nat):Option α:=List.rec (motive:=fun _=>Nat→Option α) (fun _=>none) (fun x _ ih i=>Nat.rec (motive:=fun _=>Option α) (some x) (fun n _=>ih n) i) l i
theorem ll {α:Type}:∀ (l:List α) (i:Nat),kS l i=l[i]?
  | [],i=>by simp; rfl
  | x::l,0=>rfl
  | x::l,i+1=>by
    show kS l i=_
    rw [ll l i]; simp
noncomputable def jw (ts:List (Nat×AV))(i:Nat):Option AV:=List.rec (motive:=fun _=>Option AV) none (fun p _ ih=>Bool.rec (motive:=fun _=>Option AV) ih (some p.2) (Nat.beq p.1 i)) ts
theorem gS:∀ (ts:List (Nat×AV)) (i:Nat),jw ts i=look ts i
  | [],i=>rfl
  | (k,v)::ts,i=>by
    show Bool.rec (motive:=fun _=>Option AV) (jw ts i) (some v) (Nat.beq k i)=_
    rw [gS ts i,look]
    cases Nat.beq k i <;> rfl
noncomputable def nV (ts:List (Nat×AV))(ks:List Nat):List (Nat×AV):=fZ (fun k=>(k,(jw ts k).getD .bad)) ks
theorem jR (ts:List (Nat×AV)):∀ ks,nV ts ks=bR ts ks
  | []=>rfl
  | k::ks=>by
    show (k,(jw ts k).getD .bad)::nV ts ks=_
    rw [jR ts ks,gS]; rfl
noncomputable def fq {α:Type}(n:Nat)(k:Nat→α):α:=Nat.rec (motive:=fun _=>α) (k 0) (fun p _=>k (Nat.succ p)) n
theorem mT {α:Type}(n:Nat)(k:Nat→α):fq n k=k n:=by cases n <;> rfl
noncomputable def sL {α:Type}(n:Int)(k:Int→α):α:=match n with
  | .ofNat a=>fq a fun a=>k (.ofNat a)
  | .negSucc a=>fq a fun a=>k (.negSucc a)
theorem wb {α:Type}(n:Int)(k:Int→α):sL n k=k n:=by cases n <;> simp only [sL,mT]
noncomputable def pv {α:Type}(x:D)(k:D→α):α:=match x with
  | .int kd n=>sL n fun n=>k (.int kd n)
  | .bool b=>Bool.rec (motive:=fun _=>α) (k (.bool false)) (k (.bool true)) b
  | .sl n sz get=>fq n fun n=>k (.sl n sz get)
  | x=>k x
theorem wa {α:Type}(x:D)(k:D→α):pv x k=k x:=by
  cases x with
  | bool b=>cases b <;> rfl
  | int kd n=>simp only [pv,wb]
  | sl n sz get=>simp only [pv,mT]
  | _=>rfl
noncomputable def mU {α:Type}(v:AV)(k:AV→α):α:=match v with
  | .d x=>pv x fun x=>k (.d x)
  | .ptr i o=>fq i fun i=>fq o fun o=>k (.ptr i o)
  | .eptr i j o sz=>fq i fun i=>fq j fun j=>fq o fun o=>k (.eptr i j o sz)
  | .osl i o n sz=>fq i fun i=>fq o fun o=>fq n fun n=>k (.osl i o n sz)
  | .mp i=>fq i fun i=>k (.mp i)
  | v=>k v
theorem qX {α:Type}(v:AV)(k:AV→α):mU v k=k v:=by
  cases v <;> simp only [mU,mT,wa]
noncomputable def lU {α β:Type}(f:β→AV)(l:List β)(k:List AV→α):α:=List.rec (motive:=fun _=>(List AV→α)→α) (fun k=>k []) (fun x _ ih k=>mU (f x) fun y=>ih fun ys=>k (y::ys)) l k
theorem lj {α β:Type}(f:β→AV):∀ (l:List β) (k:List AV→α),lU f l k=k (l.map f)
  | [],k=>rfl
  | x::l,k=>by
    show mU (f x) (fun y=>lU f l fun ys=>k (y::ys))=_
    rw [qX,lj f l]; rfl
noncomputable def jP {α:Type}(v:AV)(k:AV→α):α:=match v with
  | .agg cs=>lU (fun x=>x) cs fun cs=>k (.agg cs)
  | .tup cs=>lU (fun x=>x) cs fun cs=>k (.tup cs)
  | .clo f fs cs=>lU (fun x=>x) fs fun fs=>lU (fun x=>x) cs fun cs=>k (.clo f fs cs)
  | v=>mU v k
theorem kp {α:Type}(v:AV)(k:AV→α):jP v k=k v:=by
  cases v <;> simp only [jP,lj,qX,List.map_id',List.map_id]
noncomputable def rX {α β:Type}(f:β→AV)(l:List β)(k:List AV→α):α:=List.rec (motive:=fun _=>(List AV→α)→α) (fun k=>k []) (fun x _ ih k=>jP (f x) fun y=>ih fun ys=>k (y::ys)) l k
theorem oR {α β:Type}(f:β→AV):∀ (l:List β) (k:List AV→α),rX f l k=k (l.map f)
  | [],k=>rfl
  | x::l,k=>by
    show jP (f x) (fun y=>rX f l fun ys=>k (y::ys))=_
    rw [kp,oR f l]; rfl
noncomputable def vJ {α:Type}(τ:Nat→Option Nat)(ob:aQ)(k:aQ→α):α:=match ob with
  | .var cs=>rX (ox τ) cs fun cs=>k (.var cs)
  | ob=>k ob
theorem uO {α:Type}(τ:Nat→Option Nat)(ob:aQ)(k:aQ→α):vJ τ ob k=k (ob.tr τ):=by
  cases ob with
  | var cs=>simp only [vJ,oR,aQ.tr,← qP,vI,uo]
  | _=>rfl
noncomputable def vL {α:Type}(τ:Nat→Option Nat)(s:ak)(k:ak→α):α:=match s with
  | .live ob=>vJ τ ob fun ob=>k (.live ob)
  | s=>k s
theorem zj {α:Type}(τ:Nat→Option Nat)(s:ak)(k:ak→α):vL τ s k=k (s.tr τ):=by
  cases s <;> simp only [vL,uO,ak.tr]
noncomputable def pD {α β:Type}(τ:Nat→Option Nat)(f:β→ak)(l:List β)(k:List ak→α):α:=List.rec (motive:=fun _=>(List ak→α)→α) (fun k=>k []) (fun x _ ih k=>vL τ (f x) fun y=>ih fun ys=>k (y::ys)) l k
theorem lV {α β:Type}(τ:Nat→Option Nat)(f:β→ak):∀ (l:List β) (k:List ak→α),pD τ f l k=k (l.map fun x=>(f x).tr τ)
  | [],k=>rfl
  | x::l,k=>by
    show vL τ (f x) (fun y=>pD τ f l fun ys=>k (y::ys))=_
    rw [zj,lV τ f l]; rfl
theorem tv (τ:Nat→Option Nat)(h:List ak):∀ π,π.map (fun id=>((fw h id).getD .freed).tr τ)=g6 τ h π
  | []=>rfl
  | id::π=>by rw [List.map_cons,tv τ h π,dY]; rfl
noncomputable def yc {α:Type}(l:List ak)(i:Nat)(x:ak)(k:List ak→α):α:=List.rec (motive:=fun _=>Nat→(List ak→α)→α) (fun _ k=>k []) (fun y ys ih i k=>Nat.rec (motive:=fun _=>α) (k (x::ys)) (fun j _=>ih j fun ys=>k (y::ys)) i) l i k
theorem uL {α:Type}:∀ (l:List ak) (i:Nat) (x:ak) (k:List ak→α),yc l i x k=k (l.set i x)
  | [],i,x,k=>by cases i <;> rfl
  | y::l,0,x,k=>rfl
  | y::l,i+1,x,k=>by
    show yc l i x (fun ys=>k (y::ys))=_
    rw [uL l i x]; rfl
noncomputable def sa {α:Type}(l:List ak)(x:ak)(k:List ak→α):α:=List.rec (motive:=fun _=>(List ak→α)→α) (fun k=>k [x]) (fun y _ ih k=>ih fun ys=>k (y::ys)) l k
theorem o0 {α:Type}:∀ (l:List ak) (x:ak) (k:List ak→α),sa l x k=k (l++[x])
  | [],x,k=>rfl
  | y::l,x,k=>by
    show sa l x (fun ys=>k (y::ys))=_
    rw [o0 l x]; rfl
noncomputable def zr (ts:List (Nat×AV))(x:Operand):AV:=match x with
  | .tmp t=>(match jw ts t with | some v=>v | none=>.bad)
  | .const v=>v6 v
  | .func f=>.d (.fn f)
  | .global g=>rU g
theorem v5 (ts:List (Nat×AV)):zr ts=ax ts:=by
  funext x
  cases x with
  | tmp t=>
    show (match jw ts t with | some v=>v | none=>.bad)=(look ts t).getD .bad
    rw [gS]
    cases look ts t <;> rfl
  | _=>rfl
end
end Go.Abs
namespace Go.Abs
noncomputable section
structure ER where
  v:AV
  h:List ak
  w:List Nat
noncomputable def bD (h h':List ak)(w:List Nat):Prop:=h.length≤h'.length∧∀ i,i < h.length→av w i=false→h'[i]? = h[i]?
theorem bD.refl (h:List ak)(w:List Nat):bD h h w:=⟨Nat.le_refl _,fun _ _ _=>rfl⟩
theorem bD.push (h:List ak)(l:List ak):bD h (h++l) []:=⟨by simp,fun i hi _=>List.getElem?_append_left hi⟩
theorem bD.set (h:List ak)(id:Nat)(s:ak):bD h (h.set id s) [id]:=⟨by simp,fun i hi hm=>List.getElem?_set_ne (fun e=>by subst e; simp [av] at hm)⟩
theorem bD.trans {h h1 h2:List ak}{w1 w2:List Nat}(a:bD h h1 w1)(b:bD h1 h2 w2):bD h h2 (w1++w2):=
  ⟨Nat.le_trans a.1 b.1,fun i hi hm=>by
    rw [bI,Bool.or_eq_false_iff] at hm
    rw [b.2 i (Nat.lt_of_lt_of_le hi a.1) hm.2,a.2 i hi hm.1]⟩
theorem bD.setPush (h:List ak)(id:Nat)(s:ak)(l:List ak):bD h (h.set id s++l) [id]:=(bD.set h id s).trans (bD.push _ l)
section
variable {P:Program}{o:Oper}{ts ts':List (Nat×AV)}{h h':List ak}{v:AV}{r:ER}
noncomputable def iD (P:Program)(o:Oper)(ts:List (Nat×AV))(h:List ak)(r:ER):Prop:=ae P o ts h r.v r.h∧bD h r.h r.w
theorem ae.ghost (hs:GStep h.length ⟨ts,h⟩ ⟨ts',h'⟩){h2:List ak}(hop:ae P o ts' h' v h2):ae P o ts h v h2:=by
  intro G a w hi hr next Q hn
  obtain ⟨G1,i1,r1,e1⟩:=hs G a w hi hr
  have hle:G.Le G1:=⟨e1.imono,fun id p x=>by
    rcases Nat.lt_or_ge id h.length with c | c
    · exact e1.rmono id p c x
    · rw [hi.fresh id c] at x; cases x⟩
  have ef:d5 G h w G1 h' w:=⟨hle,e1.pres,e1.inew,e1.fnew⟩
  exact hop G1 a w i1 r1 next Q fun val w' G' h1 h2 h3=>hn val w' G' h1 h2 (ef.trans h3)
noncomputable def zM:AV→Option D
  | .d (.agg _)=>none
  | .d x=>some x
  | .nsl=>some (.sl 0 0 fun _ _=>.nilp)
  | _=>none
theorem zf {x:AV}{d:D}(e:zM x=some d):aF x (.d d)∧x.flat=true:=by
  unfold zM at e
  split at e <;> cases e
  · rename_i hn
    refine ⟨aF.refl _,?_⟩
    cases d <;> first | rfl | exact (hn _ rfl).elim
  · exact ⟨trivial,rfl⟩
noncomputable def qO:List AV→Option (List D)
  | []=>some []
  | x::l=>match zM x,qO l with
    | some d,some r=>some (d::r)
    | _,_=>none
theorem mi:∀ {l:List AV} {r:List D},qO l=some r→dH l (r.map .d)∧l.all AV.flat=true∧r.length=l.length
  | [],r,e=>by cases e; exact ⟨trivial,rfl,rfl⟩
  | x::l,r,e=>by
    simp only [qO] at e
    split at e
    · rename_i d r' h1 h2
      cases e
      obtain ⟨a1,a2⟩:=zf h1
      obtain ⟨b1,b2,b3⟩:=mi h2
      exact ⟨⟨a1,b1⟩,by simp [a2]; simpa using b2,by simp [b3]⟩
    · cases e
noncomputable def sI (P:Program)(t:TypeId)(h:List ak):Option ER:=match cd P t with
  | some l=>lU (fun x=>x) l fun l=>sa h (.live (.var l)) fun h'=>some ⟨.ptr h.length 0,h',[]⟩
  | none=>none
theorem vZ {t:TypeId}(ho:o.op = .alloc t)(e:sI P t h=some r):iD P o ts h r:=by
  unfold sI at e
  simp only [lj,o0,List.map_id',List.map_id] at e
  split at e <;> cases e
  exact ⟨ae.alloc ho (by assumption),bD.push _ _⟩
noncomputable def xu (v:AV)(h:List ak):Option ER:=bif v.boxable then (lU (fun x=>x) (cellsOf v) fun l=>sa h (.live (.var l)) fun h'=>some ⟨.ptr h.length 0,h',[]⟩) else none
theorem yQ {t:TypeId}{x:Operand}(ho:o.op = .box t x)(e:xu (ax ts x) h=some r):iD P o ts h r:=by
  unfold xu at e
  simp only [lj,o0,List.map_id',List.map_id] at e
  obtain ⟨h0,e⟩:=aG e
  cases e
  exact ⟨ae.box ho rfl h0,bD.push _ _⟩
noncomputable def pp (P:Program)(t:TypeId)(h:List ak)(x v:AV):Option ER:=match cf P t with
  | none=>none
  | some (_,n)=>match x with
    | .ptr id off=>(match kS h id with
      | some (.live (.var cs))=>bif v.boxable&&d6 AV.flat (cellsOf v)&&(cellsOf v).length.beq n&&Nat.ble (off+n) cs.length then (lU (fun x=>x) (dV cs off (cellsOf v)) fun cs'=>yc h id (.live (.var cs')) fun h'=>some ⟨.bad,h',[id]⟩) else none
      | _=>none)
    | .eptr id i k sz=>(match fw h id with
      | some (.live (.arr sz' N ex get))=>(match qO (cellsOf v) with
        | some ds=>bif sz.beq sz'&&Nat.blt i N&&v.boxable&&(cellsOf v).length.beq n&&Nat.ble (k+n) sz' then
            some ⟨.bad,h.set id (.live (.arr sz' N ex fun i' j=>bif i'.beq i&&Nat.ble k j&&Nat.blt j (k+n) then ds.getD (j - k) default else get i' j)),[id]⟩ else none
        | none=>none)
      | _=>none)
    | _=>none
theorem qV {t:TypeId}{x y:Operand}(ho:o.op = .store t x y)(e:pp P t h (ax ts x) (ax ts y)=some r):iD P o ts h r:=by
  unfold pp at e
  simp only [lj,uL,List.map_id',List.map_id,ll] at e
  split at e
  · cases e
  · rename_i g n ht
    split at e
    · rename_i id off hx
      split at e
      · rename_i cs hh
        obtain ⟨h0,e⟩:=aG e
        rw [jH] at h0
        simp only [Bool.and_eq_true] at h0
        cases e
        exact ⟨ae.store ho hx rfl ht hh h0.1.1.1 h0.1.1.2 (Nat.eq_of_beq_eq_true h0.1.2) h0.2,bD.set _ _ _⟩
      · cases e
    · rename_i id i k sz hx
      split at e
      · rename_i sz' N ex get hh
        rw [dY] at hh
        split at e
        · rename_i ds hds
          obtain ⟨h0,e2⟩:=aG e
          clear e
          simp only [Bool.and_eq_true] at h0
          obtain ⟨⟨⟨⟨h1,h2⟩,h3⟩,h4⟩,h5⟩:=h0
          obtain rfl:=Nat.eq_of_beq_eq_true h1
          have h4:=Nat.eq_of_beq_eq_true h4
          obtain ⟨d1,d2,d3⟩:=mi hds
          have h2':i < N:=by simpa using h2
          cases e2
          refine ⟨ae.storeE ho hx rfl ht hh h3 d2 h4 h2' h5 (fun j hj=>?_) (fun i' j hi' hj hn=>?_),bD.set _ _ _⟩
          · have c1:(i.beq i&&Nat.ble k (k+j)&&Nat.blt (k+j) (k+n))=true:=by simp; omega
            simp only [c1,cond_true,Nat.add_sub_cancel_left]
            have:=d1.get j (by omega)
            rw [List.getD_eq_getElem?_getD (l:=ds.map AV.d),List.getElem?_map,List.getElem?_eq_getElem (by omega)] at this
            rw [List.getD_eq_getElem?_getD (l:=ds),List.getElem?_eq_getElem (by omega)]
            exact this
          · have c1:(i'.beq i&&Nat.ble k j&&Nat.blt j (k+n))=false:=by
              rw [Bool.eq_false_iff]
              intro hc
              simp at hc
              exact hn ⟨hc.1.1,hc.1.2,hc.2⟩
            simp only [c1,cond_false]
        · cases e
      · cases e
    · cases e
noncomputable def sJ (h:List ak):ER:=⟨.mp h.length,h++[.live (.mp [])],[]⟩
theorem tS {t:TypeId}(ho:o.op = .makeMap t none):iD P o ts h (sJ h):=⟨ae.makeMap ho,bD.push _ _⟩
noncomputable def vg (P:Program)(t:TypeId)(h:List ak)(x y:AV):Option ER:=match x,y,cy P t with
  | .d (.int _ n),.d (.int _ n'),some (e,_,sz)=>(match dz P e,cd P e with
    | some (sz',bytes),some z=>(match qO z with
      | some ds=>bif decide (n=n')&&sz.beq sz'&&Nat.blt 0 bytes&&Nat.blt 0 sz&&z.length.beq sz&&decide (0≤n)&&Nat.ble (n.toNat*bytes) 140737488355328 then
          some ⟨.osl h.length 0 n.toNat sz,h++[.live (.arr sz n.toNat true fun _ j=>ds.getD j default)],[]⟩ else none
      | none=>none)
    | _,_=>none)
  | _,_,_=>none
theorem yN {G:Gh}{w:World}{p:Nat×Nat×Nat}{sz n:Nat}{ex:Bool}{g1 g2:Nat→Nat→D}(he:∀ i,i < n→∀ j,j < sz→g1 i j=g2 i j)(hr:bH G w p (.arr sz n ex g1)):bH G w p (.arr sz n ex g2):=
  ⟨hr.1,fun i hi j hj=>by obtain ⟨v,a,b,c⟩:=hr.2.1 i hi j hj; exact ⟨v,a,b,he i hi j hj▸c⟩,hr.2.2⟩
theorem Inv.rerow {G:Gh}{h:List ak}{w:World}{id sz n:Nat}{ex:Bool}{g1 g2:Nat→Nat→D}(hi:Inv G h w)(hh:h[id]? = some (.live (.arr sz n ex g1)))(he:∀ i,i < n→∀ j,j < sz→g1 i j=g2 i j) :
    Inv G (h.set id (.live (.arr sz n ex g2))) w∧d5 G h w G (h.set id (.live (.arr sz n ex g2))) w:=by
  obtain ⟨p,h1,h2⟩:=hi.obj id _ hh
  exact hi.change hh h1 (fun _ _ f=>f) (bd.refl _ _) (yN he h2)
theorem ae.rerow {id sz n:Nat}{ex:Bool}{g1 g2:Nat→Nat→D}(hop:ae P o ts h v h')(hh:h'[id]? = some (.live (.arr sz n ex g1)))(he:∀ i,i < n→∀ j,j < sz→g1 i j=g2 i j):ae P o ts h v (h'.set id (.live (.arr sz n ex g2))):=by
  intro G a w hi hr next Q hn
  refine hop G a w hi hr next Q fun val w' G' h1 h2 h3=>?_
  obtain ⟨a1,a2⟩:=h2.rerow hh he
  exact hn val w' G' h1 a1 (h3.trans a2)
theorem xw {t:TypeId}{x y:Operand}(ho:o.op = .makeSlice t x y)(e:vg P t h (ax ts x) (ax ts y)=some r):iD P o ts h r:=by
  unfold vg at e
  split at e
  · rename_i k n k' n' e0 g sz hx hy hs
    split at e
    · rename_i sz' bytes z hin hz
      split at e
      · rename_i ds hds
        obtain ⟨h0,e2⟩:=aG e
        clear e
        simp only [Bool.and_eq_true,decide_eq_true_eq] at h0
        obtain ⟨⟨⟨⟨⟨⟨h1,h2⟩,h3⟩,h4⟩,h5⟩,h6⟩,h7⟩:=h0
        subst h1
        obtain rfl:=Nat.eq_of_beq_eq_true h2
        obtain ⟨d1,d2,d3⟩:=mi hds
        have h5:=Nat.eq_of_beq_eq_true h5
        cases e2
        refine ⟨?_,bD.push _ _⟩
        have hop:=ae.makeT (P:=P) (h:=h) (enc:=fun l:List D=>l) ds ho hx hy hs hin hz h3 h4 d2 h5 d1 h6 (Nat.le_of_ble_eq_true h7)
        rw [List.length_replicate] at hop
        have:=ae.rerow hop (id:=h.length) (sz:=sz) (n:=n.toNat) (ex:=true) (g1:=row (fun l=>l) (List.replicate n.toNat ds)) (g2:=fun _ j=>ds.getD j default) (by simp) (fun i hi j hj=>uG hi)
        simpa using this
      · cases e
    · cases e
  · cases e
noncomputable def pT (P:Program)(t:TypeId)(ps:List (Nat×AV)):Option AV:=match gz P t,cd P t with
  | some l,some z=>(match f6 (fun i=>(l[i]?).map fun x=>(x.1,x.2.2)) z ps with
    | some r=>some (.agg r)
    | none=>none)
  | _,_=>none
theorem ry {t:TypeId}{parts:Array (Nat×Operand)}(ho:o.op = .build t parts)(e:pT P t (parts.toList.map fun p=>(p.1,ax ts p.2))=some v):ae P o ts h v h:=by
  unfold pT at e
  split at e
  · split at e <;> cases e
    exact ae.build ho (by assumption) (by assumption) (by assumption)
  · cases e
theorem wV {r:List AV}{ds:List D}{len sz:Nat}(hl:r.length=len*sz)(hz:0 < sz)(hs:dH r (ds.map .d)):dH r (fi (fun i j=>ds.getD (i*sz+j) default) len sz):=by
  have key:∀ (n:Nat) (k:Nat→Nat) (r:List AV),r.length=n→(∀ i,i < n→aF (r.getD i default) (.d (ds.getD (k i) default)))→dH r ((List.range n).map fun i=>AV.d (ds.getD (k i) default)):=by
    intro n
    induction n with
    | zero=>intro k r h _; cases List.eq_nil_of_length_eq_zero h; exact trivial
    | succ n ih=>
      intro k r h hh
      cases r with
      | nil=>simp at h
      | cons x r=>
        rw [List.range_succ_eq_map,List.map_cons,List.map_map]
        refine ⟨by simpa using hh 0 (by omega),?_⟩
        exact ih (fun i=>k (i+1)) r (by simpa using h) fun i hi=>by simpa using hh (i+1) (by omega)
  have hlen:=hs.len
  rw [List.length_map] at hlen
  refine key (len*sz) (fun k=>k / sz*sz+k % sz) r hl fun i hi=>?_
  have:=hs.get i (by omega)
  rw [List.getD_eq_getElem?_getD (l:=ds.map AV.d),List.getElem?_map,List.getElem?_eq_getElem (by omega)] at this
  rw [Nat.div_add_mod',List.getD_eq_getElem?_getD (l:=ds),List.getElem?_eq_getElem (by omega)]
  exact this
noncomputable def kK (P:Program)(t:TypeId)(len:Nat)(ps:List (Nat×AV))(h:List ak):Option ER:=match cy P t with
  | none=>none
  | some (e,_,sz)=>match cd P e with
    | none=>none
    | some z=>bif z.length.beq sz&&Nat.ble (len*sz) 16777216&&Nat.blt 0 sz then (match f6 (fun i=>some (i*sz,sz)) (js z (len*sz)) ps with
      | none=>none
      | some r=>bif r.length.beq (len*sz) then (match qO r with
        | some ds=>some ⟨.osl h.length 0 len sz,h++[.live (.arr sz len true fun i j=>ds.getD (i*sz+j) default)],[]⟩
        | none=>bif Nat.beq sz 1&&r.length.beq len then some ⟨.rsl r,h,[]⟩ else none) else none) else none
theorem qx {t:TypeId}{len:Nat}{parts:Array (Nat×Operand)}(ho:o.op = .buildSlice t len parts)(e:kK P t len (parts.toList.map fun p=>(p.1,ax ts p.2)) h=some r):iD P o ts h r:=by
  unfold kK at e
  split at e
  · cases e
  · rename_i e0 g sz hs
    split at e
    · cases e
    · rename_i z hz
      obtain ⟨h0,e2⟩:=aG e
      clear e
      simp only [Bool.and_eq_true] at h0
      obtain ⟨⟨h1,h2⟩,h3⟩:=h0
      have h1:=Nat.eq_of_beq_eq_true h1
      have h3':0 < sz:=by simpa using h3
      split at e2
      · cases e2
      · rename_i r0 hr0
        obtain ⟨h4,e3⟩:=aG e2
        clear e2
        have h4:=Nat.eq_of_beq_eq_true h4
        split at e3
        · rename_i ds hds
          obtain ⟨d1,d2,d3⟩:=mi hds
          cases e3
          exact ⟨ae.bslice _ ho hs hz h1 h2 hr0 (wV h4 h3' d1) d2 h3,bD.push _ _⟩
        · obtain ⟨h5,e4⟩:=aG e3
          simp only [Bool.and_eq_true] at h5
          cases e4
          obtain rfl:=Nat.eq_of_beq_eq_true h5.1
          exact ⟨ae.bsliceR ho hs hz h1 h2 hr0 (Nat.eq_of_beq_eq_true h5.2),bD.refl _ _⟩
noncomputable def tG (P:Program)(h:List ak)(sz:Nat)(y:AV):Option (Nat×(Nat→Nat→D)):=match y with
  | .d (.sl m sz' gy)=>bif sz'.beq sz then some (m,gy) else none
  | .osl id off m sz'=>(match fw h id with
    | some (.live (.arr sz2 N ex get))=>bif sz'.beq sz&&sz2.beq sz&&Nat.ble (off+m) N then some (m,fun i j=>get (off+i) j) else none
    | _=>none)
  | .nsl=>some (0,fun _ _=>.nilp)
  | .d (.str s)=>bif Nat.beq sz 1 then some (s.size,fun i _=>.int .u8 ((s.data.toList.getD i 0).toNat:Int)) else none
  | _=>none
theorem rI {G:Gh}{w:World}{sz m:Nat}{gy:Nat→Nat→D}{y:AV}{x:Value}{t2:TypeId}(e:tG P h sz y=some (m,gy))(hi:Inv G h w)(ht:cj P t2=true)(hz:0 < sz)(hr:RV G x y) :
    ∃ news,Src P w t2 sz x m news∧ld G news m sz gy:=by
  unfold tG at e
  split at e
  · obtain ⟨h0,e2⟩:=aG e
    obtain rfl:=Nat.eq_of_beq_eq_true h0
    cases e2
    exact qh hi ht hz hr
  · split at e
    · rename_i id off m' sz' sz2 N ex get hh
      rw [dY] at hh
      obtain ⟨h0,e2⟩:=aG e
      clear e
      simp only [Bool.and_eq_true] at h0
      obtain rfl:=Nat.eq_of_beq_eq_true h0.1.1
      obtain rfl:=Nat.eq_of_beq_eq_true h0.1.2
      cases e2
      exact zc hi ht hr hh (Nat.le_of_ble_eq_true h0.2)
    · cases e
  · cases e
    exact qh hi ht hz (gy:=fun _ _=>.nilp) (hr.sub (y:=.d (.sl 0 sz fun _ _=>.nilp)) trivial)
  · obtain ⟨h0,e2⟩:=aG e
    obtain rfl:=Nat.eq_of_beq_eq_true h0
    cases e2
    exact zd ht hr
  · cases e
noncomputable def qw (P:Program)(t t2:TypeId)(h:List ak)(x y:AV):Option ER:=match cy P t with
  | none=>none
  | some (e,_,sz)=>match dz P e,tG P h sz y with
    | some (sz',bytes),some (m,gy)=>bif sz'.beq sz&&cj P t2&&Nat.blt 0 bytes&&Nat.blt 0 sz then (match x with
      | .osl id off n sz2=>(match fw h id with
        | some (.live (.arr sz3 N ex get))=>bif sz2.beq sz&&sz3.beq sz&&Nat.ble (off+n) N&&Nat.ble ((n+m)*bytes) 140737488355328 then
            some ⟨.osl h.length 0 (n+m) sz,h.set id .freed++[.live (.arr sz (n+m) false fun i j=>bif Nat.blt i n then get (off+i) j else gy (i - n) j)],[id]⟩ else none
        | _=>none)
      | .nsl=>bif Nat.ble (m*bytes) 140737488355328 then some ⟨.osl (h.length+1) 0 m sz,h++[.freed,.live (.arr sz m false gy)],[]⟩ else none
      | _=>none) else none
    | _,_=>none
theorem vf {x y:Operand}{t t2:TypeId}(ho:o.op = .call { callee:=.builtin .append,args:=#[x,y],argTypes:=#[t,t2] })(e:qw P t t2 h (ax ts x) (ax ts y)=some r):iD P o ts h r:=by
  unfold qw at e
  split at e
  · cases e
  · rename_i e0 g sz hs
    split at e
    · rename_i sz' bytes m gy hin hsrc
      obtain ⟨h0,e2⟩:=aG e
      clear e
      simp only [Bool.and_eq_true] at h0
      obtain ⟨⟨⟨h1,h2⟩,h3⟩,h4⟩:=h0
      obtain rfl:=Nat.eq_of_beq_eq_true h1
      have h3':0 < bytes:=by simpa using h3
      have h4':0 < sz':=by simpa using h4
      split at e2
      · rename_i id off n sz2 hx
        split at e2
        · rename_i sz3 N ex get hh
          rw [dY] at hh
          obtain ⟨h5,e3⟩:=aG e2
          clear e2
          simp only [Bool.and_eq_true] at h5
          obtain ⟨⟨⟨k1,k2⟩,k3⟩,k4⟩:=h5
          obtain rfl:=Nat.eq_of_beq_eq_true k1
          obtain rfl:=Nat.eq_of_beq_eq_true k2
          cases e3
          refine ⟨ae.value fun G a w hi hr=>?_,bD.setPush _ _ _ _⟩
          obtain ⟨news,n1,n2⟩:=rI hsrc hi h2 h4' (hr.ev y)
          obtain ⟨val,w',G',hrun,r1,r2,r3⟩:=iW (ty:=o.type) (gn:=fun i j=>bif Nat.blt i n then get (off+i) j else gy (i - n) j) hi (hr.ev_of hx) hh (Nat.le_of_ble_eq_true k3) hs hin n1 n2 (Nat.le_of_ble_eq_true k4) h3' (fun i hi' j hj=>by
            have c:Nat.blt i n=true:=by simpa using hi'
            simp only [c,cond_true]) (fun i hi' j hj=>by
            have c:Nat.blt (n+i) n=false:=by rw [Bool.eq_false_iff]; simp
            simp only [c,cond_false,Nat.add_sub_cancel_left])
          exact ⟨val,w',G',eZ ho hrun,r1,r2,r3⟩
        · cases e2
      · rename_i hx
        obtain ⟨h5,e3⟩:=aG e2
        clear e2
        cases e3
        refine ⟨ae.value fun G a w hi hr=>?_,bD.push _ _⟩
        obtain ⟨G1,g1,g2,g3⟩:=hi.nilrow sz' h4' false (fun _ _=>D.nilp)
        obtain ⟨news,n1,n2⟩:=rI hsrc hi h2 h4' (hr.ev y)
        have n2':ld G1 news m sz' gy:=fun i hi j hj=>by obtain ⟨v,c1,c2⟩:=n2 i hi j hj; exact ⟨v,c1,c2.mono g3.le.I⟩
        have hxn:=jB (hr.ev_of hx)
        have hx':RV G1 (a.eval x) (.osl h.length 0 0 sz'):=by
          rw [hxn]
          exact .osl none 0 0 sz' 0 g1 (by simp) (Nat.le_refl _) (.inr ⟨rfl,rfl⟩)
        obtain ⟨val,w',G',hrun,r1,r2,r3⟩:=iW (ty:=o.type) (gn:=gy) (ex:=false) (N:=0) (get:=fun _ _=>D.nilp) g2 hx' (by simp) (by simp) hs hin n1 n2' (by rw [Nat.zero_add]; exact Nat.le_of_ble_eq_true h5) h3' (fun i hi=>by omega) (fun i hi j hj=>by rw [Nat.zero_add])
        have e1:(h++[ak.live (.arr sz' 0 false (fun _ _=>D.nilp))]).set h.length .freed++[.live (.arr sz' (0+m) false gy)]=h++[.freed,.live (.arr sz' m false gy)]:=by
          rw [List.set_append_right _ _ (Nat.le_refl _)]
          simp
        rw [e1] at r2 r3
        refine ⟨val,w',G',eZ ho hrun,?_,r2,g3.trans r3⟩
        simpa using r1
      · cases e2
    · cases e
end
end
end Go.Abs
namespace Go.Abs
noncomputable section
abbrev IK (ks:List IntKind):={ l:List Int // l.length=ks.length }
noncomputable def bA (ks:List IntKind)(l:IK ks):Value:=.agg ((ks.zip l.1).map fun p=>Value.int p.1 p.2).toArray
noncomputable def iX (ks:List IntKind)(l:IK ks):D:=.agg ((ks.zip l.1).map fun p=>D.int p.1 p.2)
noncomputable def nP:List IntKind→List D→Option (List Int)
  | [],[]=>some []
  | k::ks,.int k' n::ds=>bif decide (k=k') then (match nP ks ds with | some l=>some (n::l) | none=>none) else none
  | _,_=>none
theorem kJ:∀ {ks:List IntKind} {ds:List D} {l:List Int},nP ks ds=some l→l.length=ks.length∧(ks.zip l).map (fun p=>D.int p.1 p.2)=ds
  | [],[],l,h=>by cases h; exact ⟨rfl,rfl⟩
  | [],_::_,l,h=>by cases h
  | k::ks,[],l,h=>by cases h
  | k::ks,d::ds,l,h=>by
    cases d with
    | int k' n=>
      simp only [nP] at h
      obtain ⟨h0,h1⟩:=aG h
      split at h1
      · rename_i l' hl
        cases h1
        obtain ⟨a,b⟩:=kJ hl
        have h0:=of_decide_eq_true h0
        subst h0
        exact ⟨by simp [a],by simp [b]⟩
      · cases h1
    | _=>cases h
noncomputable def rT (ks:List IntKind):D→Option (IK ks)
  | .agg ds=>match h:nP ks ds with
    | some l=>some ⟨l,(kJ h).1⟩
    | none=>none
  | _=>none
theorem qU {ks:List IntKind}{d:D}{a:IK ks}(h:rT ks d=some a):iX ks a=d:=by
  unfold rT at h
  split at h
  · split at h
    · rename_i l hl; cases h; exact congrArg D.agg (kJ hl).2
    · cases h
  · cases h
noncomputable def va (kd:IntKind):D→Option Int
  | .int k n=>bif decide (k=kd) then some n else none
  | _=>none
theorem sG {kd:IntKind}{d:D}{n:Int}(h:va kd d=some n):D.int kd n=d:=by
  unfold va at h
  split at h
  · obtain ⟨h0,h1⟩:=aG h
    cases h1
    rw [of_decide_eq_true h0]
  · cases h
noncomputable def vb:D→Option ByteArray
  | .str s=>some s
  | _=>none
theorem sH {d:D}{n:ByteArray}(h:vb d=some n):D.str n=d:=by
  unfold vb at h
  split at h
  · cases h; rfl
  · cases h
noncomputable def mP {K:Type}(dec:D→Option K):List (D×D)→Option (List (K×D))
  | []=>some []
  | (k,v)::es=>match dec k,mP dec es with
    | some a,some l=>some ((a,v)::l)
    | _,_=>none
theorem lN {K:Type}{dec:D→Option K}{ek:K→D}(hd:∀ d a,dec d=some a→ek a=d):∀ {es:List (D×D)} {xs:List (K×D)},mP dec es=some xs→aI ek (fun d:D=>d) xs=es
  | [],xs,h=>by cases h; rfl
  | (k,v)::es,xs,h=>by
    simp only [mP] at h
    split at h
    · rename_i a l h1 h2
      cases h
      have:=lN hd h2
      simp only [aI,List.map_cons] at this ⊢
      rw [hd _ _ h1,this]
    · cases h
noncomputable def xB:AV→Option D
  | .d x=>some x
  | .agg cs=>(match mH cs with | some ds=>some (.agg ds) | none=>none)
  | _=>none
theorem sP {x:AV}{d:D}(e:xB x=some d):aF x (.d d):=by
  unfold xB at e
  split at e
  · cases e; exact aF.refl _
  · split at e <;> cases e
    rename_i cs ds h
    exact iF h
  · cases e
section
variable {P:Program}{o:Oper}{ts ts':List (Nat×AV)}{h h':List ak}{v:AV}{r:ER}
noncomputable def tD (ts:List (Nat×AV))(y:Operand):Option (D×List (Nat×AV)):=match xB (ax ts y) with
  | none=>none
  | some d=>match y with
    | .tmp t=>(match look ts t with
      | some _=>some (d,(t,.d d)::ts)
      | none=>none)
    | _=>(match ax ts y with | .d _=>some (d,ts) | _=>none)
theorem pf {y:Operand}{d:D}(e:tD ts y=some (d,ts')):GStep h.length ⟨ts,h⟩ ⟨ts',h⟩∧ax ts' y = .d d∧∀ x:Operand,ax ts x=ax ts' x∨(x=y∧aF (ax ts x) (ax ts' x)):=by
  unfold tD at e
  split at e
  · cases e
  · rename_i d0 hd
    split at e
    · rename_i t
      split at e
      · rename_i u hu
        cases e
        have he:ax ts (.tmp t)=u:=by simp [ax,hu]
        rw [he] at hd
        refine ⟨GStep.see hu (sP hd),by simp [ax,look],fun x=>?_⟩
        cases x with
        | tmp j=>
          by_cases c:t=j
          · subst c
            refine .inr ⟨rfl,?_⟩
            rw [he]
            have:ax ((t,AV.d d)::ts) (.tmp t) = .d d:=by simp [ax,look]
            rw [this]
            exact sP hd
          · refine .inl ?_
            have:(Nat.beq t j)=false:=by rw [Bool.eq_false_iff]; intro hb; exact c (Nat.eq_of_beq_eq_true hb)
            simp [ax,look,this]
        | const v=>exact .inl rfl
        | global g=>exact .inl rfl
        | func f=>exact .inl rfl
      · cases e
    · split at e
      · rename_i x hx
        cases e
        rw [hx] at hd
        cases hd
        exact ⟨GStep.refl _ _,hx,fun _=>.inl rfl⟩
      · cases e
noncomputable def mC (P:Program)(KT:List (TypeId×List IntKind)):Prop:=∀ t ks,(t,ks)∈KT→fc P t (bA ks) (iX ks)
noncomputable def pz:List (TypeId×List IntKind)→TypeId→Option (List IntKind)
  | [],_=>none
  | (k,ks)::r,t=>bif Nat.beq k t then some ks else pz r t
theorem m0:∀ {KT:List (TypeId×List IntKind)} {t ks},pz KT t=some ks→(t,ks)∈KT
  | [],t,ks,h=>by cases h
  | (k,x)::r,t,ks,h=>by
    simp only [pz] at h
    cases hb:Nat.beq k t with
    | true=>rw [hb] at h; cases h; obtain rfl:k=t:=Nat.eq_of_beq_eq_true hb; exact List.mem_cons_self ..
    | false=>rw [hb] at h; exact List.mem_cons_of_mem _ (m0 (by simpa using h))
noncomputable def isString (P:Program)(t:TypeId):Bool:=match P.underlying t with | some .string=>true | _=>false
noncomputable def pC {K:Type}[DecidableEq K](dec:D→Option K)(es:List (D×D))(k z:D)(ok:Bool):Option AV:=match mP dec es,dec k with
  | some xs,some a=>(match bu xs a with
    | some y=>some (bif ok then .tup [.d y,.d (.bool true)] else .d y)
    | none=>some (bif ok then .tup [.d z,.d (.bool false)] else .d z))
  | _,_=>none
theorem oQ {K:Type}[DecidableEq K]{dec:D→Option K}{ek:K→D}{val:K→Value}{t k e:TypeId}(M:fc P k val ek)(hd:∀ d a,dec d=some a→ek a=d){x y:Operand}{ok:Bool}{id:Nat}{es:List (D×D)}{kd z:D}
    (ho:o.op = .lookup t x y ok) (hx:ax ts x = .mp id) (hh:h[id]? = some (.live (.mp es))) (hy:ax ts y = .d kd) (ht:gU P t=some (k,e)) (hz:kE P e=some z) (hr:pC dec es kd z ok=some v):ae P o ts h v h:=by
  unfold pC at hr
  split at hr
  · rename_i xs a h1 h2
    have e1:=lN hd h1
    have e2:=hd _ _ h2
    subst e1 e2
    cases ok with
    | true=>
      have hop:=ae.lookupOkT (P:=P) (h:=h) (ev:=fun d:D=>d) M xs a z ho hx hh hy ht hz
      split at hr <;> (rename_i hm; cases hr; rw [hm] at hop; exact hop)
    | false=>
      have hop:=ae.lookupT (P:=P) (h:=h) (ev:=fun d:D=>d) M xs a z ho hx hh hy ht hz
      split at hr <;> (rename_i hm; cases hr; rw [hm] at hop; exact hop)
  · cases hr
noncomputable def n0 (P:Program)(KT:List (TypeId×List IntKind))(t:TypeId)(ok:Bool)(h:List ak)(x:AV)(kd:D):Option AV:=match gU P t with
  | none=>none
  | some (k,e)=>match kE P e,x with
    | some z,.mp id=>(match fw h id with
      | some (.live (.mp es))=>(match im P k with
        | some kk=>pC (va kk) es kd z ok
        | none=>bif isString P k then pC vb es kd z ok else (match pz KT k with
          | some ks=>pC (rT ks) es kd z ok
          | none=>none))
      | _=>none)
    | _,_=>none
theorem jQ {t:TypeId}(h:isString P t=true):P.underlying t=some .string:=by
  unfold isString at h
  split at h
  · assumption
  · cases h
theorem vw {KT:List (TypeId×List IntKind)}(hK:mC P KT){t:TypeId}{x y:Operand}{ok:Bool}{kd:D}(ho:o.op = .lookup t x y ok)(hy:ax ts y = .d kd)(e:n0 P KT t ok h (ax ts x) kd=some v):ae P o ts h v h:=by
  unfold n0 at e
  split at e
  · cases e
  · rename_i k e0 ht
    split at e
    · rename_i z id hz hx
      split at e
      · rename_i es hh
        rw [dY] at hh
        split at e
        · rename_i kk hkk
          exact oQ (oU hkk) (fun d a h=>sG h) ho hx hh hy ht hz e
        · cases hs:isString P k with
          | true=>rw [hs] at e; exact oQ (oV (jQ hs)) (fun d a h=>sH h) ho hx hh hy ht hz e
          | false=>
            rw [hs] at e
            simp only [cond_false] at e
            split at e
            · rename_i ks hks
              exact oQ (hK _ _ (m0 hks)) (fun d a h=>qU h) ho hx hh hy ht hz e
            · cases e
      · cases e
    · cases e
noncomputable def qp (P:Program)(KT:List (TypeId×List IntKind))(t:TypeId)(ok:Bool)(ts:List (Nat×AV))(h:List ak)(x y:Operand):Option AV:=match tD ts y with
  | some (kd,_)=>n0 P KT t ok h (ax ts x) kd
  | none=>none
theorem uT {KT:List (TypeId×List IntKind)}(hK:mC P KT){t:TypeId}{x y:Operand}{ok:Bool}(ho:o.op = .lookup t x y ok)(e:qp P KT t ok ts h x y=some v):ae P o ts h v h:=by
  unfold qp at e
  split at e
  · rename_i kd ts' hs
    obtain ⟨g1,g2,g3⟩:=pf (h:=h) hs
    refine ae.ghost g1 (vw (kd:=kd) hK ho g2 ?_)
    rcases g3 x with c | ⟨rfl,c⟩
    · rw [← c]; exact e
    · rw [g2] at c
      exfalso
      generalize ax ts x=xv at e c
      unfold n0 at e
      split at e
      · cases e
      · split at e
        · unfold aF at c
          split at c <;> first | (rename_i h1 _; cases h1; done) | skip
          all_goals first | (cases c; done) | skip
        · cases e
  · cases e
noncomputable def tM {K:Type}[DecidableEq K](dec:D→Option K)(ek:K→D)(es:List (D×D))(k v:D):Option (List (D×D)):=match mP dec es,dec k with
  | some xs,some a=>some (aI ek (fun d:D=>d) (aP xs a v))
  | _,_=>none
theorem qR {K:Type}[DecidableEq K]{dec:D→Option K}{ek:K→D}{val:K→Value}{t k e:TypeId}(M:fc P k val ek)(hd:∀ d a,dec d=some a→ek a=d){x y z:Operand}{id:Nat}{es es':List (D×D)}{kd vd:D}
    (ho:o.op = .mapUpdate t x y z∨o.op = .insert t x y z) (hx:ax ts x = .mp id) (hh:h[id]? = some (.live (.mp es))) (hy:ax ts y = .d kd) (hz:ax ts z = .d vd) (ht:gU P t=some (k,e)) (hr:tM dec ek es kd vd=some es'):ae P o ts h .bad (h.set id (.live (.mp es'))):=by
  unfold tM at hr
  split at hr
  · rename_i xs a h1 h2
    have e1:=lN hd h1
    have e2:=hd _ _ h2
    subst e1 e2
    cases hr
    exact ae.updT (P:=P) (h:=h) (ev:=fun d:D=>d) M xs a vd ho hx hh hy hz ht
  · cases hr
noncomputable def xx (P:Program)(KT:List (TypeId×List IntKind))(t:TypeId)(h:List ak)(x:AV)(kd vd:D):Option ER:=match gU P t,x with
  | some (k,_),.mp id=>(match fw h id with
    | some (.live (.mp es))=>(match (match im P k with
        | some kk=>tM (va kk) (D.int kk) es kd vd
        | none=>bif isString P k then tM vb D.str es kd vd else (match pz KT k with
          | some ks=>tM (rT ks) (iX ks) es kd vd
          | none=>none)) with
      | some es'=>some ⟨.bad,h.set id (.live (.mp es')),[id]⟩
      | none=>none)
    | _=>none)
  | _,_=>none
theorem yR {KT:List (TypeId×List IntKind)}(hK:mC P KT){t:TypeId}{x y z:Operand}{kd vd:D}(ho:o.op = .mapUpdate t x y z∨o.op = .insert t x y z)(hy:ax ts y = .d kd)(hz:ax ts z = .d vd)(e:xx P KT t h (ax ts x) kd vd=some r):iD P o ts h r:=by
  unfold xx at e
  split at e
  · rename_i k e0 id ht hx
    split at e
    · rename_i es hh
      rw [dY] at hh
      split at e
      · rename_i es' hes
        cases e
        refine ⟨?_,bD.set _ _ _⟩
        split at hes
        · rename_i kk hkk
          exact qR (oU hkk) (fun d a h=>sG h) ho hx hh hy hz ht hes
        · cases hs:isString P k with
          | true=>rw [hs] at hes; exact qR (oV (jQ hs)) (fun d a h=>sH h) ho hx hh hy hz ht hes
          | false=>
            rw [hs] at hes
            simp only [cond_false] at hes
            split at hes
            · rename_i ks hks
              exact qR (hK _ _ (m0 hks)) (fun d a h=>qU h) ho hx hh hy hz ht hes
            · cases hes
      · cases e
    · cases e
  · cases e
noncomputable def uV (P:Program)(KT:List (TypeId×List IntKind))(t:TypeId)(ts:List (Nat×AV))(h:List ak)(x y z:Operand):Option ER:=match tD ts y with
  | some (kd,ts1)=>(match tD ts1 z with
    | some (vd,ts2)=>(match ax ts2 y with
      | .d kd'=>xx P KT t h (ax ts2 x) kd' vd
      | _=>none)
    | none=>none)
  | none=>none
theorem t5 {KT:List (TypeId×List IntKind)}(hK:mC P KT){t:TypeId}{x y z:Operand}(ho:o.op = .mapUpdate t x y z∨o.op = .insert t x y z)(e:uV P KT t ts h x y z=some r):iD P o ts h r:=by
  unfold uV at e
  split at e
  · rename_i kd ts1 hs
    split at e
    · rename_i vd ts2 hs2
      split at e
      · rename_i kd' hkd
        obtain ⟨g1,g2,_⟩:=pf (h:=h) hs
        obtain ⟨f1,f2,_⟩:=pf (h:=h) hs2
        obtain ⟨a1,a2⟩:=yR (kd:=kd') (vd:=vd) hK ho hkd f2 e
        exact ⟨ae.ghost (g1.trans f1) a1,a2⟩
      · cases e
    · cases e
  · cases e
end
end
end Go.Abs
namespace Go.Abs
noncomputable section
section
variable {P:Program}{o:Oper}{ts ts':List (Nat×AV)}{h h':List ak}{v:AV}{r:ER}
noncomputable def vR (P:Program)(t:TypeId):Option (Nat×Nat):=match P.underlying t with
  | some (.array n e)=>(match P.info? e with | some i=>some (n,i.size) | none=>none)
  | _=>none
theorem t6 {t:TypeId}{n sz:Nat}(h:vR P t=some (n,sz)):∃ e,P.underlying t=some (.array n e)∧∀ w:World,(sizeOf e).run P w = .ok sz w:=by
  unfold vR at h
  split at h
  · rename_i n' e he
    split at h
    · rename_i i hi
      cases h
      exact ⟨e,he,fun w=>by simp [sizeOf,typeInfo,hi]⟩
    · cases h
  · cases h
theorem j7 {t:TypeId}{n sz:Nat}(hs:vR P t=some (n,sz)){k:IntKind}{i:Int}(h0:0≤i)(h1:i < n)(b o':Nat)(w:World) :
    (Instr.indexAt t (.pointer (some ⟨b,o',none⟩)) (.int k i)).run P w = .ok (.pointer (some ⟨b,o'+i.toNat*sz,none⟩)) w:=by
  obtain ⟨e,hu,he⟩:=t6 hs
  simp only [Instr.indexAt,asIntOf,run_underlying hu,Sem.run_bind,Sem.run_pure,Result.andThen_ok,Instr.sureAddr]
  simp [h0,h1,he,Addr.add_none]
noncomputable def nu (P:Program)(t:TypeId)(x y:AV):Option AV:=match vR P t,y with
  | some (n,sz),.d (.int _ i)=>bif decide (0≤i)&&decide (i < n) then (match x with
    | .ptr id off=>some (.ptr id (off+i.toNat*sz))
    | .eptr id j k s=>some (.eptr id j (k+i.toNat*sz) s)
    | .vp m get=>some (.vp (m - i.toNat*sz) fun j=>get (i.toNat*sz+j))
    | _=>none) else none
  | _,_=>none
theorem gf {t:TypeId}{x y:Operand}(ho:o.op = .indexAddr t x y)(e:nu P t (ax ts x) (ax ts y)=some v):ae P o ts h v h:=by
  unfold nu at e
  split at e
  · rename_i n sz k i hs hy
    obtain ⟨h0,e2⟩:=aG e
    clear e
    simp only [Bool.and_eq_true,decide_eq_true_eq] at h0
    split at e2 <;> cases e2
    · rename_i id off hx
      exact ae.same fun G a w hi hr=>by
        obtain ⟨b,o',e,hρ,hv⟩:=hE (hr.ev_of hx)
        refine ⟨.pointer (some ⟨b,o'+off+i.toNat*sz,none⟩),by simp only [execOp,ho,hv,dE (hr.ev_of hy),Sem.run_bind,j7 hs h0.1 h0.2,Result.andThen_ok,Sem.run_pure],?_⟩
        rw [Nat.add_assoc]; exact .ptr _ hρ
    · rename_i id j k' s hx
      exact ae.same fun G a w hi hr=>by
        obtain ⟨b,o',e,hρ,hv⟩:=iK (hr.ev_of hx)
        refine ⟨.pointer (some ⟨b,o'+j*s+k'+i.toNat*sz,none⟩),by simp only [execOp,ho,hv,dE (hr.ev_of hy),Sem.run_bind,j7 hs h0.1 h0.2,Result.andThen_ok,Sem.run_pure],?_⟩
        rw [Nat.add_assoc (o'+j*s)]; exact .eptr _ _ _ hρ
    · rename_i m get hx
      exact ae.same fun G a w hi hr=>by
        obtain ⟨b,o',u,hv,hI,hR⟩:=nH (hr.ev_of hx)
        refine ⟨.pointer (some ⟨b,o'+i.toNat*sz,none⟩),by simp only [execOp,ho,hv,dE (hr.ev_of hy),Sem.run_bind,j7 hs h0.1 h0.2,Result.andThen_ok,Sem.run_pure],?_⟩
        exact .vp b (o'+i.toNat*sz) (fun j=>u (i.toNat*sz+j)) (fun j hj=>by rw [Nat.add_assoc]; exact hI _ (by omega)) (fun j hj=>hR _ (by omega))
  · cases e
noncomputable def yy (k:IntKind):Int→List AV→Option Int
  | x,[]=>some x
  | x,.d (.int k' y)::l=>bif decide (k'=k) then yy k (if y > x then y else x) l else none
  | _,_=>none
noncomputable def yx (k:IntKind):Int→List AV→Option Int
  | x,[]=>some x
  | x,.d (.int k' y)::l=>bif decide (k'=k) then yx k (if y < x then y else x) l else none
  | _,_=>none
theorem ut {G:Gh}{w:World}{k:IntKind}:∀ (l:List AV) (vs:List Value) (x n:Int),yy k x l=some n→vs.length=l.length→(∀ i,i < l.length→RV G (vs.getD i undef) (l.getD i default))→(vs.foldlM Builtin.max2 (.int k x)).run P w = .ok (.int k n) w
  | [],vs,x,n,e,hl,_=>by cases List.eq_nil_of_length_eq_zero hl; cases e; rfl
  | u::l,[],x,n,e,hl,_=>by simp at hl
  | u::l,v::vs,x,n,e,hl,hr=>by
    have h0:=hr 0 (by simp)
    simp at h0
    cases u with
    | d dd=>
      cases dd with
      | int k' y=>
        simp only [yy] at e
        obtain ⟨c,e2⟩:=aG e
        obtain rfl:=of_decide_eq_true c
        obtain rfl:=dE h0
        have:=ut (w:=w) l vs _ n e2 (by simpa using hl) (fun i hi=>by simpa using hr (i+1) (by simpa using hi))
        simp only [List.foldlM_cons,Builtin.max2,Sem.run_bind,Sem.run_pure,Result.andThen_ok]
        exact this
      | _=>cases e
    | _=>cases e
theorem ur {G:Gh}{w:World}{k:IntKind}:∀ (l:List AV) (vs:List Value) (x n:Int),yx k x l=some n→vs.length=l.length→(∀ i,i < l.length→RV G (vs.getD i undef) (l.getD i default))→(vs.foldlM Builtin.min2 (.int k x)).run P w = .ok (.int k n) w
  | [],vs,x,n,e,hl,_=>by cases List.eq_nil_of_length_eq_zero hl; cases e; rfl
  | u::l,[],x,n,e,hl,_=>by simp at hl
  | u::l,v::vs,x,n,e,hl,hr=>by
    have h0:=hr 0 (by simp)
    simp at h0
    cases u with
    | d dd=>
      cases dd with
      | int k' y=>
        simp only [yx] at e
        obtain ⟨c,e2⟩:=aG e
        obtain rfl:=of_decide_eq_true c
        obtain rfl:=dE h0
        have:=ur (w:=w) l vs _ n e2 (by simpa using hl) (fun i hi=>by simpa using hr (i+1) (by simpa using hi))
        simp only [List.foldlM_cons,Builtin.min2,Sem.run_bind,Sem.run_pure,Result.andThen_ok]
        exact this
      | _=>cases e
    | _=>cases e
noncomputable def xQ (l:List AV):Option AV:=match l with
  | .d (.int k x)::l=>(match yy k x l with | some n=>some (.d (.int k n)) | none=>none)
  | _=>none
noncomputable def xR (l:List AV):Option AV:=match l with
  | .d (.int k x)::l=>(match yx k x l with | some n=>some (.d (.int k n)) | none=>none)
  | _=>none
theorem jC {args:Array Operand}{tys:Array TypeId}(ho:o.op = .call { callee:=.builtin .max,args:=args,argTypes:=tys })(e:xQ (args.toList.map (ax ts))=some v):ae P o ts h v h:=by
  unfold xQ at e
  split at e
  · rename_i k x l hl
    split at e
    · rename_i n hn
      cases e
      refine ae.same fun G a w hi hr=>⟨.int k n,?_,.d (.int _ _)⟩
      cases ha:args.toList with
      | nil=>rw [ha] at hl; cases hl
      | cons y ys=>
        rw [ha] at hl
        simp only [List.map_cons,List.cons.injEq] at hl
        have hy:=dE (hr.ev_of hl.1)
        have h2:(args.map a.eval).toList=Value.int k x::ys.map a.eval:=by rw [Array.toList_map,ha,List.map_cons,hy]
        have hrun:=ut (P:=P) (G:=G) (w:=w) l (ys.map a.eval) x n hn (by rw [← hl.2]; simp) (fun i hi=>by
          rw [← hl.2] at hi ⊢
          have hi':i < ys.length:=by simpa using hi
          simp only [List.getD_eq_getElem?_getD,List.getElem?_map,List.getElem?_eq_getElem hi',Option.map_some,Option.getD_some]
          exact hr.ev _)
        simp [execOp,ho,resolve,invoke,builtin,Builtin.max_,hrun,ha,hy]
    · cases e
  · cases e
theorem n3 {args:Array Operand}{tys:Array TypeId}(ho:o.op = .call { callee:=.builtin .min,args:=args,argTypes:=tys })(e:xR (args.toList.map (ax ts))=some v):ae P o ts h v h:=by
  unfold xR at e
  split at e
  · rename_i k x l hl
    split at e
    · rename_i n hn
      cases e
      refine ae.same fun G a w hi hr=>⟨.int k n,?_,.d (.int _ _)⟩
      cases ha:args.toList with
      | nil=>rw [ha] at hl; cases hl
      | cons y ys=>
        rw [ha] at hl
        simp only [List.map_cons,List.cons.injEq] at hl
        have hy:=dE (hr.ev_of hl.1)
        have h2:(args.map a.eval).toList=Value.int k x::ys.map a.eval:=by rw [Array.toList_map,ha,List.map_cons,hy]
        have hrun:=ur (P:=P) (G:=G) (w:=w) l (ys.map a.eval) x n hn (by rw [← hl.2]; simp) (fun i hi=>by
          rw [← hl.2] at hi ⊢
          have hi':i < ys.length:=by simpa using hi
          simp only [List.getD_eq_getElem?_getD,List.getElem?_map,List.getElem?_eq_getElem hi',Option.map_some,Option.getD_some]
          exact hr.ev _)
        simp [execOp,ho,resolve,invoke,builtin,Builtin.min_,hrun,ha,hy]
    · cases e
  · cases e
noncomputable def fC (get:Nat→Nat→D):Nat→Nat→Option (List Int)
  | 0,_=>some []
  | n+1,i=>match get i 0 with
    | .int .u8 x=>(match fC get n (i+1) with | some l=>some (x::l) | none=>none)
    | _=>none
noncomputable def strOf (l:List Int):ByteArray:=l.foldl (fun r n=>r.push (UInt8.ofNat n.toNat)) ByteArray.empty
theorem j6 {I:Nat→Nat→Option Value}{get:Nat→Nat→D}:∀ (n i:Nat) (l:List Int) (f:Nat→Value),fC get n i=some l→(∀ j,j < n→RD I (f j) (get (i+j) 0))→(List.range n).map f=l.map (Value.int .u8)
  | 0,i,l,f,h,_=>by cases h; rfl
  | n+1,i,l,f,h,hr=>by
    simp only [fC] at h
    split at h
    · rename_i x hx
      split at h
      · rename_i l' hl
        cases h
        have h0:=hr 0 (by omega)
        rw [Nat.add_zero,hx] at h0
        rw [List.range_succ_eq_map,List.map_cons,List.map_map,List.map_cons,qZ h0]
        congr 1
        exact j6 n (i+1) l' (fun j=>f (j+1)) hl (fun j hj=>by have:=hr (j+1) (by omega); rwa [show i+(j+1)=i+1+j by omega] at this)
      · cases h
    · cases h
noncomputable def sO (P:Program)(t:TypeId):Bool:=match P.underlying t with
  | some (.slice e)=>(match P.underlying e with | some (.int .u8)=>true | _=>false)
  | _=>false
theorem xA {t:TypeId}(h:sO P t=true):∃ e,P.underlying t=some (.slice e)∧P.underlying e=some (.int .u8):=by
  unfold sO at h
  split at h
  · split at h
    · exact ⟨_,by assumption,by assumption⟩
    · cases h
  · cases h
noncomputable def pV (P:Program)(s t:TypeId)(h:List ak)(x:AV):Option AV:=bif sO P s&&isString P t then (match x with
  | .nsl=>some (.d (.str ByteArray.empty))
  | .d (.sl n sz get)=>bif Nat.beq sz 1 then (match fC get n 0 with | some l=>some (.d (.str (strOf l))) | none=>none) else none
  | .osl id off n sz=>(match fw h id with
    | some (.live (.arr sz' N ex get))=>bif Nat.beq sz 1&&Nat.beq sz' 1&&Nat.ble (off+n) N then (match fC (fun i j=>get (off+i) j) n 0 with | some l=>some (.d (.str (strOf l))) | none=>none) else none
    | _=>none)
  | _=>none) else none
theorem rA {s t:TypeId}{x:Operand}(ho:o.op = .convert s t x)(e:pV P s t h (ax ts x)=some v):ae P o ts h v h:=by
  unfold pV at e
  obtain ⟨h0,e1⟩:=aG e
  clear e
  simp only [Bool.and_eq_true] at h0
  obtain ⟨el,hs,he⟩:=xA h0.1
  have ht:=jQ h0.2
  have hconv:∀ (w:World) (a:Option Addr) (l c:Nat),(convert s t (.slice a l c)).run P w=(Conv.bytesToString (.slice a l c)).run P w:=fun w a l c=>run_convert_bytes_string w s t el a l c hs he ht
  split at e1
  · rename_i hx
    cases e1
    exact ae.same fun G a w hi hr=>⟨.string ByteArray.empty,by simp [execOp,ho,jB (hr.ev_of hx),hconv,Conv.bytesToString],.d (.str _)⟩
  · rename_i n sz get hx
    obtain ⟨h1,e2⟩:=aG e1
    clear e1
    obtain rfl:=Nat.eq_of_beq_eq_true h1
    split at e2
    · rename_i l hl
      cases e2
      refine ae.same fun G a w hi hr=>⟨.string (strOf l),?_,.d (.str _)⟩
      rcases nF (hr.ev_of hx) with ⟨rfl,ad,c,hv⟩ | ⟨b,o',c,u,hv,hc,hI,hO,hR⟩
      · have:l=[]:=by simpa [fC] using hl.symm
        subst this
        cases ad <;> simp [execOp,ho,hv,hconv,Conv.bytesToString,loadCells,loadCellsFrom,strOf]
      · have hload:(loadCells ⟨b,o',none⟩ n).run P w = .ok (l.map (Value.int .u8)).toArray w:=by
          rw [run_loadCells w ⟨b,o',none⟩ n (fun j=>u j 0) (fun j hj=>by
            rw [Addr.add_none]
            have:=hi.imm _ _ _ (hI j hj 0 (by omega))
            simpa using this)]
          rw [j6 (I:=G.I) n 0 l (fun j=>u j 0) hl (fun j hj=>by rw [Nat.zero_add]; exact hR j hj 0 (by omega))]
        simp only [execOp,ho,hv,hconv,Sem.run_bind,run_bytesToString w _ n c l hload,Result.andThen_ok,Sem.run_pure]
        rfl
    · cases e2
  · rename_i id off n sz hx
    split at e1
    · rename_i sz' N ex get hh
      rw [dY] at hh
      obtain ⟨h1,e2⟩:=aG e1
      clear e1
      simp only [Bool.and_eq_true] at h1
      obtain rfl:=Nat.eq_of_beq_eq_true h1.1.1
      obtain rfl:=Nat.eq_of_beq_eq_true h1.1.2
      have hN:=Nat.le_of_ble_eq_true h1.2
      split at e2
      · rename_i l hl
        cases e2
        refine ae.same fun G a w hi hr=>⟨.string (strOf l),?_,.d (.str _)⟩
        obtain ⟨b,o',e,c,ad,hρ,hv,hcap,hnc,had⟩:=hD (hr.ev_of hx)
        obtain ⟨hb,hc,hk,hle,hex,hz⟩:=iG hi hh hρ
        rcases had with rfl | ⟨rfl,rfl⟩
        case inr=>
          obtain rfl:n=0:=by omega
          have:l=[]:=by simpa [fC] using hl.symm
          subst this
          simp [execOp,ho,hv,hconv,Conv.bytesToString,strOf]
        have hcell:∀ j,j < n→∃ x,w.cell? ⟨b,o'+off+j,none⟩=some x∧RD G.I x (get (off+j) 0):=fun j hj=>by
          obtain ⟨x,c1,c2,c3⟩:=hc (off+j) (by omega) 0 (by omega)
          have c1':w.cell? ⟨b,o'+(off+j)*1+0,none⟩=some x:=c1
          rw [show o'+(off+j)*1+0=o'+off+j by omega] at c1'
          exact ⟨x,c1',c3⟩
        have hload:(loadCells ⟨b,o'+off*1,none⟩ n).run P w = .ok (l.map (Value.int .u8)).toArray w:=by
          rw [run_loadCells w ⟨b,o'+off*1,none⟩ n (fun j=>(w.cell? ⟨b,o'+off+j,none⟩).getD undef) (fun j hj=>by
            rw [Addr.add_none,Nat.mul_one]
            obtain ⟨x,c1,_⟩:=hcell j hj
            rw [c1]; rfl)]
          rw [j6 (I:=G.I) n 0 l _ hl (fun j hj=>by
            obtain ⟨x,c1,c2⟩:=hcell j hj
            rw [Nat.zero_add,c1]; exact c2)]
        simp only [execOp,ho,hv,hconv,Sem.run_bind,run_bytesToString w _ n c l hload,Result.andThen_ok,Sem.run_pure]
        rfl
      · cases e2
    · cases e1
  · cases e1
end
end
end Go.Abs
namespace Go.Abs
section
variable {P:Program}{o:Oper}{ts:List (Nat×AV)}{h:List ak}
theorem ov (xs:List Int):∀ (n i:Nat),i+n=xs.length→fC (row (eI .u8) xs) n i=some (xs.drop i)
  | 0,i,h=>by rw [fC,List.drop_eq_nil_of_le (by omega)]
  | n+1,i,h=>by
    have hi:i < xs.length:=by omega
    have e:row (eI .u8) xs i 0 = .int .u8 xs[i]:=by simp [row,eI,List.getD_eq_getElem?_getD,hi]
    rw [fC,e]
    simp only [ov xs n (i+1) (by omega)]
    rw [List.drop_eq_getElem_cons hi]
theorem tY (xs:List Int):fC (row (eI .u8) xs) xs.length 0=some xs:=by simpa using ov xs xs.length 0 (by omega)
theorem ae.toStrT (xs:List Int){s t:TypeId}{x:Operand}(ho:o.op = .convert s t x)(hx:ax ts x = .d (af 1 (eI .u8) xs))(hs:sO P s=true)(ht:isString P t=true):ae P o ts h (.d (.str (strOf xs))) h:=by
  refine rA ho ?_
  rw [hx]
  unfold pV
  rw [hs,ht]
  simp only [Bool.and_self,cond_true,af,Nat.beq_refl]
  rw [tY]
end
end Go.Abs
namespace Go.Abs
noncomputable section
section
variable {P:Program}{o:Oper}{ts ts':List (Nat×AV)}{h h':List ak}{v:AV}{r:ER}{w:World}
noncomputable def ns (P:Program)(t:TypeId)(ps:List (Nat×AV)):Option AV:=match vR P t,cd P t with
  | some (_,sz),some z=>(match f6 (fun i=>some (i*sz,sz)) z ps with
    | some r=>some (.agg r)
    | none=>none)
  | _,_=>none
theorem jX {t:TypeId}{parts:Array (Nat×Operand)}(ho:o.op = .build t parts)(e:ns P t (parts.toList.map fun p=>(p.1,ax ts p.2))=some v):ae P o ts h v h:=by
  unfold ns at e
  split at e
  · rename_i n sz z hs hz
    split at e <;> cases e
    rename_i r hf
    refine ae.same fun G a w hi hr=>?_
    obtain ⟨el,hu,hsize⟩:=t6 hs
    obtain ⟨z0,hrun,hsz,hv⟩:=j8 (w:=w) hz
    obtain ⟨out,o1,o2,o3⟩:=nS (G:=G) _ (parts.toList.map fun p=>(p.1,a.eval p.2)) z z0.cells r hf hsz (hv G) (by simp) (fun j p hj=>by
      rw [List.getElem?_map] at hj
      obtain ⟨q,hq,rfl⟩:=Option.map_eq_some_iff.1 hj
      exact ⟨a.eval q.2,by rw [List.getElem?_map,hq]; rfl,hr.ev q.2⟩)
    refine ⟨.agg out,?_,.agg out r o2 o3⟩
    have e2:(parts.map fun (x:Nat×Operand)=>(x.1,a.eval x.2)).toList=parts.toList.map fun p=>(p.1,a.eval p.2):=by simp
    rw [← e2] at o1
    simp only [execOp,ho,Instr.build,Sem.run_bind,hrun,run_underlying hu,Result.andThen_ok,hsize]
    simp only [o1,Sem.run_pure,Result.andThen_ok]
  · cases e
noncomputable def vS (P:Program)(t:TypeId):Option (Nat×EK):=match P.underlying t with
  | some (.array n e)=>(match jN P e,P.info? e with
    | some k,some i=>bif i.size.beq 1&&Nat.beq (P.cellsOf e) 1 && !P.eqGuardType P.depth t then some (n,k) else none
    | _,_=>none)
  | _=>none
theorem kL {e:TypeId}{k:EK}(hk:jN P e=some k){I:Nat→Nat→Option Value}{xs ys:Array Value}(d:Nat):∀ (n i:Nat) (ds es:List D),ds.length=n→es.length=n→(∀ x∈ds,mo k x=true)→(∀ x∈es,mo k x=true)→
    (∀ j,j < n→RD I (xs.getD (i+j) undef) (ds.getD j default)∧i+j < xs.size)→(∀ j,j < n→RD I (ys.getD (i+j) undef) (es.getD j default)∧i+j < ys.size)→
    (Op.eqItems (d+1) e 1 xs ys (List.range' i n)).run P w = .ok (bs ds es) w
  | 0,i,ds,es,h1,h2,_,_,_,_=>by
    cases List.eq_nil_of_length_eq_zero h1
    cases List.eq_nil_of_length_eq_zero h2
    simp [Op.eqItems,bs]
  | n+1,i,[],es,h1,_,_,_,_,_=>by simp at h1
  | n+1,i,_::_,[],_,h2,_,_,_,_=>by simp at h2
  | n+1,i,x::ds,y::es,h1,h2,h3,h4,hx,hy=>by
    obtain ⟨x1,x2⟩:=hx 0 (by simp)
    obtain ⟨y1,y2⟩:=hy 0 (by simp)
    simp only [Nat.add_zero,List.getD_cons_zero] at x1 x2 y1 y2
    have xa:xs[i]? = some (xs.getD i undef):=by simp [Array.getD_eq_getD_getElem?,x2]
    have ya:ys[i]? = some (ys.getD i undef):=by simp [Array.getD_eq_getD_getElem?,y2]
    have ih:=kL hk (I:=I) (xs:=xs) (ys:=ys) d n (i+1) ds es (by simpa using h1) (by simpa using h2) (fun z hz=>h3 z (List.mem_cons_of_mem _ hz)) (fun z hz=>h4 z (List.mem_cons_of_mem _ hz)) (fun j hj=>by
      have:=hx (j+1) (by omega)
      rwa [show i+(j+1)=i+1+j by omega,List.getD_cons_succ] at this) (fun j hj=>by
      have:=hy (j+1) (by omega)
      rwa [show i+(j+1)=i+1+j by omega,List.getD_cons_succ] at this)
    rw [List.range'_succ]
    simp only [Op.eqItems,Nat.mul_one]
    simp only [Sem.run_bind,iO hk xa,iO hk ya,Result.andThen_ok,ud hk (h3 x (List.mem_cons_self ..)) (h4 y (List.mem_cons_self ..)) x1 y1]
    have hc:bs (x::ds) (y::es)=(pr x y&&bs ds es):=by
      cases ds with
      | nil=>cases es with
        | nil=>simp [bs]
        | cons _ _=>simp at h1 h2; omega
      | cons _ _=>rfl
    rw [hc]
    cases hb:pr x y
    · simp
    · simp only [Bool.not_true,Bool.false_eq_true,if_false,Bool.true_and]; exact ih
noncomputable def pm (k:EK):List D→Bool
  | []=>true
  | d::l=>mo k d&&pm k l
theorem mI {k:EK}:∀ {l:List D},pm k l=true→∀ x∈l,mo k x=true
  | d::l,h,x,hx=>by
    simp only [pm,Bool.and_eq_true] at h
    rcases List.mem_cons.1 hx with rfl | hx
    · exact h.1
    · exact mI h.2 x hx
noncomputable def tp (P:Program)(op:BinOp)(t:TypeId)(xs ys:List AV):Option AV:=match vS P t,mH xs,mH ys with
  | some (n,k),some ds,some es=>bif ds.length.beq n&&es.length.beq n&&pm k ds&&pm k es then (match op with
    | .eql=>some (.d (.bool (bs ds es)))
    | .neq=>some (.d (.bool (!bs ds es)))
    | _=>none) else none
  | _,_,_=>none
theorem wK {op:BinOp}{t t':TypeId}{x y:Operand}{xs ys:List AV}(ho:o.op = .binOp op t x y t')(hx:ax ts x = .agg xs)(hy:ax ts y = .agg ys)(e:tp P op t xs ys=some v):ae P o ts h v h:=by
  unfold tp at e
  split at e
  · rename_i n k ds es ht h1 h2
    obtain ⟨h0,e2⟩:=aG e
    clear e
    simp only [Bool.and_eq_true] at h0
    obtain ⟨⟨⟨c1,c2⟩,c3⟩,c4⟩:=h0
    have c1:=Nat.eq_of_beq_eq_true c1
    have c2:=Nat.eq_of_beq_eq_true c2
    rw [iF h1] at hx
    rw [iF h2] at hy
    unfold vS at ht
    split at ht
    · rename_i n' el hu
      split at ht
      · rename_i k' i hk hi
        obtain ⟨g0,g1⟩:=aG ht
        cases g1
        simp only [Bool.and_eq_true,Bool.not_eq_true'] at g0
        have hcell:=Nat.eq_of_beq_eq_true g0.1.2
        have hd:∀ (l:List D) (j:Nat),j < l.length→(l.map AV.d).getD j default = .d (l.getD j default):=fun l j hj=>by simp [List.getD_eq_getElem?_getD,hj]
        have main:∀ (G:Gh) (a:Act) (w:World),RT G a ts→∃ us vs,a.eval x = .agg us∧a.eval y = .agg vs∧(Op.equalIn 10000 t (.agg us) (.agg vs)).run P w = .ok (bs ds es) w:=by
          intro G a w hr
          obtain ⟨us,hus,xl,xr⟩:=nL (hr.ev_of hx)
          obtain ⟨vs,hvs,yl,yr⟩:=nL (hr.ev_of hy)
          refine ⟨us,vs,hus,hvs,?_⟩
          rw [run_equalIn_array w 9999 us vs hu hi,hcell,List.range_eq_range']
          refine kL (I:=G.I) hk 9998 n 0 ds es c1 c2 (mI c3) (mI c4) (fun j hj=>?_) (fun j hj=>?_)
          · have:=xr j (by simp; omega)
            rw [hd _ _ (by omega)] at this
            rw [Nat.zero_add]
            exact ⟨gu this,by rw [xl]; simp; omega⟩
          · have:=yr j (by simp; omega)
            rw [hd _ _ (by omega)] at this
            rw [Nat.zero_add]
            exact ⟨gu this,by rw [yl]; simp; omega⟩
        split at e2 <;> cases e2
        · refine ae.same fun G a w hi hr=>⟨.bool (bs ds es),?_,.d (.bool _)⟩
          obtain ⟨us,vs,e1,e2,e4⟩:=main G a w hr
          simp only [execOp,ho,e1,e2,Sem.run_bind,run_eqGuard_agg w .eql t x y us vs g0.2,Result.andThen_ok,run_eql_struct,e4,Sem.run_pure]
        · refine ae.same fun G a w hi hr=>⟨.bool (!bs ds es),?_,.d (.bool _)⟩
          obtain ⟨us,vs,e1,e2,e4⟩:=main G a w hr
          simp only [execOp,ho,e1,e2,Sem.run_bind,run_eqGuard_agg w .neq t x y us vs g0.2,Result.andThen_ok,run_neq_struct,e4,Sem.run_pure]
      · cases ht
    · cases ht
  · cases e
end
end
end Go.Abs
namespace Go.Abs
section
variable {P:Program}
theorem jb {ks:List IntKind}{l:List Int}(hl:l.length=ks.length){i:Nat}(hi:i < ks.length):(((ks.zip l).map fun p=>Value.int p.1 p.2).toArray).getD i undef = .int (ks[i]) (l[i])∧((ks.zip l).map fun p=>D.int p.1 p.2).getD i default = .int (ks[i]) (l[i]):=by
  have h1:i < (ks.zip l).length:=by simp; omega
  have h2:(ks.zip l)[i]? = some (ks[i],l[i]):=by rw [List.getElem?_eq_getElem h1,List.getElem_zip]
  constructor
  · simp [Array.getD_eq_getD_getElem?,h2]
  · simp [List.getD_eq_getElem?_getD,h2]
theorem zV (ks:List IntKind)(I:Nat→Nat→Option Value)(a:IK ks):RD I (bA ks a) (iX ks a):=by
  refine .agg _ _ (by simp) fun i hi=>?_
  have hi':i < ks.length:=by have:=a.2; simp at hi; omega
  obtain ⟨e1,e2⟩:=jb a.2 hi'
  rw [e1,e2]
  exact .int _ _
theorem zW (ks:List IntKind)(I:Nat→Nat→Option Value)(a:IK ks)(v:Value)(h:RD I v (iX ks a)):v=bA ks a:=by
  cases h with
  | agg vs _ hs h=>
    unfold bA
    congr 1
    refine uX (by rw [hs]; simp) fun i hi=>?_
    have hi':i < ks.length:=by have:=a.2; simp at hi; omega
    obtain ⟨e1,e2⟩:=jb a.2 hi'
    have:=h i (by have:=a.2; simp; omega)
    rw [e2] at this
    have e3:=qZ this
    rw [e3]
    have h1:i < (ks.zip a.1).length:=by have:=a.2; simp; omega
    have h2:(ks.zip a.1)[i]? = some (ks[i],a.1[i]'(by rw [a.2]; exact hi')):=by rw [List.getElem?_eq_getElem h1,List.getElem_zip]
    simp [List.getD_eq_getElem?_getD,h2]
theorem wc (ks:List IntKind)(a b:IK ks)(h:bA ks a=bA ks b):a=b:=by
  apply Subtype.ext
  refine List.ext_getElem (by rw [a.2,b.2]) fun i h1 h2=>?_
  have hi:i < ks.length:=by rw [← a.2]; exact h1
  have ea:=(jb a.2 hi).1
  have eb:=(jb b.2 hi).1
  have:bA ks a=bA ks b:=h
  unfold bA at this
  injection this with this
  rw [this,eb] at ea
  injection ea with _ e
  exact e.symm
theorem tT (ks:List IntKind):∀ (a b:List Int),a.length=ks.length→b.length=ks.length→bs ((ks.zip a).map fun p=>D.int p.1 p.2) ((ks.zip b).map fun p=>D.int p.1 p.2)=decide (a=b):=by
  induction ks with
  | nil=>intro a b ha hb; cases List.eq_nil_of_length_eq_zero ha; cases List.eq_nil_of_length_eq_zero hb; rfl
  | cons k ks ih=>
    intro a b ha hb
    cases a with
    | nil=>simp at ha
    | cons x a=>
      cases b with
      | nil=>simp at hb
      | cons y b=>
        have ih':=ih a b (by simpa using ha) (by simpa using hb)
        cases ks with
        | nil=>
          cases a with
          | cons _ _=>simp at ha
          | nil=>cases b with
            | cons _ _=>simp at hb
            | nil=>simp [bs,pr]
        | cons k' ks=>
          cases a with
          | nil=>simp at ha
          | cons x' a=>
            cases b with
            | nil=>simp at hb
            | cons y' b=>
              have e:bs (((k::k'::ks).zip (x::x'::a)).map fun p=>D.int p.1 p.2) (((k::k'::ks).zip (y::y'::b)).map fun p=>D.int p.1 p.2)=(decide (x=y)&&bs (((k'::ks).zip (x'::a)).map fun p=>D.int p.1 p.2) (((k'::ks).zip (y'::b)).map fun p=>D.int p.1 p.2)):=rfl
              rw [e,ih']
              by_cases c:x=y <;> simp [c]
theorem rg {t:TypeId}{ks:List IntKind}(hkind:∀ (k:Value) (e:MapEntry),(P.underlying t).map (fun d=>Instr.sameNow d k e.key)=some none)(hchk:∀ (w:World) (em:Bool) (a:IK ks),(Instr.checkKey em 10000 t (bA ks a)).run P w = .ok () w)
    (heq:∀ (w:World) (a b:IK ks),(Op.equal t (bA ks a) (bA ks b)).run P w = .ok (bs ((ks.zip a.1).map fun p=>D.int p.1 p.2) ((ks.zip b.1).map fun p=>D.int p.1 p.2)) w):fc P t (bA ks) (iX ks):=by
  refine ⟨zV ks,zW ks,wc ks,hchk,fun w a es hall=>?_,fun w a=>?_⟩
  · have heq':∀ (w:World) (a b:IK ks),(Op.equal t (bA ks a) (bA ks b)).run P w = .ok (decide (a=b)) w:=fun w a b=>by
      rw [heq,tT ks a.1 b.1 a.2 b.2]
      congr 1
      by_cases c:a=b
      · simp [c]
      · have c2:¬ a.1=b.1:=fun h=>c (Subtype.ext h)
        simp [c,c2]
    have hask:∀ (es:List MapEntry) (i:Nat),(∀ e∈es,∃ b,e.key=bA ks b)→((Instr.findAsking t (bA ks a) es i).run P w = .ok none w∧∀ e∈es,e.key≠bA ks a)∨∃ j e,(Instr.findAsking t (bA ks a) es i).run P w = .ok (some (i+j,e.val)) w∧es[j]? = some e∧e.key=bA ks a:=by
      intro es
      induction es with
      | nil=>intro i _; exact .inl ⟨rfl,by simp⟩
      | cons e es ih=>
        intro i hall
        obtain ⟨b,hb⟩:=hall e (List.mem_cons_self ..)
        by_cases c:a=b
        · subst c
          exact .inr ⟨0,e,by simp [Instr.findAsking,hb,heq'],rfl,hb⟩
        · rcases ih (i+1) (fun x hx=>hall x (List.mem_cons_of_mem _ hx)) with ⟨g1,g2⟩ | ⟨j,e',g1,g2,g3⟩
          · refine .inl ⟨by simp [Instr.findAsking,hb,heq',c,g1],fun x hx=>?_⟩
            rcases List.mem_cons.1 hx with rfl | hx
            · rw [hb]; intro h; exact c (wc ks _ _ h).symm
            · exact g2 x hx
          · exact .inr ⟨j+1,e',by simp [Instr.findAsking,hb,heq',c,g1]; omega,by simpa using g2,g3⟩
    have hfind:es≠[]→(Instr.findKey t (bA ks a) es).run P w=(Instr.findAsking t (bA ks a) es).run P w:=fun hne=>by
      cases es with
      | nil=>exact absurd rfl hne
      | cons e es=>
        have:=hkind (bA ks a) e
        cases hu:P.underlying t with
        | none=>rw [hu] at this; cases this
        | some d=>
          rw [hu] at this
          simp only [Option.map_some,Option.some.injEq] at this
          simp only [Instr.findKey,Sem.run_bind,run_underlying hu,Result.andThen_ok,Instr.findNow,this]
    cases es with
    | nil=>
      refine .inl ⟨?_,by simp⟩
      have hu:∃ d,P.underlying t=some d:=by
        have:=hkind (bA ks a) ⟨bA ks a,bA ks a,0⟩
        cases hu:P.underlying t with
        | none=>rw [hu] at this; cases this
        | some d=>exact ⟨d,rfl⟩
      obtain ⟨d,hu⟩:=hu
      simp [Instr.findKey,run_underlying hu,Instr.findNow]
    | cons e es=>
      rw [hfind (by simp)]
      rcases hask (e::es) 0 hall with h | ⟨j,e',g1,g2,g3⟩
      · exact .inl h
      · exact .inr ⟨j,e',by simpa using g1,g2,g3⟩
  · have:Instr.sameBits 10000 (bA ks a) (bA ks a)=true:=by
      unfold bA
      simp only [Instr.sameBits,beq_self_eq_true,Bool.true_and,List.all_eq_true]
      rintro ⟨x,y⟩ hxy
      have h1:=List.of_mem_zip hxy
      obtain ⟨i,hi⟩:=List.mem_iff_getElem?.1 hxy
      rw [List.getElem?_zip_eq_some] at hi
      have:x=y:=by rw [hi.1] at hi; simpa using hi.2
      subst this
      simp at h1
      obtain ⟨p,q,hpq,rfl⟩:=h1
      simp [Instr.sameBits]
    simp [Instr.keyThatStays,this]
noncomputable def nT (P:Program):List Field→Nat→Option (List IntKind)
  | [],_=>some []
  | f::fs,i=>match im P f.type,Nat.beq f.offset i,decide (f.name = "_"),nT P fs (i+1) with
    | some k,true,false,some ks=>some (k::ks)
    | _,_,_,_=>none
noncomputable def wg (P:Program)(t:TypeId):Option (List IntKind):=match P.underlying t,P.stoodInHeld t with
  | some (.struct fs),false=>nT P fs.toList 0
  | _,_=>none
theorem oP {t:TypeId}{k:IntKind}(h:im P t=some k):P.underlying t=some (.int k):=by
  unfold im at h
  split at h
  · rename_i hh; cases h; exact hh
  · cases h
theorem sN:∀ {fs:List Field} {i:Nat} {ks:List IntKind},nT P fs i=some ks→oN P fs i=some (ks.map EK.int)
  | [],i,ks,h=>by cases h; rfl
  | f::fs,i,ks,h=>by
    simp only [nT] at h
    split at h
    · rename_i k ks' h1 h2 h3 h4
      cases h
      have h2:=Nat.eq_of_beq_eq_true h2
      simp only [oN,jN,oP h1,h2,h3,sN h4]
      simp
    · cases h
theorem kT:∀ (ks:List IntKind) (l:List Int),l.length=ks.length→cx (ks.map EK.int) ((ks.zip l).map fun p=>D.int p.1 p.2)=true
  | [],[],_=>rfl
  | [],_::_,h=>by simp at h
  | _::_,[],h=>by simp at h
  | k::ks,x::l,h=>by
    simp only [List.map_cons,List.zip_cons_cons,cx,mo,decide_true,Bool.true_and]
    exact kT ks l (by simpa using h)
theorem om {α:Type}{w:World}{F:α→PUnit→Sem (ForInStep PUnit)}:∀ {l:List α},(∀ x∈l,(F x PUnit.unit).run P w = .ok (.yield PUnit.unit) w)→(forIn l PUnit.unit F).run P w = .ok PUnit.unit w
  | [],_=>by simp [Sem.run_pure]
  | x::l,h=>by
    rw [List.forIn_cons]
    simp only [Sem.run_bind,h x (List.mem_cons_self ..),Result.andThen_ok]
    exact om fun y hy=>h y (List.mem_cons_of_mem _ hy)
theorem mS {α:Type}{w:World}{F:α→PUnit→Sem (ForInStep PUnit)}{l:List α}(h:∀ x∈l,(F x PUnit.unit).run P w = .ok (.yield PUnit.unit) w):((forIn l PUnit.unit F).run P w).andThen (fun _ w'=>(pure ():Sem Unit).run P w') = .ok () w:=by
  rw [om h]; rfl
theorem qY:∀ {fs:List Field} {i:Nat} {ks:List IntKind},nT P fs i=some ks→fs.length=ks.length∧∀ (j:Nat) (f:Field),fs[j]? = some f→∃ k,ks[j]? = some k∧P.underlying f.type=some (.int k)∧f.offset=i+j∧f.name≠ "_"
  | [],i,ks,h=>by cases h; exact ⟨rfl,fun j f hf=>by simp at hf⟩
  | f::fs,i,ks,h=>by
    simp only [nT] at h
    split at h
    · rename_i k ks' h1 h2 h3 h4
      cases h
      obtain ⟨g1,g2⟩:=qY h4
      refine ⟨by simp [g1],fun j f' hf=>?_⟩
      cases j with
      | zero=>
        simp at hf
        subst hf
        exact ⟨k,rfl,oP h1,Nat.eq_of_beq_eq_true h2,of_decide_eq_false h3⟩
      | succ j=>
        obtain ⟨k',a,b,c,d⟩:=g2 j f' (by simpa using hf)
        exact ⟨k',by simpa using a,b,by omega,d⟩
    · cases h
theorem uh {ks:List IntKind}(a:IK ks){j:Nat}{k:IntKind}(h:ks[j]? = some k):∃ n,(((ks.zip a.1).map fun p=>Value.int p.1 p.2).toArray)[j]? = some (.int k n):=by
  have hj:=(List.getElem?_eq_some_iff.1 h).1
  have h1:j < (ks.zip a.1).length:=by have:=a.2; simp; omega
  have h2:(ks.zip a.1)[j]? = some (ks[j],a.1[j]'(by rw [a.2]; exact hj)):=by rw [List.getElem?_eq_getElem h1,List.getElem_zip]
  rw [List.getElem?_eq_getElem hj] at h
  cases h
  exact ⟨a.1[j]'(by rw [a.2]; exact hj),by simp [h2]⟩
theorem ua {w:World}{em:Bool}{n:Nat}{t:TypeId}{k:IntKind}(h:P.underlying t=some (.int k))(x:Int):(Instr.checkKey em (n+1) t (.int k x)).run P w = .ok () w:=by
  rw [Instr.checkKey]
  simp only [Sem.run_bind,run_underlying h,Result.andThen_ok,Sem.run_pure]
theorem uq {t:TypeId}{ks:List IntKind}(ht:wg P t=some ks):fc P t (bA ks) (iX ks):=by
  unfold wg at ht
  split at ht
  · rename_i fs hu hp
    have hg:=qY ht
    refine rg (fun k e=>by rw [hu]; rfl) (fun w em a=>?_) (fun w a b=>?_)
    · unfold bA
      show (Instr.checkKey em (9998+1+1) t _).run P w=_
      rw [Instr.checkKey]
      simp only [Sem.run_bind,run_underlying hu,Result.andThen_ok]
      rw [← Array.forIn_toList]
      refine mS fun f hf=>?_
      obtain ⟨j,hj⟩:=List.mem_iff_getElem?.1 hf
      obtain ⟨k,h1,h2,h3,h4⟩:=hg.2 j f hj
      obtain ⟨n,hn⟩:=uh a h1
      have hpart:∀ w:World,(part f.type ((ks.zip a.1).map fun p=>Value.int p.1 p.2).toArray f.offset).run P w = .ok (.int k n) w:=fun w=>by
        rw [h3,Nat.zero_add]
        exact iO (k:=.int k) (by simp [jN,h2]) hn
      simp only [ne_eq,h4,not_false_eq_true,if_true,Sem.run_bind,hpart,Result.andThen_ok,ua h2,Sem.run_pure]
    · have hrow:P.fieldsOf t=fs:=by simp [Program.fieldsOf,hu]
      unfold bA
      show (Op.equalIn 10000 t _ _).run P w=_
      rw [run_equalIn_struct w 9999 t _ _ (by rw [hrow]; exact hu) hp,hrow]
      refine jO (I:=fun _ _=>none) 9998 fs.toList 0 (ks.map EK.int) _ _ (sN ht) (kT ks a.1 a.2) (kT ks b.1 b.2) (fun j hj=>?_) (fun j hj=>?_)
      · have hj':j < ks.length:=by simp at hj; omega
        obtain ⟨e1,e2⟩:=jb a.2 hj'
        rw [Nat.zero_add,e1,e2]
        exact ⟨.int _ _,by have:=a.2; simp; omega⟩
      · have hj':j < ks.length:=by simp at hj; omega
        obtain ⟨e1,e2⟩:=jb b.2 hj'
        rw [Nat.zero_add,e1,e2]
        exact ⟨.int _ _,by have:=b.2; simp; omega⟩
  · cases ht
noncomputable def we (P:Program)(t:TypeId):Option (Nat×IntKind):=match P.underlying t with
  | some (.array n e)=>(match im P e,P.info? e with
    | some k,some i=>bif Nat.beq (P.cellsOf e) 1&&Nat.beq i.size 1 then some (n,k) else none
    | _,_=>none)
  | _=>none
theorem yW {t:TypeId}{n:Nat}{k:IntKind}(ht:we P t=some (n,k)):fc P t (bA (List.replicate n k)) (iX (List.replicate n k)):=by
  unfold we at ht
  split at ht
  · rename_i n' e hu
    split at ht
    · rename_i k' i hk hi
      obtain ⟨h0,h1⟩:=aG ht
      cases h1
      rw [Bool.and_eq_true] at h0
      have h0:=And.intro (Nat.eq_of_beq_eq_true h0.1) (Nat.eq_of_beq_eq_true h0.2)
      have hku:=oP hk
      have hall:∀ (a:IK (List.replicate n k)),∀ x∈((List.replicate n k).zip a.1).map (fun p=>D.int p.1 p.2),mo (.int k) x=true:=fun a x hx=>by
        obtain ⟨p,hp,rfl⟩:=List.mem_map.1 hx
        have:=(List.of_mem_zip hp).1
        simp at this
        simp [mo,this.2]
      refine rg (fun k e=>by rw [hu]; rfl) (fun w em a=>?_) (fun w a b=>?_)
      · unfold bA
        show (Instr.checkKey em (9998+1+1) t _).run P w=_
        rw [Instr.checkKey]
        simp only [Sem.run_bind,run_underlying hu,Result.andThen_ok]
        simp only [Std.Legacy.Range.forIn_eq_forIn_range']
        refine mS fun j hj=>?_
        have hj':j < n:=by simp [List.mem_range'] at hj; omega
        obtain ⟨x,hx⟩:=uh a (j:=j) (k:=k) (by simp [hj'])
        have hsz:∀ w:World,(sizeOf e).run P w = .ok 1 w:=fun w=>by simp [sizeOf,typeInfo,hi,h0.2]
        have hpart:∀ w:World,(part e (((List.replicate n k).zip a.1).map fun p=>Value.int p.1 p.2).toArray (j*1)).run P w = .ok (.int k x) w:=fun w=>by
          rw [Nat.mul_one]
          exact iO (k:=.int k) (by simp [jN,hku]) hx
        simp only [Sem.run_bind,hsz,hpart,Result.andThen_ok,ua hku,Sem.run_pure]
      · unfold bA
        show (Op.equalIn 10000 t _ _).run P w=_
        rw [run_equalIn_array w 9999 _ _ hu hi,h0.1,List.range_eq_range']
        refine kL (I:=fun _ _=>none) (k:=.int k) (by simp [jN,hku]) 9998 n 0 _ _ (by have:=a.2; simp at this ⊢; omega) (by have:=b.2; simp at this ⊢; omega) (hall a) (hall b) (fun j hj=>?_) (fun j hj=>?_)
        · obtain ⟨e1,e2⟩:=jb a.2 (i:=j) (by simp [hj])
          rw [Nat.zero_add,e1,e2]
          exact ⟨.int _ _,by have:=a.2; simp at this ⊢; omega⟩
        · obtain ⟨e1,e2⟩:=jb b.2 (i:=j) (by simp [hj])
          rw [Nat.zero_add,e1,e2]
          exact ⟨.int _ _,by have:=b.2; simp at this ⊢; omega⟩
    · cases ht
  · cases ht
theorem fc.via {t:TypeId}{ks:List IntKind}(M:fc P t (bA ks) (iX ks)){K:Type}(f:K→IK ks)(g:IK ks→K)(hf:∀ x,g (f x)=x){val:K→Value}{enc:K→D}(hv:∀ x,val x=bA ks (f x))(he:∀ x,enc x=iX ks (f x)):fc P t val enc:=by
  refine ⟨fun I a=>by rw [hv,he]; exact M.rd I _,fun I a v h=>by rw [he] at h; rw [hv]; exact M.un I _ v h,fun a b h=>?_,fun w em a=>by rw [hv]; exact M.check w em _,fun w a es hall=>?_,fun w a=>by rw [hv]; exact M.stays w _⟩
  · rw [hv,hv] at h
    have:=M.inj _ _ h
    rw [← hf a,this,hf]
  · rw [hv]
    refine M.find w _ es fun e he'=>?_
    obtain ⟨b,hb⟩:=hall e he'
    exact ⟨f b,by rw [hb,hv]⟩
end
end Go.Abs
namespace Go.Abs
noncomputable section
mutual
noncomputable def AV.hasO (id:Nat):AV→Bool
  | .osl i _ _ _=>i.beq id
  | .agg cs=>lQ id cs
  | .tup cs=>lQ id cs
  | .clo _ fs cs=>lQ id fs||lQ id cs
  | .rsl es=>lQ id es
  | .rp v=>v.hasO id
  | _=>false
noncomputable def lQ (id:Nat):List AV→Bool
  | []=>false
  | v::cs=>v.hasO id||lQ id cs
end
mutual
theorem uM {id N sz0:Nat}{get:Nat→Nat→D}:∀ (v:AV),v.hasO id=false→v.sl id N sz0 get=v
  | .osl i off n sz,h=>by
    simp only [AV.hasO] at h
    simp [AV.sl,h]
  | .agg cs,h=>by simp only [AV.hasO] at h; simp only [AV.sl]; rw [g7 cs h]
  | .tup cs,h=>by simp only [AV.hasO] at h; simp only [AV.sl]; rw [g7 cs h]
  | .clo f fs cs,h=>by simp only [AV.hasO,Bool.or_eq_false_iff] at h; simp only [AV.sl]; rw [g7 fs h.1,g7 cs h.2]
  | .rsl es,h=>by simp only [AV.hasO] at h; simp only [AV.sl]; rw [g7 es h]
  | .rp v,h=>by simp only [AV.hasO] at h; simp only [AV.sl]; rw [uM v h]
  | .d _,_ | .ptr ..,_ | .eptr ..,_ | .vp ..,_ | .mp _,_ | .nsl,_ | .bad,_=>rfl
theorem g7 {id N sz0:Nat}{get:Nat→Nat→D}:∀ (cs:List AV),lQ id cs=false→j9 id N sz0 get cs=cs
  | [],_=>rfl
  | v::cs,h=>by simp only [lQ,Bool.or_eq_false_iff] at h; simp only [j9]; rw [uM v h.1,g7 cs h.2]
end
noncomputable def lC (id:Nat):ak→Bool
  | .live (.var cs)=>lQ id cs
  | _=>false
noncomputable def li (id:Nat):List ak→Nat→List Nat
  | [],_=>[]
  | s::h,i=>bif lC id s then i::li id h (i+1) else li id h (i+1)
theorem px (id:Nat):∀ (h:List ak) (k i:Nat) (s:ak),h[i]? = some s→av (li id h k) (k+i)=false→lC id s=false
  | [],k,i,s,h,_=>by simp at h
  | x::h,k,0,s,e,hm=>by
    simp at e
    subst e
    simp only [li] at hm
    cases hb:lC id x with
    | false=>rfl
    | true=>rw [hb] at hm; simp [av] at hm
  | x::h,k,i+1,s,e,hm=>by
    refine px id h (k+1) i s (by simpa using e) ?_
    simp only [li] at hm
    rw [show k+1+i=k+(i+1) by omega]
    cases hb:lC id x with
    | false=>rw [hb] at hm; simpa using hm
    | true=>rw [hb] at hm; simp only [cond_true,av,Bool.or_eq_false_iff] at hm; exact hm.2
structure Sh where
  ts:List (Nat×AV)
  h:List ak
  w:List Nat
noncomputable def vF (id:Nat)(x:Sh):Sh:=match fw x.h id with
  | some (.live (.arr sz N _ get))=>⟨qN id N sz get x.ts,(ow id N sz get x.h).set id .freed,id::(li id x.h 0++x.w)⟩
  | _=>x
noncomputable def me:List Nat→Sh→Sh
  | [],x=>x
  | id::l,x=>me l (vF id x)
noncomputable def uS (ts:List (Nat×AV))(h:List ak)(x:Sh):Prop:=(∀ m,GStep m ⟨ts,h⟩ ⟨x.ts,x.h⟩)∧bD h x.h x.w
theorem io {x:Nat}{l:List Nat}{i:Nat}(h:av (x::l) i=false):x≠i∧av l i=false:=by
  simp only [av,Bool.or_eq_false_iff] at h
  exact ⟨fun e=>by subst e; simp at h,h.2⟩
theorem yd {ts:List (Nat×AV)}{h:List ak}{x:Sh}(id:Nat)(hx:uS ts h x):uS ts h (vF id x):=by
  unfold vF
  split
  · rename_i sz N ex get hh
    rw [dY] at hh
    refine ⟨fun m=>(hx.1 m).trans (GStep.shutD (s:=⟨x.ts,x.h⟩) id hh),by simp [iz]; exact hx.2.1,fun i hi hm=>?_⟩
    obtain ⟨h1,h2⟩:=io hm
    rw [bI,Bool.or_eq_false_iff] at h2
    simp only
    rw [List.getElem?_set_ne h1,n5]
    rw [← hx.2.2 i hi h2.2]
    cases hs:x.h[i]? with
    | none=>rfl
    | some s=>
      have:=px id x.h 0 i s hs (by rw [Nat.zero_add]; exact h2.1)
      simp only [Option.map_some]
      congr 1
      cases s with
      | live ob=>
        cases ob with
        | var cs=>simp only [lC] at this; simp only [eE]; rw [g7 cs this]
        | arr a b c d=>rfl
        | mp es=>rfl
      | freed=>rfl
      | resv=>rfl
  · exact hx
theorem pg {ts:List (Nat×AV)}{h:List ak}:∀ (l:List Nat) {x:Sh},uS ts h x→uS ts h (me l x)
  | [],x,hx=>hx
  | id::l,x,hx=>pg l (yd id hx)
noncomputable def lp:List AV→List Nat
  | []=>[]
  | .osl i _ _ _::l=>i::lp l
  | _::l=>lp l
section
variable {P:Program}{o:Oper}{ts ts':List (Nat×AV)}{h h':List ak}{v:AV}{r:ER}
noncomputable def iS (l:List Nat)(ts:List (Nat×AV))(h:List ak)(k:List (Nat×AV)→List ak→Option ER):Option ER:=match l with
  | []=>k ts h
  | l=>(match k (me l ⟨ts,h,[]⟩).ts (me l ⟨ts,h,[]⟩).h with
    | some r=>some ⟨r.v,r.h,(me l ⟨ts,h,[]⟩).w++r.w⟩
    | none=>none)
theorem i6 {l:List Nat}{k:List (Nat×AV)→List ak→Option ER}(hk:∀ ts h r,k ts h=some r→iD P o ts h r)(e:iS l ts h k=some r):iD P o ts h r:=by
  unfold iS at e
  split at e
  · exact hk _ _ _ e
  · split at e
    · rename_i r0 hr0
      cases e
      have hs:=pg l (x:=⟨ts,h,[]⟩) ⟨fun m=>GStep.refl _ _,bD.refl _ _⟩
      obtain ⟨a1,a2⟩:=hk _ _ _ hr0
      exact ⟨ae.ghost (hs.1 _) a1,hs.2.trans a2⟩
    · cases e
noncomputable def t8 (ts:List (Nat×AV)):List (Nat×Operand)→List (Nat×AV)
  | []=>[]
  | (i,x)::l=>(i,ax ts x)::t8 ts l
theorem sC (ts:List (Nat×AV)):∀ l,t8 ts l=l.map fun p=>(p.1,ax ts p.2)
  | []=>rfl
  | (i,x)::l=>by simp [t8,sC ts l]
noncomputable def uB:List (Nat×AV)→List Nat
  | []=>[]
  | (_,v)::l=>lp (cellsOf v)++uB l
noncomputable def qW (ts:List (Nat×AV)):List Operand→List AV
  | []=>[]
  | x::l=>ax ts x::qW ts l
theorem mQ (ts:List (Nat×AV)):∀ l,qW ts l=l.map (ax ts)
  | []=>rfl
  | x::l=>by simp [qW,mQ ts l]
noncomputable def je (h:List ak)(x:Option AV):Option ER:=match x with
  | some v=>some ⟨v,h,[]⟩
  | none=>none
theorem ew {x:Option AV}(hq:∀ v,x=some v→ae P o ts h v h)(e:je h x=some r):iD P o ts h r:=by
  unfold je at e
  split at e
  · cases e; exact ⟨hq _ rfl,bD.refl _ _⟩
  · cases e
noncomputable def Au (P:Program)(t:TypeId)(x y:AV):Option AV:=match x with
  | .d (.sl ..) | .osl .. | .rsl _=>lZ P t x y
  | _=>nu P t x y
noncomputable def At (P:Program)(s t:TypeId)(h:List ak)(x:AV):Option AV:=match x with
  | .d (.int ..)=>sb P s t x
  | _=>pV P s t h x
noncomputable def Ar (P:Program)(t:TypeId)(ps:List (Nat×AV)):Option AV:=match gz P t with
  | some _=>pT P t ps
  | none=>ns P t ps
noncomputable def As (P:Program)(op:BinOp)(t:TypeId)(x y:AV):Option AV:=match vu P op t x y,x,y with
  | some v,_,_=>some v
  | none,.agg xs,.agg ys=>tp P op t xs ys
  | _,_,_=>none
noncomputable def oB (P:Program)(b:Builtin)(args:List Operand)(tys:List TypeId)(ts:List (Nat×AV))(h:List ak):Option ER:=match b,args,tys with
  | .len,[x],[t]=>je h (vv P t (ax ts x))
  | .append,[x,y],[t,t2]=>qw P t t2 h (ax ts x) (ax ts y)
  | .max,l,_=>je h (xQ (qW ts l))
  | .min,l,_=>je h (xR (qW ts l))
  | _,_,_=>none
theorem sB {α:Type}{a:Array α}{x:α}(h:a.toList=[x]):a = #[x]:=by cases a; simp_all
theorem xn {α:Type}{a:Array α}{x y:α}(h:a.toList=[x,y]):a = #[x,y]:=by cases a; simp_all
theorem tN {b:Builtin}{args:Array Operand}{tys:Array TypeId}(ho:o.op = .call { callee:=.builtin b,args:=args,argTypes:=tys })(e:oB P b args.toList tys.toList ts h=some r):iD P o ts h r:=by
  unfold oB at e
  split at e
  · rename_i x t h1 h2
    rw [sB h1,sB h2] at ho
    exact ew (fun v hv=>uE ho hv) e
  · rename_i x y t t2 h1 h2
    rw [xn h1,xn h2] at ho
    exact vf ho e
  · rw [mQ] at e
    exact ew (fun v hv=>jC ho hv) e
  · rw [mQ] at e
    exact ew (fun v hv=>n3 ho hv) e
  · cases e
noncomputable def oE (P:Program)(KT:List (TypeId×List IntKind))(ev:Operand→AV)(op:Op)(ts:List (Nat×AV))(h:List ak):Option ER:=match op with
  | .move x=>some ⟨ev x,h,[]⟩
  | .assign x=>some ⟨ev x,h,[]⟩
  | .pick c x y=>je h (vy (ev c) (ev x) (ev y))
  | .alloc t=>sI P t h
  | .box _ x=>xu (ev x) h
  | .build t ps=>je h (Ar P t (t8 ts ps.toList))
  | .buildSlice t len ps=>iS (uB (t8 ts ps.toList)) ts h fun ts h=>kK P t len (t8 ts ps.toList) h
  | .insert t x y z=>iS (lp [ax ts z]) ts h fun ts h=>uV P KT t ts h x y z
  | .mapUpdate t x y z=>iS (lp [ax ts z]) ts h fun ts h=>uV P KT t ts h x y z
  | .load t x=>je h (sd P t h (ev x))
  | .store t x y=>(match ev x with
    | .eptr ..=>iS (lp (cellsOf (ax ts y))) ts h fun ts h=>pp P t h (ax ts x) (ax ts y)
    | _=>pp P t h (ev x) (ev y))
  | .nilCheck x=>je h (vx (ev x))
  | .binOp b t x y _=>je h (As P b t (ev x) (ev y))
  | .unOp u _ x=>je h (yC u (ev x))
  | .convert s t x=>je h (At P s t h (ev x))
  | .makeFunc (.func f) fs cs=>(match fs.toList,cs.toList with
    | [],[]=>some ⟨.d (.fn f),h,[]⟩
    | fs,cs=>some ⟨.clo f (qW ts fs) (qW ts cs),h,[]⟩)
  | .makeMap _ none=>some (sJ h)
  | .makeSlice t x y=>vg P t h (ev x) (ev y)
  | .fieldAddr t x i=>je h (pU P t i (ev x))
  | .indexAddr t x y=>je h (Au P t (ev x) (ev y))
  | .index t x y=>je h (tq P t (ev x) (ev y))
  | .lookup t x y ok=>je h (qp P KT t ok ts h x y)
  | .extract x i=>je h (lY (ev x) i)
  | .call ⟨.builtin b,args,tys⟩=>oB P b args.toList tys.toList ts h
  | _=>none
noncomputable def zn (P:Program)(KT:List (TypeId×List IntKind))(op:Op)(ts:List (Nat×AV))(h:List ak):Option ER:=oE P KT (zr ts) op ts h
theorem zo {KT:List (TypeId×List IntKind)}(hK:mC P KT)(e:zn P KT o.op ts h=some r):iD P o ts h r:=by
  unfold zn at e
  rw [v5] at e
  cases ho:o.op with
  | move x=>rw [ho] at e; cases e; exact ⟨ae.move ho rfl,bD.refl _ _⟩
  | assign x=>rw [ho] at e; cases e; exact ⟨ae.assign ho rfl,bD.refl _ _⟩
  | pick c x y=>rw [ho] at e; exact ew (fun v hv=>xS ho hv) e
  | alloc t=>rw [ho] at e; exact vZ ho e
  | box t x=>rw [ho] at e; exact yQ ho e
  | build t ps=>
    rw [ho] at e
    simp only [oE,sC] at e
    refine ew (fun v hv=>?_) e
    unfold Ar at hv
    split at hv
    · exact ry ho hv
    · exact jX ho hv
  | buildSlice t len ps=>rw [ho] at e; simp only [oE] at e; exact i6 (fun ts h r hr=>by rw [sC] at hr; exact qx ho hr) e
  | insert t x y z=>rw [ho] at e; simp only [oE] at e; exact i6 (fun ts h r hr=>t5 hK (.inr ho) hr) e
  | mapUpdate t x y z=>rw [ho] at e; simp only [oE] at e; exact i6 (fun ts h r hr=>t5 hK (.inl ho) hr) e
  | load t x=>rw [ho] at e; exact ew (fun v hv=>tt ho hv) e
  | store t x y=>
    rw [ho] at e
    simp only [oE] at e
    split at e
    · exact i6 (fun ts h r hr=>qV ho hr) e
    · exact qV ho e
  | nilCheck x=>rw [ho] at e; exact ew (fun v hv=>uF ho hv) e
  | binOp b t x y t'=>
    rw [ho] at e
    refine ew (fun v hv=>?_) e
    unfold As at hv
    split at hv
    · rename_i h1; cases hv; exact uD ho h1
    · rename_i h1 h2; exact wK ho h1 h2 hv
    · cases hv
  | unOp u t x=>rw [ho] at e; exact ew (fun v hv=>wM ho hv) e
  | convert s t x=>
    rw [ho] at e
    refine ew (fun v hv=>?_) e
    unfold At at hv
    split at hv
    · rename_i k n hx
      exact tn ho hv
    · exact rA ho hv
  | makeFunc f fs cs=>
    rw [ho] at e
    cases f with
    | func f=>
      simp only [oE] at e
      split at e
      · rename_i h1 h2
        have h1:fs = #[]:=by cases fs; simp_all
        have h2:cs = #[]:=by cases cs; simp_all
        subst h1 h2
        cases e
        exact ⟨ae.makeFunc0 ho,bD.refl _ _⟩
      · cases e
        simp only [mQ]
        exact ⟨ae.makeFunc ho,bD.refl _ _⟩
    | _=>cases e
  | makeMap t r0=>
    rw [ho] at e
    cases r0 with
    | none=>cases e; exact tS ho
    | some x=>cases e
  | makeSlice t x y=>rw [ho] at e; exact xw ho e
  | fieldAddr t x i=>rw [ho] at e; exact ew (fun v hv=>rz ho hv) e
  | indexAddr t x y=>
    rw [ho] at e
    refine ew (fun v hv=>?_) e
    unfold Au at hv
    split at hv
    · rename_i n sz get hx; exact jp ho hv
    · rename_i n sz get d hx; exact jp ho hv
    · rename_i es hx; exact jp ho hv
    · exact gf ho hv
  | index t x y=>rw [ho] at e; exact ew (fun v hv=>wL ho hv) e
  | lookup t x y ok=>rw [ho] at e; exact ew (fun v hv=>uT hK ho hv) e
  | extract x i=>rw [ho] at e; exact ew (fun v hv=>ou ho hv) e
  | call c=>
    rw [ho] at e
    obtain ⟨ce,args,tys⟩:=c
    cases ce with
    | builtin b=>exact tN ho e
    | value f=>cases e
    | invoke r m=>cases e
  | _=>rw [ho] at e; cases e
end
end
end Go.Abs
namespace Go.Abs
noncomputable section
mutual
theorem w8 {σ:List Nat}:∀ (v:AV),v.okT (dl σ 0)=true→(v.tr (dl σ 0)).tr (fun j=>σ[j]?)=v∧(v.tr (dl σ 0)).okT (fun j=>σ[j]?)=true
  | .d x,_=>⟨rfl,rfl⟩
  | .agg cs,h=>by simp only [AV.okT] at h; obtain ⟨a,b⟩:=hS cs h; simp only [AV.tr,AV.okT]; exact ⟨by rw [a],b⟩
  | .tup cs,h=>by simp only [AV.okT] at h; obtain ⟨a,b⟩:=hS cs h; simp only [AV.tr,AV.okT]; exact ⟨by rw [a],b⟩
  | .ptr id off,h=>by
    simp only [AV.okT] at h
    obtain ⟨j,hj⟩:=Option.isSome_iff_exists.1 h
    have:=(hP σ 0 id j hj).2
    rw [Nat.sub_zero] at this
    simp only [AV.tr,hj,AV.okT,this]; exact ⟨trivial,rfl⟩
  | .eptr id i k sz,h=>by
    simp only [AV.okT] at h
    obtain ⟨j,hj⟩:=Option.isSome_iff_exists.1 h
    have:=(hP σ 0 id j hj).2
    rw [Nat.sub_zero] at this
    simp only [AV.tr,hj,AV.okT,this]; exact ⟨trivial,rfl⟩
  | .vp n get,_=>⟨rfl,rfl⟩
  | .osl id off n sz,h=>by
    simp only [AV.okT] at h
    obtain ⟨j,hj⟩:=Option.isSome_iff_exists.1 h
    have:=(hP σ 0 id j hj).2
    rw [Nat.sub_zero] at this
    simp only [AV.tr,hj,AV.okT,this]; exact ⟨trivial,rfl⟩
  | .mp id,h=>by
    simp only [AV.okT] at h
    obtain ⟨j,hj⟩:=Option.isSome_iff_exists.1 h
    have:=(hP σ 0 id j hj).2
    rw [Nat.sub_zero] at this
    simp only [AV.tr,hj,AV.okT,this]; exact ⟨trivial,rfl⟩
  | .clo f fs cs,h=>by
    simp only [AV.okT,Bool.and_eq_true] at h
    obtain ⟨a,b⟩:=hS fs h.1
    obtain ⟨a',b'⟩:=hS cs h.2
    simp only [AV.tr,AV.okT]
    exact ⟨by rw [a,a'],by rw [b,b']; rfl⟩
  | .nsl,_=>⟨rfl,rfl⟩
  | .rsl es,h=>by simp only [AV.okT] at h; obtain ⟨a,b⟩:=hS es h; simp only [AV.tr,AV.okT]; exact ⟨by rw [a],b⟩
  | .rp v,h=>by simp only [AV.okT] at h; obtain ⟨a,b⟩:=w8 v h; simp only [AV.tr,AV.okT]; exact ⟨by rw [a],b⟩
  | .bad,_=>⟨rfl,rfl⟩
theorem hS {σ:List Nat}:∀ (cs:List AV),et (dl σ 0) cs=true→fk (fun j=>σ[j]?) (fk (dl σ 0) cs)=cs∧et (fun j=>σ[j]?) (fk (dl σ 0) cs)=true
  | [],_=>⟨rfl,rfl⟩
  | c::cs,h=>by
    simp only [et,Bool.and_eq_true] at h
    obtain ⟨a,b⟩:=w8 c h.1
    obtain ⟨a',b'⟩:=hS cs h.2
    simp only [fk,et]
    exact ⟨by rw [a,a'],by rw [b,b']; rfl⟩
end
mutual
theorem tJ {τ τ':Nat→Option Nat}(ht:∀ i,(τ i).isSome=true→τ' i=τ i):∀ (v:AV),v.okT τ=true→v.tr τ'=v.tr τ
  | .d x,_=>rfl
  | .agg cs,h=>by simp only [AV.okT] at h; simp only [AV.tr]; rw [gj ht cs h]
  | .tup cs,h=>by simp only [AV.okT] at h; simp only [AV.tr]; rw [gj ht cs h]
  | .ptr id off,h=>by simp only [AV.okT] at h; simp only [AV.tr]; rw [ht id h]
  | .eptr id i k sz,h=>by simp only [AV.okT] at h; simp only [AV.tr]; rw [ht id h]
  | .vp n get,_=>rfl
  | .osl id off n sz,h=>by simp only [AV.okT] at h; simp only [AV.tr]; rw [ht id h]
  | .mp id,h=>by simp only [AV.okT] at h; simp only [AV.tr]; rw [ht id h]
  | .clo f fs cs,h=>by simp only [AV.okT,Bool.and_eq_true] at h; simp only [AV.tr]; rw [gj ht fs h.1,gj ht cs h.2]
  | .nsl,_=>rfl
  | .rsl es,h=>by simp only [AV.okT] at h; simp only [AV.tr]; rw [gj ht es h]
  | .rp v,h=>by simp only [AV.okT] at h; simp only [AV.tr]; rw [tJ ht v h]
  | .bad,_=>rfl
theorem gj {τ τ':Nat→Option Nat}(ht:∀ i,(τ i).isSome=true→τ' i=τ i):∀ (cs:List AV),et τ cs=true→fk τ' cs=fk τ cs
  | [],_=>rfl
  | c::cs,h=>by simp only [et,Bool.and_eq_true] at h; simp only [fk]; rw [tJ ht c h.1,gj ht cs h.2]
end
noncomputable def rb (m j:Nat):Option Nat:=bif Nat.blt j m then some j else none
mutual
theorem yF {τ:Nat→Option Nat}(ht:∀ i j,τ i=some j→j=i):∀ (v:AV),v.okT τ=true→v.tr τ=v
  | .d x,_=>rfl
  | .agg cs,h=>by simp only [AV.okT] at h; simp only [AV.tr]; rw [ke ht cs h]
  | .tup cs,h=>by simp only [AV.okT] at h; simp only [AV.tr]; rw [ke ht cs h]
  | .ptr id off,h=>by simp only [AV.okT] at h; obtain ⟨j,hj⟩:=Option.isSome_iff_exists.1 h; simp only [AV.tr,hj]; rw [ht _ _ hj]
  | .eptr id i k sz,h=>by simp only [AV.okT] at h; obtain ⟨j,hj⟩:=Option.isSome_iff_exists.1 h; simp only [AV.tr,hj]; rw [ht _ _ hj]
  | .vp n get,_=>rfl
  | .osl id off n sz,h=>by simp only [AV.okT] at h; obtain ⟨j,hj⟩:=Option.isSome_iff_exists.1 h; simp only [AV.tr,hj]; rw [ht _ _ hj]
  | .mp id,h=>by simp only [AV.okT] at h; obtain ⟨j,hj⟩:=Option.isSome_iff_exists.1 h; simp only [AV.tr,hj]; rw [ht _ _ hj]
  | .clo f fs cs,h=>by simp only [AV.okT,Bool.and_eq_true] at h; simp only [AV.tr]; rw [ke ht fs h.1,ke ht cs h.2]
  | .nsl,_=>rfl
  | .rsl es,h=>by simp only [AV.okT] at h; simp only [AV.tr]; rw [ke ht es h]
  | .rp v,h=>by simp only [AV.okT] at h; simp only [AV.tr]; rw [yF ht v h]
  | .bad,_=>rfl
theorem ke {τ:Nat→Option Nat}(ht:∀ i j,τ i=some j→j=i):∀ (cs:List AV),et τ cs=true→fk τ cs=cs
  | [],_=>rfl
  | c::cs,h=>by simp only [et,Bool.and_eq_true] at h; simp only [fk]; rw [yF ht c h.1,ke ht cs h.2]
end
theorem nh {τ τ':Nat→Option Nat}(ht:∀ i,(τ i).isSome=true→τ' i=τ i):∀ (ob:aQ),ob.okT τ=true→ob.tr τ'=ob.tr τ
  | .var cs,h=>by simp only [aQ.okT] at h; simp only [aQ.tr]; rw [gj ht cs h]
  | .arr ..,_=>rfl
  | .mp _,_=>rfl
theorem ni {τ:Nat→Option Nat}(ht:∀ i j,τ i=some j→j=i):∀ (ob:aQ),ob.okT τ=true→ob.tr τ=ob
  | .var cs,h=>by simp only [aQ.okT] at h; simp only [aQ.tr]; rw [ke ht cs h]
  | .arr ..,_=>rfl
  | .mp _,_=>rfl
theorem yY {σ:List Nat}:∀ (ob:aQ),ob.okT (dl σ 0)=true→(ob.tr (dl σ 0)).tr (fun j=>σ[j]?)=ob∧(ob.tr (dl σ 0)).okT (fun j=>σ[j]?)=true
  | .var cs,h=>by simp only [aQ.okT] at h; obtain ⟨a,b⟩:=hS cs h; simp only [aQ.tr,aQ.okT]; exact ⟨by rw [a],b⟩
  | .arr ..,_=>⟨rfl,rfl⟩
  | .mp _,_=>⟨rfl,rfl⟩
noncomputable def gO (acc:List Nat)(i:Nat):List Nat:=Bool.rec (motive:=fun _=>List Nat) (acc++[i]) acc (cD acc i)
noncomputable def add1 (acc:List Nat)(v:AV):List Nat:=match v with
  | .d _=>acc
  | .ptr i _=>gO acc i
  | .eptr i _ _ _=>gO acc i
  | .osl i _ _ _=>gO acc i
  | .mp i=>gO acc i
  | _=>acc
noncomputable def oF (acc:List Nat)(v:AV):List Nat:=match v with
  | .d _=>acc
  | .ptr i _=>gO acc i
  | .eptr i _ _ _=>gO acc i
  | .osl i _ _ _=>gO acc i
  | .mp i=>gO acc i
  | .agg cs=>ik add1 cs acc
  | .tup cs=>ik add1 cs acc
  | .rsl cs=>ik add1 cs acc
  | .clo _ fs cs=>ik add1 cs (ik add1 fs acc)
  | .rp v=>add1 acc v
  | _=>acc
noncomputable def sv (acc:List Nat)(v:AV):List Nat:=match v with
  | .agg cs=>ik oF cs acc
  | .tup cs=>ik oF cs acc
  | .rsl cs=>ik oF cs acc
  | .clo _ fs cs=>ik oF cs (ik oF fs acc)
  | .rp v=>oF acc v
  | v=>oF acc v
noncomputable def lg (acc:List Nat)(l:List AV):List Nat:=ik sv l acc
noncomputable def fG (h:List ak):Nat→Nat→List Nat→List Nat
  | 0,_,acc=>acc
  | n+1,k,acc=>match kS acc k with
    | none=>acc
    | some id=>(match kS h id with
      | some (.live (.var cs))=>fG h n (k+1) (lg acc cs)
      | _=>fG h n (k+1) acc)
noncomputable def pI (h:List ak)(τ:Nat→Option Nat):List Nat→Option (List aQ)
  | []=>some []
  | id::l=>match kS h id with
    | some (.live ob)=>bif qC τ ob then vJ τ ob fun ob'=>(match pI h τ l with
      | some r=>some (ob'::r)
      | none=>none) else none
    | _=>none
theorem nj {h:List ak}{σ:List Nat}:∀ {l:List Nat} {hs:List aQ},pI h (iv σ) l=some hs→gB (fun j=>σ[j]?) h l hs
  | [],hs,e=>by cases e; exact trivial
  | id::l,hs,e=>by
    simp only [pI] at e
    split at e
    · rename_i ob hob
      rw [ll] at hob
      obtain ⟨h0,e2⟩:=aG e
      rw [nY,iQ] at h0
      rw [uO] at e2
      split at e2
      · rename_i r hr
        cases e2
        obtain ⟨a,b⟩:=yY ob h0
        rw [iQ]
        exact ⟨⟨by rw [a]; exact hob,b⟩,nj hr⟩
      · cases e2
    · cases e
noncomputable def nodupB:List Nat→Bool
  | []=>true
  | x::l=>!cD l x&&nodupB l
theorem gV:∀ {l:List Nat} {i:Nat},i∈l→av l i=true
  | x::l,i,h=>by
    simp only [av,Bool.or_eq_true]
    rcases List.mem_cons.1 h with rfl | h
    · exact .inl (by simp)
    · exact .inr (gV h)
theorem jx:∀ {l:List Nat},nodupB l=true→l.Nodup
  | [],_=>List.nodup_nil
  | x::l,h=>by
    simp only [nodupB,Bool.and_eq_true,Bool.not_eq_true',eQ] at h
    refine List.nodup_cons.2 ⟨fun hm=>?_,jx h.2⟩
    rw [gV hm] at h
    exact absurd h.1 (by simp)
abbrev nJ:=FuncId→List AV→List aQ→Option ER
noncomputable def sk (P:Program)(call:nJ):Prop:=∀ f args hs r,call f args hs=some r→SC P f args hs r.v r.h∧hs.length≤r.h.length∧∀ j ob,hs[j]? = some ob→av r.w j=false→r.h[j]? = some (.live ob)
noncomputable def lJ (σ:List Nat):List Nat→List Nat
  | []=>[]
  | j::l=>match kS σ j with
    | some i=>i::lJ σ l
    | none=>lJ σ l
theorem qS {σ:List Nat}{j id:Nat}(hj:σ[j]? = some id):∀ {l:List Nat},av (lJ σ l) id=false→av l j=false
  | [],_=>rfl
  | x::l,h=>by
    by_cases c:x=j
    · subst c
      rw [lJ,ll,hj] at h
      exact absurd rfl (io h).1
    · have hr:av (lJ σ l) id=false:=by
        rw [lJ] at h
        split at h
        · exact (io h).2
        · exact h
      simp only [av,Bool.or_eq_false_iff]
      exact ⟨by rw [Bool.eq_false_iff]; intro hb; exact c (Nat.eq_of_beq_eq_true hb),qS hj hr⟩
section
variable {P:Program}{o:Oper}{ts ts':List (Nat×AV)}{h h':List ak}{v:AV}{r:ER}
noncomputable def ng (σ:List Nat)(m base j:Nat):Option Nat:=bif Nat.blt j m then kS σ j else some (base+(j - m))
theorem rj (σ:List Nat)(m base:Nat):ng σ m base=names σ m base:=by
  funext j
  unfold ng names
  cases hb:Nat.blt j m with
  | true=>
      have:j < m:=by simpa using hb
      rw [if_pos this,ll]; rfl
  | false=>
      have:¬ j < m:=fun hlt=>by rw [show Nat.blt j m=true by simpa using hlt] at hb; cases hb
      rw [if_neg this]; rfl
noncomputable def sW {α:Type}(h:List ak)(σ:List Nat)(hc:List ak)(k:List ak→α):α:=match hc with
  | []=>k h
  | hc=>pD (ng σ σ.length h.length) (fun x=>x) (hc.take σ.length) fun a=>pD (ng σ σ.length h.length) (fun x=>x) (hc.drop σ.length) fun b=>k (d8 h σ a++b)
theorem wv {α:Type}(h:List ak)(σ:List Nat)(hc:List ak)(k:List ak→α):sW h σ hc k=k (ed h σ hc):=by
  unfold sW ed
  split
  · have:d8 h σ []=h:=by cases σ <;> rfl
    simp [this]
  · rw [lV,lV,rj]
noncomputable def sE (call:nJ)(fo:Operand)(args:List Operand)(ts:List (Nat×AV))(h:List ak):Option ER:=match pu (ax ts fo) (qW ts args) with
  | none=>none
  | some (f,az9)=>match fG h (h.length+1) 0 (lg [] az9) with
    | σ=>match pI h (iv σ) σ with
      | none=>none
      | some hs=>bif nodupB σ&&xK (iv σ) az9&&σ.all (fun i=>Nat.blt i h.length) then (match rX (ox (iv σ)) az9 fun as'=>call f as' hs with
        | none=>none
        | some r=>sW h σ r.h fun h'=>some ⟨ox (ng σ σ.length h.length) r.v,h',lJ σ r.w⟩) else none
theorem vU {call:nJ}(hC:sk P call){fo:Operand}{args:Array Operand}{tys:Array TypeId}(ho:o.op = .call { callee:=.value fo,args:=args,argTypes:=tys })(e:sE call fo args.toList ts h=some r):iD P o ts h r:=by
  unfold sE at e
  rw [mQ] at e
  split at e
  · cases e
  · rename_i f az9 hf
    generalize fG h (h.length+1) 0 (lg [] az9)=σ at e
    simp only at e
    split at e
    · cases e
    · rename_i hs hhs
      obtain ⟨h0,e2⟩:=aG e
      clear e
      simp only [Bool.and_eq_true] at h0
      obtain ⟨⟨h1,h2⟩,h3⟩:=h0
      rw [ux,iQ] at h2
      rw [oR,← uo,show fZ (ox (iv σ)) az9=vI (iv σ) az9 from rfl,iQ,qP] at e2
      split at e2
      · cases e2
      · rename_i r0 hr0
        rw [wv] at e2
        cases e2
        rw [qj,rj]
        obtain ⟨sc,hl,hsame⟩:=hC _ _ _ _ hr0
        have hm:=nj hhs
        obtain ⟨a,b⟩:=hS az9 h2
        have hnd:=jx h1
        refine ⟨ae.call σ sc ho (by rw [hf,a]) hnd b (by simpa using hl) hm,?_,fun i hi hw=>?_⟩
        · rw [ms]; omega
        · by_cases c:i∈σ
          · obtain ⟨j,hj⟩:=List.mem_iff_getElem?.1 c
            have hlen:=hm.len
            have hjl:j < hs.length:=by rw [← hlen]; exact (List.getElem?_eq_some_iff.1 hj).1
            obtain ⟨ob,hob⟩:∃ ob,hs[j]? = some ob:=⟨_,List.getElem?_eq_getElem hjl⟩
            obtain ⟨m1,m2⟩:=hm.at_ j i ob hj hob
            have hb:=qS hj hw
            have:=hsame j ob hob hb
            rw [nd hnd hj this hi,m1]
            simp only [ak.tr]
            rw [nh (τ:=fun j=>σ[j]?) (fun k hk=>?_) ob m2]
            obtain ⟨y,hy⟩:=Option.isSome_iff_exists.1 hk
            have hkl:k < σ.length:=(List.getElem?_eq_some_iff.1 hy).1
            simp [names,hkl]
          · exact jS hi c
noncomputable def sq (P:Program)(KT:List (TypeId×List IntKind))(call:nJ)(op:Op)(ts:List (Nat×AV))(h:List ak):Option ER:=match op with
  | .call ⟨.value fo,args,_⟩=>sE call fo args.toList ts h
  | op=>zn P KT op ts h
theorem yM {KT:List (TypeId×List IntKind)}(hK:mC P KT){call:nJ}(hC:sk P call)(e:sq P KT call o.op ts h=some r):iD P o ts h r:=by
  unfold sq at e
  split at e
  · rename_i fo args tys ho
    exact vU hC ho e
  · exact zo hK e
end
end
end Go.Abs
namespace Go.Abs
noncomputable section
abbrev mD:=Op→List (Nat×AV)→List ak→Option ER
noncomputable def qn (P:Program)(F:mD):Prop:=∀ (o:Oper) ts h r,F o.op ts h=some r→iD P o ts h r
noncomputable def lG (m:Nat)(w l:List Nat):List Nat:=match l with
  | []=>w
  | i::l=>lG m (Bool.rec (motive:=fun _=>List Nat) w (Bool.rec (motive:=fun _=>List Nat) (i::w) w (cD w i)) (Nat.blt i m)) l
theorem sw {m i:Nat}(hi:i < m):∀ (l w:List Nat),av (lG m w l) i=false→av w i=false∧av l i=false
  | [],w,h=>⟨h,rfl⟩
  | j::l,w,h=>by
    rw [lG] at h
    obtain ⟨h1,h2⟩:=sw hi l _ h
    rw [eQ] at h1
    cases hb:Nat.blt j m with
    | false=>
      rw [hb] at h1
      refine ⟨h1,?_⟩
      simp only [av,Bool.or_eq_false_iff]
      refine ⟨?_,h2⟩
      rw [Bool.eq_false_iff]
      intro he
      obtain rfl:j=i:=Nat.eq_of_beq_eq_true he
      rw [show Nat.blt j m=true by simpa using hi] at hb
      cases hb
    | true=>
      rw [hb] at h1
      cases hm:av w j with
      | true=>
        rw [hm] at h1
        refine ⟨h1,?_⟩
        simp only [av,Bool.or_eq_false_iff]
        refine ⟨?_,h2⟩
        rw [Bool.eq_false_iff]
        intro he
        obtain rfl:j=i:=Nat.eq_of_beq_eq_true he
        have h1':av w j=false:=h1
        rw [hm] at h1'
        cases h1'
      | false=>
        rw [hm] at h1
        have h1':av (j::w) i=false:=h1
        simp only [av,Bool.or_eq_false_iff] at h1' ⊢
        exact ⟨h1'.2,h1'.1,h2⟩
theorem bD.addW {h0 h1 h2:List ak}{w l:List Nat}(a:bD h0 h1 w)(b:bD h1 h2 l):bD h0 h2 (lG h0.length w l):=
  ⟨Nat.le_trans a.1 b.1,fun i hi hm=>by
    obtain ⟨h3,h4⟩:=sw hi l w hm
    rw [b.2 i (Nat.lt_of_lt_of_le hi a.1) h4,a.2 i hi h3]⟩
section
variable {P:Program}{N m:Nat}{ops:Array Oper}{l:List Oper}{s:St}{Q:St→Prop}{o:Oper}
noncomputable def gl (ops:Array Oper)(o:Oper)(ts:List (Nat×AV)):Option Bool:=match o.guard with
  | none=>some true
  | some (j,want)=>match (ops[j]?).bind (·.dst) with
    | none=>none
    | some d=>match jw ts d with
      | some (.d (.bool b))=>some (b == want)
      | some (.tup [])=>some false
      | _=>none
theorem pl {G:Gh}{a:Act}{ts:List (Nat×AV)}{b:Bool}(hr:RT G a ts)(e:gl ops o ts=some b):Region.wanted o (yielded ops a.tmps)=b:=by
  unfold gl at e
  split at e
  · rename_i hg; cases e; simp only [Region.wanted,hg]
  · rename_i j want hg
    split at e
    · cases e
    · rename_i d hd
      rw [gS] at e
      split at e
      · rename_i x hl
        cases e
        simp only [Region.wanted,hg,ml hr hd hl]
        cases x <;> cases want <;> rfl
      · rename_i hl
        cases e
        simp only [Region.wanted,hg,my hr hd hl]
        rfl
      · cases e
theorem ab.want {v:AV}{h':List ak}(hw:gl ops o s.ts=some true)(hop:ae P o s.ts s.h v h')(hd:eg N o.dst=true)(next:ab P N m ops l ⟨bT o.dst v s.ts,h'⟩ Q):ab P N m ops (o::l) s Q:=by
  intro G a w hsz hi hr Qc hq
  simp only [wpList,pl hr hw,if_true]
  refine .inl (hop G a w hi hr _ _ fun val w' G' h1 h2 h3=>?_)
  refine next G' _ w' (by rw [fP]; exact hsz) h2 ?_ Qc fun a' w'' G'' s'' q hN' hdf hi' hr' he=>?_
  · cases hx:o.dst with
    | none=>exact hr.mono h3.le
    | some d=>
      rw [hx] at hd
      have hlt:d < a.tmps.size:=by rw [hsz]; simpa [eg] using hd
      exact (hr.mono h3.le).put hlt h1
  · exact hq a' w'' G'' s'' q hN' (by rw [hdf,put_defers]) hi' hr' ((h3.ext m).trans he)
theorem ab.unwant (hw:gl ops o s.ts=some false)(next:ab P N m ops l ⟨bT o.dst (.tup []) s.ts,s.h⟩ Q):ab P N m ops (o::l) s Q:=by
  intro G a w hsz hi hr Qc hq
  simp only [wpList,pl hr hw]
  refine next G _ w (by rw [fP]; exact hsz) hi ?_ Qc fun a' w'' G'' s'' q hN' hdf hi' hr' he=>hq a' w'' G'' s'' q hN' (by rw [hdf,put_defers]) hi' hr' he
  cases hd:o.dst with
  | none=>exact hr
  | some d=>
    intro i u hlk
    simp only [bT,look] at hlk
    cases hbq:d.beq i with
    | true=>
      rw [hbq] at hlk
      simp only [cond_true,Option.some.injEq] at hlk
      subst hlk
      refine kC ?_
      obtain rfl:d=i:=Nat.eq_of_beq_eq_true hbq
      simp only [Act.put,Array.getD_eq_getD_getElem?,Array.getElem?_setIfInBounds,if_true]
      split <;> rfl
    | false=>
      rw [hbq] at hlk
      simp only [cond_false] at hlk
      have hne:d≠i:=Nat.ne_of_beq_eq_false hbq
      have:=hr i u hlk
      simp [Act.put,Array.getD_eq_getD_getElem?,Array.getElem?_setIfInBounds,hne] at this ⊢
      exact this
noncomputable def su (F:mD)(N m:Nat)(ops:Array Oper):List Oper→Sh→Option Sh
  | [],x=>some x
  | o::l,x=>match gl ops o x.ts with
    | none=>none
    | some false=>su F N m ops l ⟨bT o.dst (.tup []) x.ts,x.h,x.w⟩
    | some true=>bif eg N o.dst then (match F o.op x.ts x.h with
      | none=>none
      | some r=>jP r.v fun v=>su F N m ops l ⟨bT o.dst v x.ts,r.h,lG m x.w r.w⟩) else none
theorem qr {F:mD}(hF:qn P F){h0:List ak}:∀ {l:List Oper} {x y:Sh},su F N h0.length ops l x=some y→bD h0 x.h x.w→ab P N m ops l ⟨x.ts,x.h⟩ (fun s=>s=⟨y.ts,y.h⟩)∧bD h0 y.h y.w
  | [],x,y,e,hc=>by cases e; exact ⟨ab.nil rfl,hc⟩
  | o::l,x,y,e,hc=>by
    simp only [su] at e
    split at e
    · cases e
    · rename_i hw
      obtain ⟨a,b⟩:=qr hF e hc
      exact ⟨ab.unwant hw a,b⟩
    · rename_i hw
      obtain ⟨hd,e2⟩:=aG e
      split at e2
      · cases e2
      · rename_i r hr
        rw [kp] at e2
        obtain ⟨k1,k2⟩:=hF o _ _ _ hr
        obtain ⟨a,b⟩:=qr hF e2 (hc.addW k2)
        exact ⟨ab.want hw k1 hd a,b⟩
end
noncomputable def gD:List Operand→List Nat
  | []=>[]
  | .tmp t::l=>t::gD l
  | _::l=>gD l
noncomputable def ff (ops:Array Oper)(o:Oper):List Nat:=match o.guard with
  | none=>[]
  | some (j,_)=>match (ops[j]?).bind (·.dst) with
    | some d=>[d]
    | none=>[]
noncomputable def yV:Op→Bool
  | .call ⟨.value _,_,_⟩=>true
  | _=>false
noncomputable def yU:Op→Bool
  | .load .. | .lookup .. | .convert .. | .fieldAddr .. | .indexAddr .. | .nilCheck .. | .move .. | .assign .. | .pick .. | .binOp .. | .unOp .. | .extract .. | .index .. | .build .. | .makeFunc ..=>true
  | _=>false
noncomputable def sh:List (Nat×AV)→List Nat→List Nat
  | [],acc=>acc
  | (_,v)::ts,acc=>sh ts (sv acc v)
noncomputable def qu (h:List ak):List Nat→List Nat→List Nat
  | [],acc=>acc
  | i::l,acc=>match kS h i with
    | some (.live (.var cs))=>qu h l (lg acc cs)
    | _=>qu h l acc
noncomputable def jD (l:List Nat)(w:List Nat):List Nat:=l.filter fun i=>!cD w i
noncomputable def vk (op:Op)(ts:List (Nat×AV))(h:List ak):List Nat×List Nat:=match sh ts [] with
  | D=>bif yV op then (fG h (h.length+1) 0 D,[]) else (match op with
    | .load .. | .store .. | .lookup .. | .mapUpdate .. | .insert .. | .convert .. | .call .. | .buildSlice ..=>(D,jD (qu h D []) D)
    | _=>([],D))
noncomputable def yw (keep M:List Nat)(h:List ak):List ak:=List.rec (motive:=fun _=>Nat→List ak) (fun _=>[]) (fun s _ ih i=>Bool.rec (motive:=fun _=>ak) (Bool.rec (motive:=fun _=>ak) .resv .freed (cD M i)) s (cD keep i)::ih (i+1)) h 0
theorem xE (keep M:List Nat)(h:List ak):yw keep M h=ba keep M 0 h:=by
  have key:∀ (h:List ak) (i:Nat),(List.rec (motive:=fun _=>Nat→List ak) (fun _=>[]) (fun s _ ih i=>Bool.rec (motive:=fun _=>ak) (Bool.rec (motive:=fun _=>ak) .resv .freed (cD M i)) s (cD keep i)::ih (i+1)) h i:List ak)=ba keep M i h:=by
    intro h
    induction h with
    | nil=>intro i; rfl
    | cons s h ih=>
      intro i
      show Bool.rec (motive:=fun _=>ak) (Bool.rec (motive:=fun _=>ak) .resv .freed (cD M i)) s (cD keep i)::(List.rec (motive:=fun _=>Nat→List ak) (fun _=>[]) (fun s _ ih i=>Bool.rec (motive:=fun _=>ak) (Bool.rec (motive:=fun _=>ak) .resv .freed (cD M i)) s (cD keep i)::ih (i+1)) h (i+1))=_
      rw [ih,ba,eQ,eQ]
      cases av keep i <;> cases av M i <;> rfl
  exact key h 0
noncomputable def wG (W:List Nat)(xs ys:List ak):List ak:=List.rec (motive:=fun _=>Nat→List ak→List ak) (fun _ _=>[]) (fun x xs ih i ys=>List.rec (motive:=fun _=>List ak) (x::xs) (fun y ys _=>Bool.rec (motive:=fun _=>ak) x y (cD W i)::ih (i+1) ys) ys) xs 0 ys
theorem wH (W:List Nat)(xs ys:List ak):wG W xs ys=cg W 0 xs ys:=by
  have key:∀ (xs:List ak) (i:Nat) (ys:List ak),(List.rec (motive:=fun _=>Nat→List ak→List ak) (fun _ _=>[]) (fun x xs ih i ys=>List.rec (motive:=fun _=>List ak) (x::xs) (fun y ys _=>Bool.rec (motive:=fun _=>ak) x y (cD W i)::ih (i+1) ys) ys) xs i ys:List ak)=cg W i xs ys:=by
    intro xs
    induction xs with
    | nil=>intro i ys; cases ys <;> rfl
    | cons x xs ih=>
      intro i ys
      cases ys with
      | nil=>rfl
      | cons y ys=>
        show Bool.rec (motive:=fun _=>ak) x y (cD W i)::(List.rec (motive:=fun _=>Nat→List ak→List ak) (fun _ _=>[]) (fun x xs ih i ys=>List.rec (motive:=fun _=>List ak) (x::xs) (fun y ys _=>Bool.rec (motive:=fun _=>ak) x y (cD W i)::ih (i+1) ys) ys) xs (i+1) ys)=_
        rw [ih,cg,eQ]
        cases av W i <;> rfl
  exact key xs 0 ys
noncomputable def lW (k1 k2 M:List Nat):Nat→List ak→Bool
  | _,[]=>true
  | i,s::h=>(cD k1 i == cD k2 i||(match s with | .resv=>!cD M i | _=>false))&&lW k1 k2 M (i+1) h
theorem nc {k1 k2 M:List Nat}:∀ {h:List ak} {i:Nat},lW k1 k2 M i h=true→ba k1 M i h=ba k2 M i h
  | [],i,_=>rfl
  | s::h,i,e=>by
    simp only [lW,Bool.and_eq_true,Bool.or_eq_true,eQ] at e
    simp only [ba]
    rw [nc e.2]
    congr 1
    rcases e.1 with c | c
    · rw [eq_of_beq c]
    · cases s with
      | resv=>
        have c':av M i=false:=by simpa using c
        cases av k1 i <;> cases av k2 i <;> simp [c']
      | live ob=>cases c
      | freed=>cases c
noncomputable def sS (K:List Nat)(i:Nat):Option Nat:=Bool.rec (motive:=fun _=>Option Nat) none (some i) (cD K i)
theorem uk (K:List Nat):sS K=cm K:=by
  funext i
  unfold sS cm
  rw [eQ]
  cases av K i <;> rfl
noncomputable def r9 (K:List Nat)(ts:List (Nat×AV)):Bool:=d6 (fun p=>td (sS K) p.2) ts
theorem ti (K:List Nat):∀ ts,r9 K ts=gY K ts
  | []=>rfl
  | (i,v)::ts=>by
    have e:r9 K ((i,v)::ts)=(td (sS K) v&&r9 K ts):=f8 _ _ _
    rw [e,ti K ts,gY,te,uk]
noncomputable def rZ (K:List Nat)(h:List ak):Bool:=d6 (fun s=>match s with
  | .live ob=>qC (sS K) ob
  | _=>true) h
theorem th (K:List Nat):∀ h,rZ K h=eM K h
  | []=>rfl
  | s::h=>by
    unfold rZ
    rw [f8]
    have:=th K h
    unfold rZ at this
    rw [this]
    cases s with
    | live ob=>simp only [eM,nY,uk]
    | freed=>simp [eM]
    | resv=>simp [eM]
noncomputable def settle (L:Nat)(free:List Nat)(r:ER):Option (ER×List Nat×List Nat):=match r.h.length - L with
  | 0=>some (r,[],free)
  | n=>match free.take n with
    | rs=>bif Nat.beq rs.length n then some (⟨r.v.tr (eu L rs),jW L rs r.h,r.w++rs⟩,rs,free.drop n) else none
noncomputable def se (h:List ak)(rs:List Nat):Bool:=rs.all fun r=>match h[r]? with | some .resv=>true | _=>false
structure DR where
  qs:List Stp
  ts:List (Nat×AV)
  h:List ak
  w:List Nat
noncomputable def pk (F:mD)(N:Nat)(ops:Array Oper):List Oper→List (Nat×AV)→List ak→List Nat→Option DR
  | [],ts,h,_=>some ⟨[],ts,h,[]⟩
  | o::l,ts,h,free=>match ff ops o++gD o.op.operands.toList with
    | rt=>bif eg N o.dst then (match gl ops o ts with
      | none=>none
      | some false=>(match pk F N ops l (bT o.dst (.tup []) ts) h free with
        | some x=>some ⟨⟨rt,[],[],[],[]⟩::x.qs,x.ts,x.h,x.w⟩
        | none=>none)
      | some true=>(match nV ts rt with
        | tk=>match vk o.op tk h with
          | (K,M)=>match yw K M h with
            | mh=>match F o.op tk mh with
              | none=>none
              | some r=>match settle h.length free r with
                | none=>none
                | some (r',rs,free')=>
                  match jD K r'.w with
                  | R=>bif se mh rs&&se r.h rs&&nodupB rs&&Nat.ble mh.length r.h.length&&lW K (R++r'.w) M 0 h&&r9 ((R++r'.w)++M) tk&&rZ ((R++r'.w)++M) mh
                      && M.all (fun x=>!ec h x)&&r'.w.all (fun x=>cD rs x||(!ec h x && !ec r'.h x))&&((R++r'.w)++M).all (fun i=>Nat.blt i h.length)
                    then (match pk F N ops l (bT o.dst r'.v ts) (wG r'.w h r'.h) free' with
                      | some x=>some ⟨⟨rt,R,r'.w,M,rs⟩::x.qs,x.ts,x.h,r'.w++x.w⟩
                      | none=>none) else none)) else none
theorem guard_of {ops:Array Oper}{o:Oper}{ts:List (Nat×AV)}{q:Stp}{b:Bool}(e:gl ops o ts=some b)(hq:∀ i,i∈ff ops o→av q.rt i=true):iV ops o ts q b:=by
  unfold gl at e
  split at e
  · rename_i hg; cases e; exact .none hg
  · rename_i j want hg
    split at e
    · cases e
    · rename_i d hd
      have hm:av q.rt d=true:=hq d (by simp [ff,hg,hd])
      rw [gS] at e
      split at e
      · rename_i x hl; cases e; exact .some hg hd hl hm
      · rename_i hl; cases e; exact .gone hg hd hl hm
      · cases e
theorem wu (keep M:List Nat)(h:List ak):(ba keep M 0 h).length=h.length:=fx keep M h 0
theorem ye {K:List Nat}{L:Nat}{rs:List Nat}(hK:K.all (fun i=>Nat.blt i L)=true){h:List ak}(hok:eM K h=true){i:Nat}{s:ak}(hs:h[i]? = some s):s.tr (eu L rs)=s:=by
  cases s with
  | live ob=>
    have:=oX hok hs
    simp only [ak.tr]
    congr 1
    rw [← ni (τ:=cm K) (fun a b hab=>by unfold cm at hab; cases hm:av K a <;> rw [hm] at hab <;> cases hab; rfl) ob this]
    rw [nh (τ:=cm K) (τ':=eu L rs) (fun a ha=>?_) _ (by rw [ni (τ:=cm K) (fun a b hab=>by unfold cm at hab; cases hm:av K a <;> rw [hm] at hab <;> cases hab; rfl) ob this]; exact this)]
    · exact ni (fun a b hab=>by unfold cm at hab; cases hm:av K a <;> rw [hm] at hab <;> cases hab; rfl) _ (by rw [ni (τ:=cm K) (fun a b hab=>by unfold cm at hab; cases hm:av K a <;> rw [hm] at hab <;> cases hab; rfl) ob this]; exact this)
    · unfold cm at ha ⊢
      cases hm:av K a with
      | false=>rw [hm] at ha; cases ha
      | true=>
        have hlt:Nat.blt a L=true:=List.all_eq_true.1 hK a (fg hm)
        simp [eu,hlt]
  | freed=>rfl
  | resv=>rfl
theorem pQ {W:List Nat}{xs ys:List ak}(hl:xs.length=ys.length)(h:∀ i,i < xs.length→av W i=false→ys[i]? = xs[i]?):cg W 0 xs ys=ys:=by
  apply List.ext_getElem?
  intro i
  rw [eW W xs ys 0 i hl,Nat.zero_add]
  cases hm:av W i with
  | true=>rfl
  | false=>
    simp only [cond_false]
    rcases Nat.lt_or_ge i xs.length with c | c
    · exact (h i c hm).symm
    · rw [List.getElem?_eq_none c,List.getElem?_eq_none (by omega)]
section
variable {P:Program}{N:Nat}{ops:Array Oper}
theorem wU {o:Oper}{ts:List (Nat×AV)}{mh:List ak}{K:List Nat}{free rs free':List Nat}{r r':ER}(hr:iD P o ts mh r)(e:settle mh.length free r=some (r',rs,free'))(h1:se mh rs=true)(h2:se r.h rs=true)(h3:nodupB rs=true)
    (hK:K.all (fun i=>Nat.blt i mh.length)=true) (hok:eM K mh=true):ae P o ts mh r'.v r'.h∧r'.h.length=mh.length∧cg r'.w 0 mh r'.h=r'.h:=by
  obtain ⟨k1,k2,k3⟩:=hr
  unfold settle at e
  split at e
  · rename_i hz
    cases e
    have hl:r.h.length=mh.length:=by omega
    exact ⟨k1,hl,pQ hl.symm k3⟩
  · rename_i hz
    obtain ⟨h4,e2⟩:=aG e
    cases e2
    have h4:=Nat.eq_of_beq_eq_true h4
    have hlen:r.h.length=mh.length+(free.take (r.h.length - mh.length)).length:=by omega
    have hpl:(jW mh.length (free.take (r.h.length - mh.length)) r.h).length=mh.length:=by rw [kV]; omega
    refine ⟨ae.put _ k1 (jx h3) h1 h2 (by simpa using hlen),hpl,pQ hpl.symm fun i hi hm=>?_⟩
    rw [bI,Bool.or_eq_false_iff] at hm
    simp only [jW]
    rw [fD _ _ _ _ (fun hmem=>by rw [gV hmem] at hm; exact absurd hm.2 (by simp)),List.getElem?_map,List.getElem?_take_of_lt hi,k3 i hi hm.1]
    cases hs:mh[i]? with
    | none=>rfl
    | some s=>simp only [Option.map_some]; rw [ye hK hok hs]
theorem oD {F:mD}(hF:qn P F):∀ {l:List Oper} {ts:List (Nat×AV)} {h:List ak} {free:List Nat} {x:DR},pk F N ops l ts h free=some x→Steps P N ops l ⟨ts,h⟩ x.qs ⟨x.ts,x.h⟩∧bD h x.h x.w
  | [],ts,h,free,x,e=>by cases e; exact ⟨.nil _,bD.refl _ _⟩
  | o::l,ts,h,free,x,e=>by
    simp only [pk] at e
    obtain ⟨hd,e1⟩:=aG e
    clear e
    have hinN:∀ d,o.dst=some d→d < N:=fun d hx=>by rw [hx] at hd; simpa [eg] using hd
    split at e1
    · cases e1
    · rename_i hw
      split at e1
      · rename_i y hy
        cases e1
        obtain ⟨a,b⟩:=oD hF hy
        refine ⟨.cons ⟨hinN,.inr ⟨guard_of hw (fun i hi=>by rw [bI,gV hi]; rfl),rfl,rfl⟩⟩ a,b⟩
      · cases e1
    · rename_i hw
      rw [jR] at e1
      generalize (vk o.op (bR ts (ff ops o++gD o.op.operands.toList)) h).fst=K at e1
      generalize (vk o.op (bR ts (ff ops o++gD o.op.operands.toList)) h).snd=M at e1
      split at e1
      · cases e1
      · rename_i r hr
        split at e1
        · cases e1
        · rename_i r' rs free' hset
          obtain ⟨h0,e2⟩:=aG e1
          clear e1
          simp only [Bool.and_eq_true] at h0
          obtain ⟨⟨⟨⟨⟨⟨⟨⟨⟨c1,c2⟩,c3⟩,c4⟩,c5⟩,c6⟩,c7⟩,c8⟩,c9⟩,c10⟩:=h0
          rw [xE] at hr c1 c7
          rw [ti] at c6
          rw [th] at c7
          simp only [eQ] at c9
          rw [wH] at e2
          split at e2
          · rename_i y hy
            cases e2
            obtain ⟨a,b⟩:=oD hF hy
            have hml:=wu K M h
            have hml2:h.length=(ba K M 0 h).length:=hml.symm
            obtain ⟨s1,s2,s3⟩:=wU (K:=(jD K r'.w++r'.w)++M) (hF o _ _ _ hr) (by rw [hml]; exact hset) c1 c2 c3 (by rw [hml]; exact c10) c7
            have hmask:=nc c5
            rw [hmask] at s1 s3
            refine ⟨.cons ⟨hinN,.inl ⟨r'.v,r'.h,guard_of hw (fun i hi=>by rw [bI,gV hi]; rfl),s1,by rw [s2,hml],s3,?_,rfl⟩⟩ a,?_⟩
            · show (gY ((jD K r'.w++r'.w)++M) _&&eM ((jD K r'.w++r'.w)++M) (ba (jD K r'.w++r'.w) M 0 h)&&M.all (fun x=>!ec h x)&&r'.w.all (fun x=>av rs x||(!ec h x && !ec r'.h x)))=true
              rw [← hmask,c6,c7,c8,c9]; rfl
            · refine (bD.trans (w1:=r'.w) ⟨by rw [gd]; exact Nat.le_refl _,fun i hi hm=>?_⟩ b)
              rw [eW _ _ _ 0 i (by rw [s2,hml]),Nat.zero_add,hm]; rfl
          · cases e2
noncomputable def yf:Op→Nat
  | .alloc _ | .box .. | .makeMap .. | .makeSlice .. | .buildSlice ..=>1
  | .call ⟨.builtin .append,_,_⟩=>2
  | .call ⟨.value _,_,_⟩=>4
  | _=>0
noncomputable def tF:List Oper→Nat
  | []=>0
  | o::l=>yf o.op+tF l
noncomputable def mJ {α:Type}(f:α→Bool)(l:List α):Bool:=List.rec (motive:=fun _=>Bool) false (fun x _ ih=>Bool.rec (motive:=fun _=>Bool) ih true (f x)) l
theorem nN {α:Type}(f:α→Bool):∀ l:List α,mJ f l=l.any f
  | []=>rfl
  | x::l=>by
    show Bool.rec (motive:=fun _=>Bool) (mJ f l) true (f x)=_
    rw [nN f l,List.any_cons]
    cases f x <;> rfl
noncomputable def ru (a b:Bool):Bool:=Bool.rec (motive:=fun _=>Bool) b true a
theorem zC (a b:Bool):ru a b=(a||b):=by cases a <;> rfl
noncomputable def u7 (q1 q2:Stp)(d1 d2:Option Nat):Bool:=
  ru (match d1 with | some d=>ru (cD q2.rt d) (match d2 with | some d'=>Nat.beq d d' | none=>false) | none=>false) (ru (match d2 with | some d=>cD q1.rt d | none=>false)
    (ru (mJ (fun x=>ru (cD q2.R x) (cD q2.W x)) q1.W) (ru (match q2.W with | []=>false | W=>mJ (fun x=>cD W x) q1.R) (ru (mJ (fun x=>cD q2.M x) q1.A) (match q2.A with | []=>false | A=>mJ (fun x=>cD A x) q1.M)))))
theorem mK:∀ l:List Nat,(l.any fun x=>av [] x)=false
  | []=>rfl
  | x::l=>by rw [List.any_cons,mK l]; rfl
theorem xq (q1 q2:Stp)(d1 d2:Option Nat):u7 q1 q2 d1 d2=fe q1 q2 d1 d2:=by
  obtain ⟨rt1,R1,W1,M1,A1⟩:=q1
  obtain ⟨rt2,R2,W2,M2,A2⟩:=q2
  have e1:(match W2 with | []=>false | W=>mJ (fun x=>cD W x) R1)=R1.any fun x=>av W2 x:=by
    cases W2 with
    | nil=>exact (mK R1).symm
    | cons x l=>simp only [nN,eQ]
  have e2:(match A2 with | []=>false | A=>mJ (fun x=>cD A x) M1)=M1.any fun x=>av A2 x:=by
    cases A2 with
    | nil=>exact (mK M1).symm
    | cons x l=>simp only [nN,eQ]
  unfold u7 fe
  simp only [e1,e2]
  simp only [zC,nN,eQ]
  generalize (W1.any fun x=>av R2 x||av W2 x)=a
  generalize (R1.any fun x=>av W2 x)=b
  generalize (A1.any fun x=>av M2 x)=c
  generalize (M1.any fun x=>av A2 x)=d
  cases a <;> cases b <;> cases c <;> cases d <;> cases d1 <;> cases d2 <;> simp
noncomputable def nl (cl:Nat)(q2:Stp)(d2:Option Nat):List Stp→List Oper→Nat→Bool
  | q1::qs,o1::l,i=>bif Nat.testBit cl i then nl cl q2 d2 qs l (i+1) else bif u7 q1 q2 o1.dst d2 then false else nl cl q2 d2 qs l (i+1)
  | _,_,_=>true
theorem ro (cl:Nat)(q2:Stp)(d2:Option Nat):∀ (qs:List Stp) (l:List Oper) (i:Nat),nl cl q2 d2 qs l i=fO cl q2 d2 qs l i
  | [],l,i=>by cases l <;> rfl
  | q::qs,[],i=>rfl
  | q1::qs,o1::l,i=>by
    simp only [nl,fO,ro cl q2 d2 qs l (i+1),xq]
    cases Nat.testBit cl i <;> cases fe q1 q2 o1.dst d2 <;> simp
noncomputable def pJ (ops:List Oper)(qs:List Stp):List Oper→List Stp→List Nat→Nat→Bool
  | o::l,q::r,c::cl,j=>nl c q o.dst (qs.take j) ops 0&&o.after.all (fun e=>!Region.binds .any e||Nat.blt e.on j)&&pJ ops qs l r cl (j+1)
  | _,_,_,_=>true
theorem pO (cl:Nat)(q2:Stp)(d2:Option Nat):∀ (qs:List Stp) (l:List Oper) (i j:Nat),qs.length≤j→fO cl q2 d2 qs (l.take j) i=fO cl q2 d2 qs l i
  | [],l,i,j,_=>by cases l <;> cases j <;> rfl
  | q::qs,[],i,j,_=>by cases j <;> rfl
  | q::qs,o::l,i,0,h=>by simp at h
  | q::qs,o::l,i,j+1,h=>by
    simp only [List.take_succ_cons,fO]
    rw [pO cl q2 d2 qs l (i+1) j (by simpa using h)]
theorem rm (ops:List Oper)(qs:List Stp):∀ (l:List Oper) (r:List Stp) (c:List Nat) (j:Nat),pJ ops qs l r c j=iY ops qs l r c j
  | [],r,c,j=>by cases r <;> cases c <;> rfl
  | o::l,[],c,j=>by cases c <;> rfl
  | o::l,q::r,[],j=>rfl
  | o::l,q::r,c::cs,j=>by
    simp only [pJ,iY,rm ops qs l r cs (j+1),ro]
    rw [pO _ _ _ _ _ _ j (by simp; omega)]
noncomputable def uz (ops:Array Oper)(qs:List Stp):Bool:=pJ ops.toList qs ops.toList qs (fV ops.toList []) 0
theorem vr (ops:Array Oper)(qs:List Stp):uz ops qs=lm ops qs:=rm _ _ _ _ _ _
noncomputable def o4:List Oper→Bool
  | []=>true
  | o::l=>yU o.op&&o4 l
noncomputable def kW (ops:Array Oper)(R:List Nat):List Oper→List Stp
  | []=>[]
  | o::l=>⟨ff ops o++gD o.op.operands.toList,R,[],[],[]⟩::kW ops R l
noncomputable def lX (ops:Array Oper):Bool:=lm ops (kW ops [] ops.toList)
noncomputable def cS:Nat→Nat→List Nat
  | 0,_=>[]
  | n+1,i=>i::cS n (i+1)
theorem l3:∀ (n k i:Nat),k≤i→i < k+n→av (cS n k) i=true
  | 0,k,i,h1,h2=>by omega
  | n+1,k,i,h1,h2=>by
    simp only [cS,av,Bool.or_eq_true]
    by_cases c:k=i
    · subst c; exact .inl (by simp)
    · exact .inr (l3 n (k+1) i (by omega) (by omega))
theorem rc (keep M:List Nat):∀ (h:List ak) (k:Nat),(∀ i,k≤i→i < k+h.length→av keep i=true)→ba keep M k h=h
  | [],k,_=>rfl
  | s::h,k,hk=>by
    rw [ba,hk k (Nat.le_refl _) (by simp),rc keep M h (k+1) (fun i h1 h2=>hk i (by omega) (by simp at h2 ⊢; omega))]
    rfl
noncomputable def qA (m j:Nat):Option Nat:=Bool.rec (motive:=fun _=>Option Nat) none (some j) (Nat.blt j m)
theorem qB (m:Nat):qA m=rb m:=by
  funext j
  unfold qA rb
  cases Nat.blt j m <;> rfl
theorem uA {τ τ':Nat→Option Nat}(h:∀ i,(τ i).isSome=true→(τ' i).isSome=true):∀ v:AV,v.okT τ=true→v.okT τ'=true:=by
  intro v
  induction v using AV.rec (motive_2:=fun l=>et τ l=true→et τ' l=true) with
  | d x=>intro _; rfl
  | agg cs ih=>intro e; simp only [AV.okT] at e ⊢; exact ih e
  | tup cs ih=>intro e; simp only [AV.okT] at e ⊢; exact ih e
  | ptr id off=>intro e; simp only [AV.okT] at e ⊢; exact h _ e
  | eptr id i k sz=>intro e; simp only [AV.okT] at e ⊢; exact h _ e
  | vp n get=>intro _; rfl
  | osl id off n sz=>intro e; simp only [AV.okT] at e ⊢; exact h _ e
  | mp id=>intro e; simp only [AV.okT] at e ⊢; exact h _ e
  | clo f fs cs ih ih'=>intro e; simp only [AV.okT,Bool.and_eq_true] at e ⊢; exact ⟨ih e.1,ih' e.2⟩
  | nsl=>intro _; rfl
  | rsl es ih=>intro e; simp only [AV.okT] at e ⊢; exact ih e
  | rp v ih=>intro e; simp only [AV.okT] at e ⊢; exact ih e
  | bad=>intro _; rfl
  | nil=>rfl
  | cons x l ih ih'=>rename_i e; simp only [et,Bool.and_eq_true] at e ⊢; exact ⟨ih e.1,ih' e.2⟩
theorem uy {τ τ':Nat→Option Nat}(h:∀ i,(τ i).isSome=true→(τ' i).isSome=true):∀ l:List AV,et τ l=true→et τ' l=true
  | [],_=>rfl
  | v::l,e=>by simp only [et,Bool.and_eq_true] at e ⊢; exact ⟨uA h v e.1,uy h l e.2⟩
noncomputable def vM (n:Nat)(ts:List (Nat×AV)):Bool:=d6 (fun p=>td (qA n) p.2) ts
noncomputable def zQ (n:Nat):ak→Bool
  | .live ob=>qC (qA n) ob
  | _=>true
noncomputable def xe (n:Nat)(h:List ak):Bool:=d6 (zQ n) h
theorem um (n i:Nat)(e:(rb n i).isSome=true):(cm (cS n 0) i).isSome=true:=by
  unfold rb at e
  cases hb:Nat.blt i n with
  | false=>rw [hb] at e; cases e
  | true=>
    have:i < n:=by simpa using hb
    unfold cm
    rw [l3 n 0 i (by omega) (by omega)]
    rfl
theorem uR {n:Nat}:∀ {ts:List (Nat×AV)},vM n ts=true→gY (cS n 0) ts=true
  | [],_=>rfl
  | (i,v)::ts,e=>by
    have h0:vM n ((i,v)::ts)=(td (qA n) v&&vM n ts):=f8 _ _ _
    rw [h0,Bool.and_eq_true,te,qB] at e
    rw [gY,Bool.and_eq_true]
    exact ⟨uA (um n) v e.1,uR e.2⟩
theorem zP {n:Nat}:∀ (h:List ak),xe n h=true→eM (cS n 0) h=true:=by
  intro h
  induction h with
  | nil=>intro _; rfl
  | cons s h ih=>
    intro e
    have h0:xe n (s::h)=(zQ n s&&xe n h):=f8 _ _ _
    rw [h0,Bool.and_eq_true] at e
    cases s with
    | live ob=>
      simp only [eM,Bool.and_eq_true]
      refine ⟨?_,ih e.2⟩
      have e1:=e.1
      simp only [zQ,nY,qB] at e1
      cases ob with
      | var cs=>simp only [aQ.okT] at e1 ⊢; exact uy (um n) cs e1
      | arr a b c d=>rfl
      | mp es=>rfl
    | freed=>exact ih e.2
    | resv=>exact ih e.2
noncomputable def mF (F:mD)(N:Nat)(ops:Array Oper)(n:Nat)(h:List ak):List Oper→List (Nat×AV)→Option (List (Nat×AV))
  | [],ts=>some ts
  | o::l,ts=>bif eg N o.dst then (match gl ops o ts with
    | none=>none
    | some false=>mF F N ops n h l (bT o.dst (.tup []) ts)
    | some true=>(match nV ts (ff ops o++gD o.op.operands.toList) with
      | tk=>bif vM n tk then (match F o.op tk h with
        | none=>none
        | some r=>match r.w with
          | []=>bif Nat.beq r.h.length n then (jP r.v fun v=>mF F N ops n h l (bT o.dst v ts)) else none
          | _=>none) else none)) else none
noncomputable def jY (q:Stp):Prop:=q.W=[]∧q.M=[]∧q.A=[]
noncomputable def ko (q:Stp):Stp:=⟨q.rt,[],q.W,q.M,q.A⟩
theorem vV {q1 q2:Stp}{d1 d2:Option Nat}(h1:jY q1)(h2:jY q2):fe q1 q2 d1 d2=fe (ko q1) (ko q2) d1 d2:=by
  obtain ⟨rt1,R1,W1,M1,A1⟩:=q1
  obtain ⟨rt2,R2,W2,M2,A2⟩:=q2
  obtain ⟨rfl,rfl,rfl⟩:=h1
  obtain ⟨rfl,rfl,rfl⟩:=h2
  have hn:∀ R:List Nat,(R.any fun x=>av [] x)=false:=by
    intro R
    induction R with
    | nil=>rfl
    | cons x R ih=>rw [List.any_cons,ih]; rfl
  unfold fe ko
  simp only [List.any_nil,hn]
theorem pN {cl:Nat}{q2:Stp}{d2:Option Nat}(h2:jY q2):∀ (qs:List Stp) (l:List Oper) (i:Nat),(∀ q∈qs,jY q)→fO cl q2 d2 qs l i=fO cl (ko q2) d2 (qs.map ko) l i
  | [],l,i,_=>by cases l <;> rfl
  | q::qs,[],i,_=>rfl
  | q::qs,o::l,i,h=>by
    simp only [fO,List.map_cons]
    rw [pN h2 qs l (i+1) (fun q hq=>h q (List.mem_cons_of_mem _ hq)),vV (h q (List.mem_cons_self ..)) h2]
theorem pK {ops:List Oper}{qs:List Stp}(hq:∀ q∈qs,jY q):∀ (l:List Oper) (r:List Stp) (c:List Nat) (j:Nat),(∀ q∈r,jY q)→iY ops qs l r c j=iY ops (qs.map ko) l (r.map ko) c j
  | [],r,c,j,_=>by cases r <;> cases c <;> rfl
  | o::l,[],c,j,_=>by cases c <;> rfl
  | o::l,q::r,[],j,_=>rfl
  | o::l,q::r,c::cs,j,h=>by
    simp only [iY,List.map_cons]
    rw [pK hq l r cs (j+1) (fun q hq=>h q (List.mem_cons_of_mem _ hq)),pN (h q (List.mem_cons_self ..)) _ _ _ (fun q hq'=>hq q (List.mem_of_mem_take hq')),List.map_take]
theorem rB (ops:Array Oper)(R:List Nat):∀ l,(kW ops R l).map ko=kW ops [] l
  | []=>rfl
  | o::l=>by simp only [kW,List.map_cons,rB ops R l]; rfl
theorem l0 (ops:Array Oper)(R:List Nat):∀ l,∀ q∈kW ops R l,jY q
  | [],q,h=>by simp [kW] at h
  | o::l,q,h=>by
    simp only [kW,List.mem_cons] at h
    rcases h with rfl | h
    · exact ⟨rfl,rfl,rfl⟩
    · exact l0 ops R l q h
theorem tX {R:List Nat}(h:lX ops=true):lm ops (kW ops R ops.toList)=true:=by
  unfold lX lm at h
  unfold lm
  rw [pK (l0 ops R _) _ _ _ _ (l0 ops R _),rB]
  exact h
theorem mG {F:mD}(hF:qn P F){n:Nat}{h:List ak}(hn:h.length=n)(hw:xe n h=true):∀ {l:List Oper} {ts ts':List (Nat×AV)},mF F N ops n h l ts=some ts'→Steps P N ops l ⟨ts,h⟩ (kW ops (cS n 0) l) ⟨ts',h⟩
  | [],ts,ts',e=>by cases e; exact .nil _
  | o::l,ts,ts',e=>by
    simp only [mF] at e
    obtain ⟨hd,e1⟩:=aG e
    clear e
    have hinN:∀ d,o.dst=some d→d < N:=fun d hx=>by rw [hx] at hd; simpa [eg] using hd
    split at e1
    · cases e1
    · rename_i hwd
      exact .cons ⟨hinN,.inr ⟨guard_of hwd (fun i hi=>by
        show av (ff ops o++gD o.op.operands.toList) i=true
        rw [bI,gV hi]; rfl),rfl,rfl⟩⟩ (mG hF hn hw e1)
    · rename_i hwd
      rw [jR] at e1
      obtain ⟨hwf,e2⟩:=aG e1
      clear e1
      split at e2
      · cases e2
      · rename_i r hr
        split at e2
        · rename_i hrw
          obtain ⟨hl,e3⟩:=aG e2
          rw [kp] at e3
          have hl:=Nat.eq_of_beq_eq_true hl
          obtain ⟨k1,k2,k3⟩:=hF o _ _ _ hr
          have hrh:r.h=h:=by
            apply List.ext_getElem?
            intro i
            rcases Nat.lt_or_ge i h.length with c | c
            · exact k3 i c (by rw [hrw]; rfl)
            · rw [List.getElem?_eq_none c,List.getElem?_eq_none (by omega)]
          have hmask:ba (cS n 0++[]) [] 0 h=h:=rc _ _ h 0 (fun i h1 h2=>by rw [List.append_nil]; exact l3 n 0 i h1 (by omega))
          refine .cons ⟨hinN,.inl ⟨r.v,h,guard_of hwd (fun i hi=>by
            show av (ff ops o++gD o.op.operands.toList) i=true
            rw [bI,gV hi]; rfl),?_,rfl,?_,?_,?_⟩⟩ (mG hF hn hw e3)
          · show ae P o _ (ba (cS n 0++[]) [] 0 h) r.v h
            rw [hmask,← hrh]
            rw [hrh]
            have:=k1
            rw [hrh] at this
            exact this
          · show cg [] 0 (ba (cS n 0++[]) [] 0 h) h=h
            rw [hmask]; exact ge _ _ _
          · show (gY ((cS n 0++[])++[]) _&&eM ((cS n 0++[])++[]) (ba (cS n 0++[]) [] 0 h)&&([]:List Nat).all (fun x=>!ec h x)&&([]:List Nat).all (fun x=>av [] x||(!ec h x && !ec h x)))=true
            rw [hmask,List.append_nil,List.append_nil]
            have a1:gY (cS n 0) (bR ts (ff ops o++gD o.op.operands.toList))=true:=uR hwf
            rw [a1,zP _ hw]; rfl
          · show (⟨bT o.dst r.v ts,h⟩:St)=⟨bT o.dst r.v ts,cg [] 0 h h⟩
            rw [ge]
        · cases e2
noncomputable def qq (F:mD)(N m:Nat)(ops:Array Oper)(draw:Bool)(x:Sh):Option Sh:=bif draw then
    (bif o4 ops.toList&&lX ops then (match x.h.length with
      | n=>bif xe n x.h then (match mF F N ops n x.h ops.toList x.ts with
        | some ts=>some ⟨ts,x.h,x.w⟩
        | none=>none) else none)
    else (match tF ops.toList with
      | n=>match pk F N ops ops.toList x.ts (x.h++List.replicate n .resv) (List.range' x.h.length n) with
        | some y=>bif uz ops y.qs then some ⟨y.ts,y.h,lG m x.w y.w⟩ else none
        | none=>none))
  else su F N m ops ops.toList x
theorem uU {m id:Nat}{draw:Bool}{F:mD}(hF:qn P F)(hM:P.follows .mixedOrders=true){h0:List ak}{x y:Sh}(e:qq F N h0.length ops draw x=some y)(hc:bD h0 x.h x.w):aa P N m (.region id ops draw) ⟨x.ts,x.h⟩ (fun e s=>e = .normal∧s=⟨y.ts,y.h⟩)∧bD h0 y.h y.w:=by
  unfold qq at e
  cases draw with
  | true=>
    simp only [cond_true] at e
    cases hq:o4 ops.toList&&lX ops with
    | true=>
      rw [hq] at e
      simp only [cond_true] at e
      rw [Bool.and_eq_true] at hq
      obtain ⟨hw,e2⟩:=aG e
      clear e
      split at e2
      · rename_i ts hts
        cases e2
        exact ⟨aa.regionAny hM (mG hF rfl hw hts) (tX hq.2) ⟨rfl,rfl⟩,hc⟩
      · cases e2
    | false=>
      rw [hq] at e
      simp only [cond_false] at e
      split at e
      · rename_i z hz
        obtain ⟨h1,e2⟩:=aG e
        rw [vr] at h1
        cases e2
        obtain ⟨a,b⟩:=oD hF hz
        exact ⟨aa.ghost (GStep.resv _) (aa.regionAny hM a h1 ⟨rfl,rfl⟩),hc.addW ((bD.push _ _).trans b)⟩
      · cases e
  | false=>
    simp only [cond_false] at e
    obtain ⟨a,b⟩:=qr (m:=m) hF e hc
    exact ⟨aa.region (fun G a0 w hN hi hr Qc k=>a G a0 w hN hi hr Qc fun a' w' G' s' q=>k a' w' G' s' ⟨rfl,q⟩),b⟩
end
end
end Go.Abs
namespace Go.Abs
noncomputable section
structure CR where
  e:Exit
  x:Sh
noncomputable def tL:List (Nat×AV)→List Nat→List Nat
  | [],_=>[]
  | (i,_)::ts,seen=>Bool.rec (motive:=fun _=>List Nat) (i::tL ts (i::seen)) (tL ts seen) (cD seen i)
noncomputable def tl:List Oper→List Nat
  | []=>[]
  | o::l=>match o.dst with
    | some d=>d::tl l
    | none=>tl l
noncomputable def iI:Code→List Nat
  | .region _ ops _=>tl ops.toList
  | .seq a b=>iI a++iI b
  | .cond _ a b=>iI a++iI b
  | .block _ c=>iI c
  | .loop c=>iI c
  | _=>[]
noncomputable def xO:List Nat→List Nat→List Nat
  | [],_=>[]
  | i::l,seen=>Bool.rec (motive:=fun _=>List Nat) (i::xO l (i::seen)) (xO l seen) (cD seen i)
noncomputable def nU:Nat→Nat→List Nat→Bool
  | 0,_,_=>true
  | m+1,i,x::l=>bif Nat.beq x i then nU m (i+1) l else false
  | _+1,_,[]=>false
theorem oo:∀ {m i:Nat} {l:List Nat},nU m i l=true→l.take m=List.range' i m
  | 0,i,l,_=>by simp
  | m+1,i,[],h=>by cases h
  | m+1,i,x::l,h=>by
    simp only [nU] at h
    cases hb:Nat.beq x i with
    | false=>rw [hb] at h; cases h
    | true=>
      rw [hb] at h
      obtain rfl:x=i:=Nat.eq_of_beq_eq_true hb
      rw [List.take_succ_cons,List.range'_succ,oo h]
noncomputable def wI (m:Nat)(π:List Nat)(h:List ak):Bool:=nodupB π&&(match h.length with | n=>d6 (fun id=>Nat.blt id n) π)&&nU m 0 π
noncomputable def ue (m:Nat)(ts:List (Nat×AV))(x:Sh):Sh:=match fG x.h (x.h.length+m+1) 0 (sh ts (cS m 0)) with
    | π=>bif wI m π x.h then ⟨tw (iv π) ts,vA (iv π) x.h π,x.w⟩ else ⟨ts,x.h,x.w⟩
noncomputable def gc (m n:Nat)(keys:List Nat)(x:Sh):Sh:=bif Nat.beq (n % 4) 0 then (match nV x.ts keys with
    | ts=>bif Nat.blt (m+24) x.h.length then ue m ts x else ⟨ts,x.h,x.w⟩) else x
noncomputable def Closed (h0:List ak):Prop:=∀ (i:Nat) (s:ak),h0[i]? = some s→∃ ob,s = .live ob∧ob.okT (rb h0.length)=true
theorem sT {m i j:Nat}(h:rb m i=some j):j=i∧i < m:=by
  unfold rb at h
  cases hb:Nat.blt i m with
  | true=>rw [hb] at h; cases h; exact ⟨rfl,by simpa using hb⟩
  | false=>rw [hb] at h; cases h
theorem rC:∀ (π:List Nat) (m k i:Nat),π.take m=(List.range' k m)→i < m→dl π k (k+i)=some (k+i)
  | [],m,k,i,h,hi=>by
    have:=congrArg List.length h
    simp at this
    omega
  | x::π,0,k,i,h,hi=>by omega
  | x::π,m+1,k,i,h,hi=>by
    rw [List.take_succ_cons,List.range'_succ] at h
    simp only [List.cons.injEq] at h
    obtain ⟨rfl,h⟩:=h
    cases i with
    | zero=>simp [dl]
    | succ i=>
      have c:x.beq (x+(i+1))=false:=by rw [Bool.eq_false_iff]; intro hb; have:=Nat.eq_of_beq_eq_true hb; omega
      simp only [dl,c,cond_false]
      have:=rC π m (x+1) i h (by omega)
      rwa [show x+(i+1)=x+1+i by omega]
theorem t9 {h0 h:List ak}{w π:List Nat}(hcl:Closed h0)(hc:bD h0 h w)(hm:π.take h0.length=List.range h0.length):bD h0 (g6 (dl π 0) h π) w:=by
  have hlen:h0.length≤π.length:=by
    have:=congrArg List.length hm
    simp at this
    omega
  refine ⟨by rw [k9]; exact hlen,fun i hi hw=>?_⟩
  have hπ:π[i]? = some i:=by
    have:(π.take h0.length)[i]? = some i:=by rw [hm,List.getElem?_range hi]
    rwa [List.getElem?_take_of_lt hi] at this
  rw [l9,hπ]
  simp only [Option.map_some]
  have h1:=hc.2 i hi hw
  obtain ⟨s,hs⟩:∃ s,h0[i]? = some s:=⟨_,List.getElem?_eq_getElem hi⟩
  rw [h1,hs]
  simp only [Option.getD_some]
  obtain ⟨ob,rfl,hok⟩:=hcl i s hs
  simp only [ak.tr]
  rw [nh (τ:=rb h0.length) (fun j hj=>?_) ob hok,ni (fun a b hab=>(sT hab).1) ob hok]
  obtain ⟨y,hy⟩:=Option.isSome_iff_exists.1 hj
  obtain ⟨rfl,hlt⟩:=sT hy
  rw [hy]
  have:=rC π h0.length 0 y (by rw [hm,List.range_eq_range']) hlt
  rwa [Nat.zero_add] at this
theorem uC {m:Nat}{π:List Nat}{h:List ak}(e:wI m π h=true):π.Nodup∧π.all (fun id=>Nat.blt id h.length)=true∧π.take m=List.range m:=by
  simp only [wI,Bool.and_eq_true] at e
  exact ⟨jx e.1.1,by rw [← jH]; exact e.1.2,by rw [oo e.2,List.range_eq_range']⟩
theorem zs {h0:List ak}{ts:List (Nat×AV)}{x:Sh}(hcl:Closed h0)(hc:bD h0 x.h x.w)(hs:GStep h0.length ⟨x.ts,x.h⟩ ⟨ts,x.h⟩):GStep h0.length ⟨x.ts,x.h⟩ ⟨(ue h0.length ts x).ts,(ue h0.length ts x).h⟩∧bD h0 (ue h0.length ts x).h (ue h0.length ts x).w:=by
  unfold ue
  simp only
  generalize fG x.h (x.h.length+h0.length+1) 0 (sh ts (cS h0.length 0))=π
  cases hb:wI h0.length π x.h with
  | true=>
    obtain ⟨a,b,c⟩:=uC hb
    simp only [cond_true]
    rw [rD,tu,iQ]
    exact ⟨hs.trans (GStep.ren (s:=⟨_,x.h⟩) _ a b c),t9 hcl hc c⟩
  | false=>exact ⟨hs,hc⟩
theorem zT {h0:List ak}{n:Nat}{keys:List Nat}{x:Sh}(hcl:Closed h0)(hc:bD h0 x.h x.w):GStep h0.length ⟨x.ts,x.h⟩ ⟨(gc h0.length n keys x).ts,(gc h0.length n keys x).h⟩∧bD h0 (gc h0.length n keys x).h (gc h0.length n keys x).w:=by
  unfold gc
  cases Nat.beq (n % 4) 0 with
  | false=>exact ⟨GStep.refl _ _,hc⟩
  | true=>
    simp only [cond_true]
    rw [jR]
    have hk:=GStep.keep (m:=h0.length) (s:=⟨x.ts,x.h⟩) keys
    cases Nat.blt (h0.length+24) x.h.length with
    | false=>exact ⟨hk,hc⟩
    | true=>exact zs hcl hc hk
noncomputable def nK (body:Sh→Option CR)(m:Nat)(keys:List Nat):Nat→Sh→Option CR
  | 0,_=>none
  | n+1,x=>match body x with
    | some ⟨.normal,y⟩=>nK body m keys n (gc m n keys y)
    | r=>r
noncomputable def f5 (F:mD)(LF N m:Nat):Code→Sh→Option CR
  | .skip,x=>some ⟨.normal,x⟩
  | .label _,x=>some ⟨.normal,x⟩
  | .exit id,x=>some ⟨.exit id,x⟩
  | .ret,x=>some ⟨.ret,x⟩
  | .region _ ops draw,x=>(match qq F N m ops draw x with
    | some y=>some ⟨.normal,y⟩
    | none=>none)
  | .seq a b,x=>(match f5 F LF N m a x with
    | some ⟨.normal,y⟩=>f5 F LF N m b y
    | r=>r)
  | .cond c a b,x=>(match zr x.ts c with
    | .d (.bool true)=>f5 F LF N m a x
    | .d (.bool false)=>f5 F LF N m b x
    | _=>none)
  | .block id c,x=>(match f5 F LF N m c x with
    | some ⟨.exit id',y⟩=>if id'=id then some ⟨.normal,y⟩ else some ⟨.exit id',y⟩
    | r=>r)
  | .loop c,x=>(match xO (iI c) [] with
    | ds=>nK (f5 F LF N m c) m (ds++tL x.ts ds) LF x)
  | _,_=>none
section
variable {P:Program}{N:Nat}
noncomputable def vP (P:Program)(N:Nat)(h0:List ak)(c:Code)(x:Sh)(r:CR):Prop:=aa P N h0.length c ⟨x.ts,x.h⟩ (mE h0.length fun e s=>e=r.e∧s=⟨r.x.ts,r.x.h⟩)∧bD h0 r.x.h r.x.w
theorem lD {m:Nat}{Q:Exit→St→Prop}{e:Exit}{s:St}(h:Q e s):mE m Q e s:=⟨s,GStep.refl _ _,h⟩
theorem sp {h0:List ak}(hcl:Closed h0){c:Code}{body:Sh→Option CR}(hb:∀ x r,body x=some r→bD h0 x.h x.w→vP P N h0 c x r) :
    ∀ (n:Nat) {keys:List Nat} {x:Sh} {r:CR},nK body h0.length keys n x=some r→bD h0 x.h x.w→r.e≠.normal→aM P N h0.length c (mE h0.length fun e s=>e=r.e∧s=⟨r.x.ts,r.x.h⟩) n ⟨x.ts,x.h⟩∧bD h0 r.x.h r.x.w
  | 0,_,x,r,e,_,_=>by cases e
  | n+1,keys,x,r,e,hc,hne=>by
    simp only [nK] at e
    split at e
    · rename_i y hy
      obtain ⟨a,b⟩:=hb _ _ hy hc
      obtain ⟨g1,g2⟩:=zT hcl b
      obtain ⟨k1,k2⟩:=sp hcl hb n e g2 hne
      refine ⟨aa.cut (Q':=fun e s=>e = .normal∧s=⟨y.ts,y.h⟩) a fun e s q=>?_,k2⟩
      obtain ⟨rfl,rfl⟩:=q
      exact aM.ghost g1 k1
    · rename_i hn
      obtain ⟨a,b⟩:=hb _ _ e hc
      refine ⟨aa.mono a fun e s q=>?_,b⟩
      obtain ⟨s',q1,rfl,rfl⟩:=q
      have:n7 (aM P N h0.length c (mE h0.length fun e s=>e=r.e∧s=⟨r.x.ts,r.x.h⟩) n) (mE h0.length fun e s=>e=r.e∧s=⟨r.x.ts,r.x.h⟩) r.e s=(mE h0.length fun e s=>e=r.e∧s=⟨r.x.ts,r.x.h⟩) r.e s:=by
        cases he:r.e with
        | normal=>exact absurd he hne
        | _=>rfl
      rw [this]
      exact ⟨_,q1,rfl,rfl⟩
theorem so {m:Nat}{body:Sh→Option CR}:∀ (n:Nat) {keys:List Nat} {x:Sh} {r:CR},nK body m keys n x=some r→r.e≠.normal
  | 0,_,x,r,e=>by cases e
  | n+1,keys,x,r,e=>by
    simp only [nK] at e
    split at e
    · exact so n e
    · rename_i hn
      intro he
      obtain ⟨e0,x0⟩:=r
      simp only at he
      subst he
      exact hn _ e
theorem xk {F:mD}(hF:qn P F)(hM:P.follows .mixedOrders=true){LF:Nat}{h0:List ak}(hcl:Closed h0):∀ {c:Code} {x:Sh} {r:CR},f5 F LF N h0.length c x=some r→bD h0 x.h x.w→vP P N h0 c x r:=by
  intro c
  induction c with
  | skip=>intro x r e hc; cases e; exact ⟨aa.skip (lD ⟨rfl,rfl⟩),hc⟩
  | label l=>intro x r e hc; cases e; exact ⟨aa.label (lD ⟨rfl,rfl⟩),hc⟩
  | exit id=>intro x r e hc; cases e; exact ⟨aa.exit (lD ⟨rfl,rfl⟩),hc⟩
  | ret=>intro x r e hc; cases e; exact ⟨aa.ret (lD ⟨rfl,rfl⟩),hc⟩
  | region id ops draw=>
    intro x r e hc
    simp only [f5] at e
    split at e
    · rename_i y hy
      cases e
      obtain ⟨a,b⟩:=uU (m:=h0.length) (id:=id) hF hM hy hc
      exact ⟨a.mono fun e s q=>lD q,b⟩
    · cases e
  | seq a b iha ihb=>
    intro x r e hc
    simp only [f5] at e
    split at e
    · rename_i y hy
      obtain ⟨k1,k2⟩:=iha hy hc
      obtain ⟨j1,j2⟩:=ihb e k2
      refine ⟨aa.seq (aa.cut (Q':=fun e s=>e = .normal∧s=⟨y.ts,y.h⟩) k1 ?_),j2⟩
      rintro e s ⟨rfl,rfl⟩
      exact j1
    · rename_i hn
      obtain ⟨k1,k2⟩:=iha e hc
      refine ⟨aa.seq (aa.mono k1 fun e s q=>?_),k2⟩
      obtain ⟨s',q1,rfl,rfl⟩:=q
      cases he:r.e with
      | normal=>exact (hn r.x (by rw [e,← he])).elim
      | _=>exact ⟨_,q1,he.symm▸rfl,rfl⟩
  | cond cnd a b iha ihb=>
    intro x r e hc
    simp only [f5,v5] at e
    split at e
    · rename_i hv
      obtain ⟨k1,k2⟩:=iha e hc
      exact ⟨aa.condT hv rfl k1,k2⟩
    · rename_i hv
      obtain ⟨k1,k2⟩:=ihb e hc
      exact ⟨aa.condF hv rfl k1,k2⟩
    · cases e
  | block id c ih=>
    intro x r e hc
    simp only [f5] at e
    split at e
    · rename_i id' y hy
      obtain ⟨k1,k2⟩:=ih hy hc
      have key:∀ r:CR,(if id'=id then some (⟨.normal,y⟩:CR) else some ⟨.exit id',y⟩)=some r→r.x=y∧(id'=id→r.e = .normal)∧(id'≠id→r.e = .exit id'):=by
        intro r hr
        split at hr <;> cases hr
        · exact ⟨rfl,fun _=>rfl,fun h=>absurd (by assumption) h⟩
        · exact ⟨rfl,fun h=>absurd h (by assumption),fun _=>rfl⟩
      obtain ⟨e1,e2,e3⟩:=key r e
      refine ⟨aa.block (aa.mono k1 fun e s q=>?_),by rw [e1]; exact k2⟩
      obtain ⟨s',q1,rfl,rfl⟩:=q
      simp only [sD]
      split
      · rename_i h; exact ⟨_,q1,(e2 h).symm,by rw [e1]⟩
      · rename_i h; exact ⟨_,q1,(e3 h).symm,by rw [e1]⟩
    · rename_i hn
      obtain ⟨k1,k2⟩:=ih e hc
      refine ⟨aa.block (aa.mono k1 fun e s q=>?_),k2⟩
      obtain ⟨s',q1,rfl,rfl⟩:=q
      cases he:r.e with
      | exit id'=>exact (hn id' r.x (by rw [e,← he])).elim
      | _=>exact ⟨_,q1,he.symm▸rfl,rfl⟩
  | loop c ih=>
    intro x r e hc
    simp only [f5] at e
    obtain ⟨k1,k2⟩:=sp hcl (fun x r h hc=>ih h hc) LF e hc (so LF e)
    exact ⟨aa.loop LF k1,k2⟩
  | _=>intro x r e hc; cases e
noncomputable def iw (P:Program)(x:Sh):ResultVar→Option AV
  | .tmp t=>jw x.ts t
  | .cell y t=>match jw x.ts y,cf P t with
    | some (.ptr id off),some (g,n)=>(match fw x.h id with
      | some (.live (.var cs))=>bif g then (bif Nat.ble (off+n) cs.length then some (.agg ((cs.drop off).take n)) else none) else cs[off]?
      | _=>none)
    | _,_=>none
theorem hQ {x:Sh}{rv:ResultVar}{v:AV}(e:iw P x rv=some v):fS P ⟨x.ts,x.h⟩ rv v:=by
  cases rv with
  | tmp t=>simp only [iw,gS] at e; exact .tmp e
  | cell y t=>
    simp only [iw,gS] at e
    split at e
    · rename_i id off g n h1 h2
      split at e
      · rename_i cs hh
        rw [dY] at hh
        cases g with
        | true=>
          simp only [cond_true] at e
          obtain ⟨c,e2⟩:=aG e
          cases e2
          exact .cellA h1 h2 hh c
        | false=>exact .cell h1 h2 hh e
      · cases e
    · cases e
noncomputable def tx (P:Program)(rs:List ResultVar)(x:Sh):Option AV:=match rs with
  | []=>some (.tup [])
  | [a]=>iw P x a
  | [a,b]=>(match iw P x a,iw P x b with
    | some u,some v=>some (.tup [u,v])
    | _,_=>none)
  | [a,b,c]=>(match iw P x a,iw P x b,iw P x c with
    | some u,some v,some y=>some (.tup [u,v,y])
    | _,_,_=>none)
  | _=>none
theorem Av {α:Type}{a:Array α}{x y z:α}(h:a.toList=[x,y,z]):a = #[x,y,z]:=by cases a; simp_all
theorem wO {rs:Array ResultVar}{x:Sh}{v:AV}(e:tx P rs.toList x=some v):aB P rs ⟨x.ts,x.h⟩ v:=by
  unfold tx at e
  split at e
  · rename_i h
    have:rs = #[]:=by cases rs; simp_all
    subst this
    cases e
    exact aB.none
  · rename_i a h; rw [sB h]; exact aB.one (hQ e)
  · rename_i a b h
    rw [xn h]
    split at e
    · rename_i h1 h2; cases e; exact aB.two (hQ h1) (hQ h2)
    · cases e
  · rename_i a b c h
    rw [Av h]
    split at e
    · rename_i h1 h2 h3; cases e; exact aB.three (hQ h1) (hQ h2) (hQ h3)
    · cases e
  · cases e
theorem kG.refl (x:AV):kG x x:=by
  cases x <;> simp only [kG] <;> first | exact dH.refl _ | exact aF.refl _
theorem gk.refl:∀ xs,gk xs xs
  | []=>trivial
  | x::xs=>⟨kG.refl x,gk.refl xs⟩
theorem oA.refl (x:AV):oA x x:=by
  cases x <;> simp only [oA] <;> first | exact gk.refl _ | exact kG.refl _
noncomputable def qt (h:List ak):List Nat→List Nat→List Nat
  | [],acc=>acc
  | i::l,acc=>match kS h i with
    | some (.live (.var cs))=>qt h l (lg acc cs)
    | _=>qt h l acc
noncomputable def pq (P:Program)(m:Nat)(rs:List ResultVar)(x:Sh):Option ER:=match tx P rs x with
  | none=>none
  | some r=>match fG x.h (x.h.length+1) m (qt x.h x.w (sv (cS m 0) r)) with
    | π=>bif wI m π x.h then jP (ox (iv π) r) fun v=>pD (iv π) (fun id=>(fw x.h id).getD .freed) π fun h'=>some ⟨v,h',x.w⟩ else none
noncomputable def lF (P:Program)(KT:List (TypeId×List IntKind))(LF:Nat):Nat→nJ
  | 0,_,_,_=>none
  | k+1,f,args,hs=>match P.funcs[f]? with
    | none=>none
    | some fn=>match fn.body with
      | none=>none
      | some c=>bif !(fn.name == "runtime.NumGoroutine")&&Nat.ble args.length fn.ntmps&&d6 (qC (qA hs.length)) hs then
          (match f5 (sq P KT (lF P KT LF k)) LF fn.ntmps hs.length c ⟨jc args 0,hs.map .live,[]⟩ with
          | some ⟨.normal,x⟩=>pq P hs.length fn.results.toList x
          | some ⟨.ret,x⟩=>pq P hs.length fn.results.toList x
          | _=>none) else none
theorem sx {α:Type}{f:α→Bool}:∀ {l:List α},d6 f l=true→∀ x∈l,f x=true
  | y::l,h,x,hx=>by
    rw [f8,Bool.and_eq_true] at h
    rcases List.mem_cons.1 hx with rfl | hx
    · exact h.1
    · exact sx h.2 x hx
theorem xy {rs:Array ResultVar}{h0:List ak}(hcl:Closed h0){x:Sh}{r:ER}(e:pq P h0.length rs.toList x=some r)(hc:bD h0 x.h x.w):Fin P rs h0.length r.h r.v ⟨x.ts,x.h⟩∧bD h0 r.h r.w:=by
  unfold pq at e
  split at e
  · cases e
  · rename_i v hv
    obtain ⟨h1,e2⟩:=aG e
    rw [kp,lV,tv] at e2
    cases e2
    obtain ⟨a,b,c⟩:=uC h1
    rw [qj,iQ]
    exact ⟨Fin.mk2 (wO hv) _ a b c rfl (oA.refl _),t9 hcl hc c⟩
theorem oC {KT:List (TypeId×List IntKind)}(hK:mC P KT)(hM:P.follows .mixedOrders=true)(LF:Nat):∀ k,sk P (lF P KT LF k)
  | 0,f,args,hs,r,e=>by cases e
  | k+1,f,args,hs,r,e=>by
    simp only [lF] at e
    split at e
    · cases e
    · rename_i fn hf
      split at e
      · cases e
      · rename_i c hbody
        obtain ⟨h0,e2⟩:=aG e
        clear e
        simp only [Bool.and_eq_true,Bool.not_eq_true'] at h0
        obtain ⟨⟨h1,h2⟩,h3⟩:=h0
        have hF:qn P (sq P KT (lF P KT LF k)):=fun o ts h r hr=>yM hK (oC hK hM LF k) hr
        have hlm:(hs.map ak.live).length=hs.length:=List.length_map _
        have hcl:Closed (hs.map ak.live):=fun i s hs'=>by
          rw [List.getElem?_map] at hs'
          obtain ⟨ob,hob,rfl⟩:=Option.map_eq_some_iff.1 hs'
          refine ⟨ob,rfl,?_⟩
          rw [hlm]
          have:=sx h3 ob (List.mem_of_getElem? hob)
          rw [nY,qB] at this
          exact this
        have main:∀ (ex:Exit) (x:Sh),f5 (sq P KT (lF P KT LF k)) LF fn.ntmps hs.length c ⟨jc args 0,hs.map .live,[]⟩=some ⟨ex,x⟩→(ex = .normal∨ex = .ret)→pq P hs.length fn.results.toList x=some r→
            SC P f args hs r.v r.h∧hs.length≤r.h.length∧∀ j ob,hs[j]? = some ob→av r.w j=false→r.h[j]? = some (.live ob):=by
          intro ex x hx hex he
          rw [← hlm] at hx he
          obtain ⟨a,b⟩:=xk hF hM hcl hx (bD.refl _ _)
          obtain ⟨k1,k2⟩:=xy hcl he b
          refine ⟨SC.intro3 hf h1 hbody rfl h2 ?_,by rw [← hlm]; exact k2.1,fun j ob hj hw=>?_⟩
          · rw [hlm] at a k1
            refine a.mono fun e s q=>?_
            obtain ⟨s',q1,rfl,rfl⟩:=q
            exact ⟨_,q1,hex,k1⟩
          · have hjl:j < (hs.map ak.live).length:=by rw [hlm]; exact (List.getElem?_eq_some_iff.1 hj).1
            rw [k2.2 j hjl hw,List.getElem?_map,hj]; rfl
        split at e2
        · rename_i x hx; exact main _ _ hx (.inl rfl) e2
        · rename_i x hx; exact main _ _ hx (.inr rfl) e2
        · cases e2
end
end
end Go.Abs
namespace Go.Abs
section
variable {P:Program}{o:Oper}{ts:List (Nat×AV)}{h h':List ak}
theorem RD.slx {I:Nat→Nat→Option Value}{v:Value}{n sz:Nat}{g g':Nat→Nat→D}(h:RD I v (.sl n sz g))(e:∀ i,i < n→∀ j,j < sz→g i j=g' i j):RD I v (.sl n sz g'):=by
  cases h with
  | sl0 a c sz get=>exact .sl0 _ _ _ _
  | sl b o n c sz get u hc hI ho hr=>exact .sl b o n c sz g' u hc hI ho fun i hi j hj=>e i hi j hj▸hr i hi j hj
theorem RV.slx {G:Gh}{v:Value}{n sz:Nat}{g g':Nat→Nat→D}(h:RV G v (.d (.sl n sz g)))(e:∀ i,i < n→∀ j,j < sz→g i j=g' i j):RV G v (.d (.sl n sz g')):=by
  cases h with
  | d h=>exact .d (h.slx e)
theorem ae.res {v v':AV}(H:ae P o ts h v h')(m:∀ G u,RV G u v→RV G u v'):ae P o ts h v' h':=
  fun G a w hi hr next Q hn=>H G a w hi hr next Q fun val w' G' r1 r2 r3=>hn val w' G' (m _ _ r1) r2 r3
theorem ae.sliceHT {α:Type}[Inhabited α](enc:α→List D)(xs:List α){t e:TypeId}{g:Bool}{x z:Operand}{sz:Nat}{k':IntKind}{h0:Int}(ho:o.op = .slice t x none (some z) none)(hx:ax ts x = .d (af sz enc xs))(hz:ax ts z = .d (.int k' h0))(hs:cy P t=some (e,g,sz))
    (h1:0≤h0) (h2:h0≤(xs.length:Int)):ae P o ts h (.d (af sz enc (xs.take h0.toNat))) h:=by
  have hl:(xs.take h0.toNat).length=h0.toNat:=by rw [List.length_take]; omega
  unfold af
  rw [hl]
  refine ae.res (ae.sliceH ho hx hz hs h1 h2) fun G u hu=>hu.slx fun i hi j hj=>?_
  simp only [row,List.getD_eq_getElem?_getD,List.getElem?_take,if_pos hi]
end
end Go.Abs
namespace Go.Abs
open Go.Proofs
noncomputable section
abbrev P:Program:=Tryz.prog
theorem mixed:P.follows .mixedOrders=true:=by kernel_rfl
noncomputable def KT:List (TypeId×List IntKind):=[(103,[.i64,.i64,.i64]),(289,List.replicate 3 .i64)]
theorem zx:mC P KT:=by
  intro t ks h
  simp only [KT,List.mem_cons,Prod.mk.injEq,List.not_mem_nil,or_false] at h
  rcases h with ⟨rfl,rfl⟩ | ⟨rfl,rfl⟩
  · exact uq (by kernel_rfl)
  · exact yW (by kernel_rfl)
noncomputable def asBool:Option ER→Option Bool
  | some ⟨.d (.bool b),[],_⟩=>some b
  | _=>none
noncomputable def rW (f:FuncId)(args:List AV):Option Bool:=asBool (lF P KT 200 60 f args [])
theorem sR {f:FuncId}{args:List AV}{r:Bool}(h:rW f args=some r):SC P f args [] (.d (.bool r)) []:=by
  unfold rW asBool at h
  split at h
  · rename_i b w hc
    cases h
    exact (oC zx mixed 200 60 f args [] _ hc).1
  · cases h
end
end Go.Abs
namespace Go.Abs
noncomputable section
abbrev sm:={ p:Prop // p }
noncomputable def eq (l:List Prop):Prop:=∀ p∈l,p
theorem eq.facts (fs:List sm):eq (fs.map (·.1)):=fun p hp=>by
  obtain ⟨f,_,rfl⟩:=List.mem_map.1 hp
  exact f.2
structure SR where
  v:AV
  h:List ak
  c:List Prop
noncomputable def ot (h:List ak)(x:Option AV):Option SR:=match x with
  | some v=>some ⟨v,h,[]⟩
  | none=>none
noncomputable def tA (P:Program)(t:TypeId)(h:List ak)(x y:AV):Option SR:=match cy P t with
  | none=>none
  | some (_,_,sz0)=>match y with
    | .d (.int _ i)=>(match x with
      | .d (.sl n sz get)=>bif sz.beq sz0 then some ⟨.vp sz (fun j=>get i.toNat j),h,[0≤i,i < (n:Int)]⟩ else none
      | .osl id off n sz=>bif sz.beq sz0 then (match off with
        | 0=>some ⟨.eptr id i.toNat 0 sz,h,[0≤i,i < (n:Int)]⟩
        | off+1=>some ⟨.eptr id (off+1+i.toNat) 0 sz,h,[0≤i,i < (n:Int)]⟩) else none
      | _=>none)
    | _=>none
noncomputable def xZ (P:Program)(t:TypeId)(h:List ak)(x y:AV):Option SR:=match x,y with
  | .d (.str s),.d (.int _ i)=>bif (match P.underlying t with | some .string=>true | _=>false) then some ⟨.d (.int .u8 (bM s i.toNat)),h,[0≤i,i < (s.size:Int)]⟩ else none
  | _,_=>none
noncomputable def tC (P:Program)(t:TypeId)(h:List ak)(x v:AV):Option SR:=match cf P t with
  | none=>none
  | some (_,n)=>match x with
    | .ptr id off=>(match fw h id with
      | some (.live (.var cs))=>bif v.boxable&&d6 AV.flat (cellsOf v)&&(cellsOf v).length.beq n&&Nat.ble (off+n) cs.length then some ⟨.bad,h.set id (.live (.var (dV cs off (cellsOf v)))),[]⟩ else none
      | _=>none)
    | _=>none
noncomputable def nD (P:Program)(p:Nat)(op:Op)(ts:List (Nat×AV))(h:List ak):Option SR:=match op with
  | .move x=>some ⟨ax ts x,h,[]⟩
  | .assign x=>some ⟨ax ts x,h,[]⟩
  | .pick c x y=>(match ax ts c with
    | .d (.bool b)=>(match p with
      | 0=>(match b with
        | true=>some ⟨ax ts x,h,[]⟩
        | false=>some ⟨ax ts y,h,[]⟩)
      | 1=>some ⟨ax ts x,h,[b=true]⟩
      | 2=>some ⟨ax ts y,h,[b=false]⟩
      | _=>none)
    | _=>none)
  | .alloc t=>(match cd P t with
    | some l=>some ⟨.ptr h.length 0,h++[.live (.var l)],[]⟩
    | none=>none)
  | .box _ x=>bif (ax ts x).boxable then some ⟨.ptr h.length 0,h++[.live (.var (cellsOf (ax ts x)))],[]⟩ else none
  | .build t ps=>ot h (pT P t (ps.toList.map fun q=>(q.1,ax ts q.2)))
  | .load t x=>ot h (sd P t h (ax ts x))
  | .store t x y=>tC P t h (ax ts x) (ax ts y)
  | .nilCheck x=>ot h (vx (ax ts x))
  | .binOp b t x y _=>ot h (vu P b t (ax ts x) (ax ts y))
  | .unOp u _ x=>ot h (yC u (ax ts x))
  | .convert s t x=>ot h (sb P s t (ax ts x))
  | .makeFunc (.func f) fs cs=>(match fs.toList,cs.toList with
    | [],[]=>some ⟨.d (.fn f),h,[]⟩
    | fs,cs=>some ⟨.clo f (fs.map (ax ts)) (cs.map (ax ts)),h,[]⟩)
  | .fieldAddr t x i=>ot h (pU P t i (ax ts x))
  | .indexAddr t x y=>tA P t h (ax ts x) (ax ts y)
  | .index t x y=>xZ P t h (ax ts x) (ax ts y)
  | .extract x i=>ot h (lY (ax ts x) i)
  | .call ⟨.builtin .len,args,tys⟩=>(match args.toList,tys.toList with
    | [x],[t]=>ot h (vv P t (ax ts x))
    | _,_=>none)
  | _=>none
section
variable {P:Program}{o:Oper}{ts:List (Nat×AV)}{h:List ak}{r:SR}
theorem iq {x:Option AV}(hq:∀ v,x=some v→ae P o ts h v h)(e:ot h x=some r):ae P o ts h r.v r.h:=by
  cases x with
  | none=>cases e
  | some v=>cases e; exact hq v rfl
theorem eq.two {a b:Prop}(h:eq [a,b]):a∧b:=⟨h a (by simp),h b (by simp)⟩
theorem eq.one {a:Prop}(h:eq [a]):a:=h a (by simp)
theorem wR {t:TypeId}{x y:Operand}(ho:o.op = .indexAddr t x y)(e:tA P t h (ax ts x) (ax ts y)=some r)(hc:eq r.c):ae P o ts h r.v r.h:=by
  unfold tA at e
  split at e
  · cases e
  · rename_i e0 g sz0 hs
    split at e
    · rename_i k i hy
      split at e
      · rename_i n sz get hx
        obtain ⟨h0,e2⟩:=aG e
        clear e
        obtain rfl:=Nat.eq_of_beq_eq_true h0
        cases e2
        exact ae.index ho hx hy hs hc.two.1 hc.two.2
      · rename_i id off n sz hx
        obtain ⟨h0,e2⟩:=aG e
        clear e
        obtain rfl:=Nat.eq_of_beq_eq_true h0
        cases off with
        | zero=>cases e2; exact ae.indexO0 ho hx hy hs hc.two.1 hc.two.2
        | succ off=>cases e2; exact ae.indexO ho hx hy hs hc.two.1 hc.two.2
      · cases e
    · cases e
theorem zb {t:TypeId}{x y:Operand}(ho:o.op = .index t x y)(e:xZ P t h (ax ts x) (ax ts y)=some r)(hc:eq r.c):ae P o ts h r.v r.h:=by
  unfold xZ at e
  split at e
  · rename_i s k i hx hy
    obtain ⟨h0,e2⟩:=aG e
    clear e
    cases e2
    exact ae.indexS ho hx hy (mZ h0) hc.two.1 hc.two.2
  · cases e
theorem wT {t:TypeId}{x y:Operand}(ho:o.op = .store t x y)(e:tC P t h (ax ts x) (ax ts y)=some r):ae P o ts h r.v r.h:=by
  unfold tC at e
  split at e
  · cases e
  · rename_i g n ht
    split at e
    · rename_i id off hx
      split at e
      · rename_i cs hh
        obtain ⟨h0,e2⟩:=aG e
        clear e
        rw [jH] at h0
        simp only [Bool.and_eq_true] at h0
        rw [dY] at hh
        cases e2
        exact ae.store ho hx rfl ht hh h0.1.1.1 h0.1.1.2 (Nat.eq_of_beq_eq_true h0.1.2) h0.2
      · cases e
    · cases e
theorem p9 {p:Nat}(e:nD P p o.op ts h=some r)(hc:eq r.c):ae P o ts h r.v r.h:=by
  cases ho:o.op with
  | move x=>rw [ho] at e; cases e; exact ae.move ho rfl
  | assign x=>rw [ho] at e; cases e; exact ae.assign ho rfl
  | pick c x y=>
    rw [ho] at e
    simp only [nD] at e
    split at e
    · split at e
      · split at e
        · cases e; exact ae.pickT ho (by assumption) rfl rfl
        · cases e; exact ae.pickF ho (by assumption) rfl rfl
      · cases e; exact ae.pickT ho (by assumption) hc.one rfl
      · cases e; exact ae.pickF ho (by assumption) hc.one rfl
      · cases e
    · cases e
  | alloc t=>
    rw [ho] at e
    simp only [nD] at e
    split at e <;> cases e
    exact ae.alloc ho (by assumption)
  | box t x=>
    rw [ho] at e
    obtain ⟨h0,e2⟩:=aG e
    cases e2
    exact ae.box ho rfl h0
  | build t ps=>rw [ho] at e; exact iq (fun v hv=>ry ho hv) e
  | load t x=>rw [ho] at e; exact iq (fun v hv=>tt ho hv) e
  | store t x y=>rw [ho] at e; exact wT ho e
  | nilCheck x=>rw [ho] at e; exact iq (fun v hv=>uF ho hv) e
  | binOp b t x y t'=>rw [ho] at e; exact iq (fun v hv=>uD ho hv) e
  | unOp u t x=>rw [ho] at e; exact iq (fun v hv=>wM ho hv) e
  | convert s t x=>rw [ho] at e; exact iq (fun v hv=>tn ho hv) e
  | makeFunc f fs cs=>
    rw [ho] at e
    cases f with
    | func f=>
      simp only [nD] at e
      split at e
      · rename_i h1 h2
        cases e
        refine ae.makeFunc0 (f:=f) ?_
        rw [ho]
        cases fs; cases cs; simp_all
      · cases e
        exact ae.makeFunc ho
    | _=>cases e
  | fieldAddr t x i=>rw [ho] at e; exact iq (fun v hv=>rz ho hv) e
  | indexAddr t x y=>rw [ho] at e; exact wR ho e hc
  | index t x y=>rw [ho] at e; exact zb ho e hc
  | extract x i=>rw [ho] at e; exact iq (fun v hv=>ou ho hv) e
  | call c=>
    rw [ho] at e
    obtain ⟨cal,args,tys⟩:=c
    cases cal with
    | builtin b=>
      cases b with
      | len=>
        simp only [nD] at e
        split at e
        · rename_i x t h1 h2
          obtain rfl:=sB h1
          obtain rfl:=sB h2
          exact iq (fun v hv=>uE ho hv) e
        · cases e
      | _=>cases e
    | _=>cases e
  | _=>rw [ho] at e; cases e
end
structure pi where
  ts:List (Nat×AV)
  h:List ak
  c:List Prop
noncomputable def qa (P:Program)(N:Nat)(ops:Array Oper)(d:Nat)(o:Oper)(ts:List (Nat×AV))(h:List ak):Option pi:=bif eg N o.dst then (match o.guard with
  | none=>(match nD P (d / 10) o.op ts h with
    | some r=>some ⟨bT o.dst r.v ts,r.h,r.c⟩
    | none=>none)
  | some (j,want)=>(match (ops[j]?).bind (·.dst) with
    | none=>none
    | some dj=>(match look ts dj with
      | some (.d (.bool b))=>(match d % 10 with
        | 0=>(match b,want with
          | true,true | false,false=>(match o.dst,nD P (d / 10) o.op ts h with
            | some i,some r=>some ⟨(i,r.v)::ts,r.h,r.c⟩
            | _,_=>none)
          | true,false | false,true=>some ⟨bT o.dst (.tup []) ts,h,[]⟩)
        | 1=>(match o.dst,nD P (d / 10) o.op ((dj,.d (.bool want))::ts) h with
          | some i,some r=>some ⟨(i,r.v)::(dj,.d (.bool want))::ts,r.h,(b=want)::r.c⟩
          | _,_=>none)
        | 2=>some ⟨bT o.dst (.tup []) ((dj,.d (.bool !want))::ts),h,[b = !want]⟩
        | 3=>(match o.dst,nD P (d / 10) o.op ts h with
          | some i,some r=>some ⟨(i,r.v)::ts,r.h,(b=want)::r.c⟩
          | _,_=>none)
        | 4=>some ⟨bT o.dst (.tup []) ts,h,[b = !want]⟩
        | _=>none)
      | some (.tup [])=>some ⟨bT o.dst (.tup []) ts,h,[]⟩
      | _=>none))) else none
noncomputable def qL (P:Program)(N:Nat)(ops:Array Oper):List Nat→List Oper→List (Nat×AV)→List ak→Option pi
  | [],l,ts,h=>some ⟨ts,h,[]⟩
  | d::ds,[],ts,h=>none
  | d::ds,o::l,ts,h=>match qa P N ops d o ts h with
    | none=>none
    | some r=>(match qL P N ops ds l r.ts r.h with
      | none=>none
      | some r2=>some ⟨r2.ts,r2.h,r.c++r2.c⟩)
noncomputable def vo (l:List (Nat×AV))(i:Nat):Bool:=List.rec (motive:=fun _=>Bool) false (fun x _ ih=>Bool.rec (motive:=fun _=>Bool) ih true (Nat.beq x.1 i)) l
noncomputable def sM (ts:List (Nat×AV))(ks:List Nat)(n:Nat)(l:List (Nat×AV)):Bool:=d6 (fun x=>cD ks x.1 || !vo ts x.1) (l.take n)
structure SE where
  nw:List (Nat×AV)
  h:List ak
  c:List Prop
noncomputable def wQ (P:Program)(N:Nat)(ops:Array Oper)(ds:List Nat)(ks:List Nat)(l:List Oper)(ts:List (Nat×AV))(h:List ak):Option SE:=match qL P N ops ds l ts h with
  | none=>none
  | some r=>bif sM ts ks (r.ts.length - ts.length) r.ts&&Nat.ble ts.length r.ts.length then some ⟨nV r.ts ks,r.h,r.c⟩ else none
section
variable {P:Program}{N m:Nat}{ops:Array Oper}{Q:St→Prop}
theorem eq.left {a b:List Prop}(h:eq (a++b)):eq a:=fun p hp=>h p (by simp [hp])
theorem eq.right {a b:List Prop}(h:eq (a++b)):eq b:=fun p hp=>h p (by simp [hp])
theorem eq.tail {a:Prop}{b:List Prop}(h:eq (a::b)):eq b:=fun p hp=>h p (by simp [hp])
theorem eq.head {a:Prop}{b:List Prop}(h:eq (a::b)):a:=h a (by simp)
theorem q7 (ts:List (Nat×AV))(i:Nat)(v:AV):look ((i,v)::ts) i=some v:=by simp [look]
theorem GStep.dec {ts:List (Nat×AV)}{h:List ak}{dj:Nat}{b c:Bool}(hl:look ts dj=some (.d (.bool b)))(hb:b=c):GStep m ⟨ts,h⟩ ⟨(dj,.d (.bool c))::ts,h⟩:=by
  intro G a w hi hr
  refine ⟨G,hi,fun i v hk=>?_,.refl _ _ _ _⟩
  simp only [look] at hk
  cases he:dj.beq i with
  | true=>
    rw [he] at hk
    simp only [cond_true,Option.some.injEq] at hk
    subst hk
    obtain rfl:=Nat.eq_of_beq_eq_true he
    subst hb
    exact hr dj _ hl
  | false=>
    rw [he] at hk
    exact hr i v hk
theorem xY {d:Nat}{o:Oper}{l:List Oper}{ts:List (Nat×AV)}{h:List ak}{r:pi}(e:qa P N ops d o ts h=some r)(hc:eq r.c)(next:ab P N m ops l ⟨r.ts,r.h⟩ Q):ab P N m ops (o::l) ⟨ts,h⟩ Q:=by
  unfold qa at e
  obtain ⟨hd,e1⟩:=aG e
  clear e
  have hN:∀ i,o.dst=some i→Nat.blt i N=true:=fun i hi=>by rw [hi] at hd; simpa [eg] using hd
  split at e1
  · rename_i hg
    split at e1
    · rename_i r1 h1
      cases e1
      have hop:=p9 h1 hc
      cases hdst:o.dst with
      | none=>rw [hdst] at next; exact ab.step0 hop hg hdst next
      | some i=>rw [hdst] at next; exact ab.step hop hg hdst (hN i hdst) next
    · cases e1
  · rename_i j want hg
    split at e1
    · cases e1
    · rename_i dj hj
      split at e1
      · rename_i b hl
        split at e1
        · have run:b=want→∀ {x:Option pi},(match o.dst,nD P (d / 10) o.op ts h with
            | some i,some r=>some ⟨(i,r.v)::ts,r.h,r.c⟩
            | _,_=>none)=some r→ab P N m ops (o::l) ⟨ts,h⟩ Q:=fun hb x e1=>by
            split at e1
            · rename_i i r1 hdst h1
              cases e1
              exact ab.gstep (p9 h1 hc) hg hj hl hb hdst (hN i hdst) next
            · cases e1
          have pas:b = !want→some ⟨bT o.dst (.tup []) ts,h,[]⟩=some r→ab P N m ops (o::l) ⟨ts,h⟩ Q:=fun hb e1=>by
            cases e1
            refine ab.pass hg hj hl hb ?_
            cases hdst:o.dst with
            | none=>rw [hdst] at next; exact next
            | some i=>rw [hdst] at next; exact next
          cases b <;> cases want
          · exact run rfl (x:=none) e1
          · exact pas rfl e1
          · exact pas rfl e1
          · exact run rfl (x:=none) e1
        · split at e1
          · rename_i i r1 hdst h1
            cases e1
            have hb:=hc.head
            refine ab.ghost (GStep.dec hl hb) ?_
            refine ab.gstep (p9 h1 hc.tail) hg hj (q7 _ _ _) rfl hdst (hN i hdst) next
          · cases e1
        · cases e1
          have hb:=hc.one
          refine ab.ghost (GStep.dec hl hb) ?_
          refine ab.pass hg hj (q7 _ _ _) rfl ?_
          cases hdst:o.dst with
          | none=>rw [hdst] at next; exact next
          | some i=>rw [hdst] at next; exact next
        · split at e1
          · rename_i i r1 hdst h1
            cases e1
            exact ab.gstep (p9 h1 hc.tail) hg hj hl hc.head hdst (hN i hdst) next
          · cases e1
        · cases e1
          refine ab.pass hg hj hl hc.one ?_
          cases hdst:o.dst with
          | none=>rw [hdst] at next; exact next
          | some i=>rw [hdst] at next; exact next
        · cases e1
      · rename_i hl
        cases e1
        refine ab.pass2 hg hj hl ?_
        cases hdst:o.dst with
        | none=>rw [hdst] at next; exact next
        | some i=>rw [hdst] at next; exact next
      · cases e1
theorem uK:∀ {ds:List Nat} {l:List Oper} {ts:List (Nat×AV)} {h:List ak} {r:pi},qL P N ops ds l ts h=some r→eq r.c→ab P N m ops (l.drop ds.length) ⟨r.ts,r.h⟩ Q→ab P N m ops l ⟨ts,h⟩ Q
  | [],l,ts,h,r,e,hc,next=>by cases e; exact next
  | d::ds,[],ts,h,r,e,hc,next=>by cases e
  | d::ds,o::l,ts,h,r,e,hc,next=>by
    simp only [qL] at e
    split at e
    · cases e
    · rename_i r1 h1
      split at e
      · cases e
      · rename_i r2 h2
        cases e
        exact xY h1 hc.left (uK h2 hc.right next)
theorem kQ:∀ (a b:List (Nat×AV)) (i:Nat),look (a++b) i=match look a i with | some v=>some v | none=>look b i
  | [],b,i=>rfl
  | (k,v)::a,b,i=>by
    simp only [List.cons_append,look]
    cases k.beq i with
    | true=>rfl
    | false=>exact kQ a b i
theorem wS {d:Nat}{o:Oper}{ts:List (Nat×AV)}{h:List ak}{r:pi}(e:qa P N ops d o ts h=some r):∃ l,r.ts=l++ts:=by
  have hp:∀ (x:Option Nat) (v:AV) (ts1:List (Nat×AV)),(∃ l,ts1=l++ts)→∃ l,bT x v ts1=l++ts:=fun x v ts1 ⟨l,hl⟩=>by
    cases x with
    | none=>exact ⟨l,hl⟩
    | some i=>exact ⟨(i,v)::l,by rw [hl]; rfl⟩
  have h0:∃ l,ts=l++ts:=⟨[],rfl⟩
  unfold qa at e
  obtain ⟨hd,e1⟩:=aG e
  clear e
  split at e1
  · split at e1
    · cases e1; exact hp _ _ _ h0
    · cases e1
  · split at e1
    · cases e1
    · split at e1
      · split at e1
        · rename_i b _ _
          have run:(match o.dst,nD P (d / 10) o.op ts h with
            | some i,some r=>some (⟨(i,r.v)::ts,r.h,r.c⟩:pi)
            | _,_=>none)=some r→∃ l,r.ts=l++ts:=fun e1=>by
            split at e1
            · cases e1; exact ⟨[_],rfl⟩
            · cases e1
          have pas:some (⟨bT o.dst (.tup []) ts,h,[]⟩:pi)=some r→∃ l,r.ts=l++ts:=fun e1=>by cases e1; exact hp _ _ _ h0
          split at e1
          · exact run e1
          · exact run e1
          · exact pas e1
          · exact pas e1
        · split at e1
          · cases e1; exact ⟨[_,_],rfl⟩
          · cases e1
        · cases e1; exact hp _ _ _ ⟨[_],rfl⟩
        · split at e1
          · cases e1; exact ⟨[_],rfl⟩
          · cases e1
        · cases e1; exact hp _ _ _ h0
        · cases e1
      · cases e1; exact hp _ _ _ h0
      · cases e1
theorem tB:∀ {ds:List Nat} {l:List Oper} {ts:List (Nat×AV)} {h:List ak} {r:pi},qL P N ops ds l ts h=some r→∃ l,r.ts=l++ts
  | [],l,ts,h,r,e=>by cases e; exact ⟨[],rfl⟩
  | d::ds,[],ts,h,r,e=>by cases e
  | d::ds,o::l,ts,h,r,e=>by
    simp only [qL] at e
    split at e
    · cases e
    · rename_i r1 h1
      split at e
      · cases e
      · rename_i r2 h2
        cases e
        obtain ⟨a,ha⟩:=wS h1
        obtain ⟨b,hb⟩:=tB h2
        exact ⟨b++a,by simp only; rw [hb,ha,List.append_assoc]⟩
theorem q8:∀ (a:List (Nat×AV)) (i:Nat),(∀ x∈a,x.1≠i)→look a i=none
  | [],i,h=>rfl
  | (k,v)::a,i,h=>by
    have h1:k.beq i=false:=by
      cases hb:k.beq i with
      | false=>rfl
      | true=>exact absurd (Nat.eq_of_beq_eq_true hb) (h (k,v) (by simp))
    simp only [look,h1,cond_false]
    exact q8 a i fun x hx=>h x (by simp [hx])
theorem rf:∀ (a:List (Nat×AV)) (i:Nat),vo a i=false→look a i=none
  | [],i,h=>rfl
  | (k,v)::a,i,h=>by
    have e:vo ((k,v)::a) i=Bool.rec (motive:=fun _=>Bool) (vo a i) true (Nat.beq k i):=rfl
    rw [e] at h
    cases hb:Nat.beq k i with
    | true=>rw [hb] at h; cases h
    | false=>
      rw [hb] at h
      simp only [look,hb,cond_false]
      exact rf a i h
theorem kt {ts:List (Nat×AV)}:∀ {ks:List Nat} {i:Nat},i∈ks→look (bR ts ks) i≠none
  | [],i,h=>by simp at h
  | k::ks,i,h=>by
    simp only [bR,look]
    cases hb:k.beq i with
    | true=>simp
    | false=>
      simp only [cond_false]
      refine kt ?_
      rcases List.mem_cons.1 h with e | e
      · subst e; simp at hb
      · exact e
theorem GStep.ev {ts ts':List (Nat×AV)}{h:List ak}{ks:List Nat}{l:List (Nat×AV)}(hs:ts'=l++ts)(hf:sM ts ks l.length ts'=true):GStep m ⟨ts',h⟩ ⟨bR ts' ks++ts,h⟩:=by
  intro G a w hi hr
  refine ⟨G,hi,fun i v hl=>?_,.refl _ _ _ _⟩
  simp only at hl hi hr
  rw [kQ] at hl
  cases hk:look (bR ts' ks) i with
  | some u=>
    rw [hk] at hl
    cases hl
    rw [kr _ _ _ _ hk]
    exact hr.lookup i
  | none=>
    rw [hk] at hl
    simp only at hl
    refine hr i v ?_
    rw [hs,kQ,q8 l i ?_]
    · exact hl
    · intro x hx e
      unfold sM at hf
      rw [hs,List.take_left' rfl,jH,List.all_eq_true] at hf
      have h1:=hf x hx
      rw [e,Bool.or_eq_true] at h1
      rcases h1 with h1 | h1
      · rw [eQ] at h1
        exact absurd hk (kt (fg h1))
      · rw [rf ts i (by simpa using h1)] at hl
        cases hl
theorem ab.ev {l:List Oper}{ts:List (Nat×AV)}{h h':List ak}(ds:List Nat)(nw:List (Nat×AV))(fs:List sm)(next:ab P N m ops (l.drop ds.length) ⟨nw++ts,h'⟩ Q)(e:wQ P N ops ds (nw.map (·.1)) l ts h=some ⟨nw,h',fs.map (·.1)⟩:=by kernel_rfl):ab P N m ops l ⟨ts,h⟩ Q:=by
  unfold wQ at e
  split at e
  · cases e
  · rename_i r hr
    obtain ⟨h0,e1⟩:=aG e
    clear e
    simp only [Bool.and_eq_true] at h0
    rw [jR] at e1
    injection e1 with e1
    injection e1 with e2 e3 e4
    obtain ⟨a,ha⟩:=tB hr
    have hn:r.ts.length - ts.length=a.length:=by rw [ha,List.length_append]; omega
    rw [hn] at h0
    refine uK hr (by rw [e4]; exact eq.facts fs) (ab.ghost (GStep.ev ha h0.1) ?_)
    rw [e2,e3]
    exact next
theorem ab.ev0 {l:List Oper}{ts:List (Nat×AV)}{h:List ak}(ds:List Nat)(nw:List (Nat×AV))(fs:List sm)(next:ab P N m ops (l.drop ds.length) ⟨nw++ts,h⟩ Q)(e:wQ P N ops ds (nw.map (·.1)) l ts h=some ⟨nw,h,fs.map (·.1)⟩:=by kernel_rfl):ab P N m ops l ⟨ts,h⟩ Q:=ab.ev ds nw fs (e:=e) (next:=next)
theorem ab.evn {l:List Oper}{ts:List (Nat×AV)}{h h':List ak}(ds:List Nat)(nw:List (Nat×AV))(fs:List sm)(next:Q ⟨nw++ts,h'⟩)(e:wQ P N ops ds (nw.map (·.1)) l ts h=some ⟨nw,h',fs.map (·.1)⟩:=by kernel_rfl)(hl:l.drop ds.length=[]:=by kernel_rfl):ab P N m ops l ⟨ts,h⟩ Q:=ab.ev ds nw fs (hl▸ab.nil next) e
theorem ab.ev0n {l:List Oper}{ts:List (Nat×AV)}{h:List ak}(ds:List Nat)(nw:List (Nat×AV))(fs:List sm)(next:Q ⟨nw++ts,h⟩)(e:wQ P N ops ds (nw.map (·.1)) l ts h=some ⟨nw,h,fs.map (·.1)⟩:=by kernel_rfl)(hl:l.drop ds.length=[]:=by kernel_rfl):ab P N m ops l ⟨ts,h⟩ Q:=ab.ev ds nw fs (hl▸ab.nil next) e
abbrev nth {α:Type}[Inhabited α](xs:List α)(i:Int):α:=xs.getD (Int.toNat i) default
abbrev di (x:Int):AV:=.d (.int .i64 x)
abbrev db (x:Bool):AV:=.d (.bool x)
theorem ao {α β:Type}{G:Prop}{x:Option α}{f:α→Option β}{r:β}(h:x.bind f=some r)(k:∀ y,x=some y→f y=some r→G):G:=let ⟨y,h1,h2⟩:=Option.bind_eq_some_iff.1 h; k y h1 h2
theorem aD {α:Type}{G:Prop}{c:Prop}[Decidable c]{x:Option α}{r:α}(h:(if c then x else none)=some r)(k:c→x=some r→G):G:=let y:=dt h; k y.1 y.2
theorem au {α:Type}{G:Prop}{b:Bool}{x y:Option α}{r:α}(h:(if b=true then x else y)=some r)(ht:b=true→x=some r→G)(hf:b=false→y=some r→G):G:=by
  cases b with
  | true=>exact ht rfl h
  | false=>exact hf rfl h
theorem aa.condI {P:Program}{N m:Nat}{s:St}{Q:Exit→St→Prop}{x y:Code}{cnd:Operand}{α:Type}{b:Bool}{X Y:Option α}{r:α}(h:(if b=true then X else Y)=some r)(hc:ax s.ts cnd = .d (.bool b))
    (ht:b=true→X=some r→aa P N m x s Q) (hf:b=false→Y=some r→aa P N m y s Q):aa P N m (.cond cnd x y) s Q:=
  au h (fun e k=>aa.cond hc (fun _=>ht e k) (fun e'=>by rw [e] at e'; cases e')) (fun e k=>aa.cond hc (fun e'=>by rw [e] at e'; cases e') (fun _=>hf e k))
theorem aa.sr {P:Program}{N m:Nat}{id:Nat}{ops:Array Oper}{c:Code}{s:St}{Q:Exit→St→Prop}(h:ab P N m ops ops.toList s (n7 (fun s'=>aa P N m c s' Q) Q .normal)):aa P N m (.seq (.region id ops false) c) s Q:=aa.seq (aa.region h)
end
end
end Go.Abs
namespace Go.Abs
noncomputable section
noncomputable def sy (f:Nat→Bool)(n:Nat):Bool:=Nat.rec (motive:=fun _=>Bool) true (fun i ih=>Bool.rec (motive:=fun _=>Bool) false ih (f i)) n
theorem oH {f:Nat→Bool}:∀ {n:Nat},sy f n=true→∀ i,i < n→f i=true
  | 0,h,i,hi=>absurd hi (Nat.not_lt_zero i)
  | n+1,h,i,hi=>by
    have e:sy f (n+1)=Bool.rec (motive:=fun _=>Bool) false (sy f n) (f n):=rfl
    rw [e] at h
    cases hf:f n with
    | false=>rw [hf] at h; cases h
    | true=>
      rw [hf] at h
      rcases Nat.lt_or_ge i n with c | c
      · exact oH h i c
      · obtain rfl:i=n:=by omega
        exact hf
noncomputable def sf (f:D→D→Bool):List D→List D→Bool
  | [],[]=>true
  | x::xs,y::ys=>f x y&&sf f xs ys
  | _,_=>false
noncomputable def eH:Nat→D→D→Bool
  | 0,_,_=>false
  | k+1,x,y=>match x,y with
    | .int a m,.int b n=>decide (a=b)&&decide (m=n)
    | .bool a,.bool b=>a == b
    | .str a,.str b=>decide (a=b)
    | .nilp,.nilp=>true
    | .nilf,.nilf=>true
    | .nilm,.nilm=>true
    | .nili,.nili=>true
    | .sl n sz g,.sl n' sz' g'=>Nat.beq n n'&&(Nat.beq n 0||(Nat.beq sz sz'&&sy (fun i=>sy (fun j=>eH k (g i j) (g' i j)) sz) n))
    | .agg xs,.agg ys=>sf (eH k) xs ys
    | _,_=>false
theorem rG {f:D→D→Bool}:∀ {xs ys:List D},sf f xs ys=true→xs.length=ys.length∧∀ i,i < xs.length→f (xs.getD i default) (ys.getD i default)=true
  | [],[],_=>⟨rfl,fun i hi=>absurd hi (Nat.not_lt_zero i)⟩
  | x::xs,y::ys,h=>by
    simp only [sf,Bool.and_eq_true] at h
    obtain ⟨h1,h2⟩:=rG h.2
    refine ⟨by simp [h1],fun i hi=>?_⟩
    cases i with
    | zero=>simpa using h.1
    | succ i=>simpa using h2 i (by simpa using hi)
  | [],_::_,h=>by cases h
  | _::_,[],h=>by cases h
theorem md {I:Nat→Nat→Option Value}:∀ {k:Nat} {x y:D} {v:Value},eH k x y=true→RD I v x→RD I v y
  | 0,x,y,v,h,_=>by cases h
  | k+1,x,y,v,h,hr=>by
    cases hr with
    | int a m=>
      cases y <;> simp [eH] at h
      obtain ⟨rfl,rfl⟩:=h
      exact .int _ _
    | bool b=>cases y <;> simp [eH] at h; subst h; exact .bool _
    | str s=>cases y <;> simp [eH] at h; subst h; exact .str _
    | nilp=>cases y <;> simp [eH] at h; exact .nilp
    | nilf=>cases y <;> simp [eH] at h; exact .nilf
    | nilm=>cases y <;> simp [eH] at h; exact .nilm
    | nili=>cases y <;> simp [eH] at h; exact .nili
    | fn f=>cases y <;> simp [eH] at h
    | sl0 a c sz get=>
      cases y <;> simp [eH] at h
      obtain ⟨rfl,h⟩:=h
      exact .sl0 _ _ _ _
    | sl b o n c sz get u hc hI ho hr=>
      cases y with
      | sl n' sz' g'=>
        simp only [eH,Bool.and_eq_true,Bool.or_eq_true] at h
        obtain ⟨h1,h2⟩:=h
        obtain rfl:=Nat.eq_of_beq_eq_true h1
        rcases h2 with h2 | ⟨h2,h3⟩
        · obtain rfl:=Nat.eq_of_beq_eq_true h2
          exact .sl0 _ _ _ _
        · obtain rfl:=Nat.eq_of_beq_eq_true h2
          exact .sl b o n c sz g' u hc hI ho fun i hi j hj=>md (oH (oH h3 i hi) j hj) (hr i hi j hj)
      | _=>simp [eH] at h
    | agg vs cs hl hh=>
      cases y with
      | agg ys=>
        simp only [eH] at h
        obtain ⟨h1,h2⟩:=rG h
        exact .agg vs ys (by rw [hl,h1]) fun i hi=>md (h2 i (by omega)) (hh i (by omega))
      | _=>simp [eH] at h
noncomputable def nE (f:AV→AV→Bool):List AV→List AV→Bool
  | [],[]=>true
  | x::xs,y::ys=>f x y&&nE f xs ys
  | _,_=>false
theorem mc {f:AV→AV→Bool}:∀ {xs ys:List AV},nE f xs ys=true→xs.length=ys.length∧∀ i,i < xs.length→f (xs.getD i default) (ys.getD i default)=true
  | [],[],_=>⟨rfl,fun i hi=>absurd hi (Nat.not_lt_zero i)⟩
  | x::xs,y::ys,h=>by
    simp only [nE,Bool.and_eq_true] at h
    obtain ⟨h1,h2⟩:=mc h.2
    refine ⟨by simp [h1],fun i hi=>?_⟩
    cases i with
    | zero=>simpa using h.1
    | succ i=>simpa using h2 i (by simpa using hi)
  | [],_::_,h=>by cases h
  | _::_,[],h=>by cases h
noncomputable def qb (k:Nat)(x y:AV):Bool:=match x,y with
  | .d x,.d y=>eH k x y
  | .nsl,.d (.sl n _ _)=>Nat.beq n 0
  | _,_=>false
noncomputable def vC (k:Nat)(x y:AV):Bool:=match x,y with
  | .d x,.d y=>eH k x y
  | .agg xs,.agg ys=>nE (qb k) xs ys
  | .tup xs,.tup ys=>nE (qb k) xs ys
  | _,_=>false
theorem rF {G:Gh}{k:Nat}{x y:AV}{v:Value}(h:qb k x y=true)(hr:RV G v x):RV G v y:=by
  unfold qb at h
  split at h
  · cases hr with
    | d hr=>exact .d (md h hr)
  · obtain rfl:=Nat.eq_of_beq_eq_true h
    rw [jB hr]
    exact .d (.sl0 _ _ _ _)
  · cases h
theorem yb {G:Gh}{k:Nat}{x y:AV}{v:Value}(h:vC k x y=true)(hr:RV G v x):RV G v y:=by
  unfold vC at h
  split at h
  · cases hr with
    | d hr=>exact .d (md h hr)
  · cases hr with
    | agg vs cs hl hh=>
      obtain ⟨h1,h2⟩:=mc h
      exact .agg vs _ (by rw [hl,h1]) fun i hi=>rF (h2 i (by omega)) (hh i (by omega))
  · cases hr with
    | tup vs cs hl hh=>
      obtain ⟨h1,h2⟩:=mc h
      exact .tup vs _ (by rw [hl,h1]) fun i hi=>rF (h2 i (by omega)) (hh i (by omega))
  · cases h
theorem SC.mono {P:Program}{f:FuncId}{args:List AV}{h:List aQ}{r r':AV}{h':List ak}(sc:SC P f args h r h')(hm:∀ G v,RV G v r→RV G v r'):SC P f args h r' h':=
  ⟨sc.1,fun G w vs hi hs hv R hR=>sc.2 G w vs hi hs hv R fun v w' G2 v2 i2 e2=>hR v w' G2 (hm _ _ v2) i2 e2⟩
theorem SC.gh {P:Program}{f:FuncId}{args:List AV}{h:List aQ}{r r':AV}{h1 h2:List ak}(sc:SC P f args h r h1)(hg:GStep h.length ⟨[(0,r)],h1⟩ ⟨[(0,r')],h2⟩):SC P f args h r' h2:=
  ⟨sc.1,fun G w vs hi hs hv R hR=>sc.2 G w vs hi hs hv R fun v w' G2 v2 i2 e2=>by
    have hr:RT G2 { tmps:=#[v],defers:=[] } [(0,r)]:=fun i u hl=>by
      simp only [look] at hl
      cases i with
      | zero=>simp at hl; subst hl; simpa using v2
      | succ i=>exact absurd hl (by simp [Nat.beq])
    obtain ⟨G3,i3,r3,e3⟩:=hg G2 { tmps:=#[v],defers:=[] } w' i2 hr
    have v3:=r3 0 r' (by simp [look])
    exact hR v w' G3 (by simpa using v3) i3 (e2.trans e3)⟩
noncomputable def yu (f:FuncId)(args:List AV)(lit:AV):Bool:=match lF P KT 200 60 f args [] with
  | some ⟨v,h,_⟩=>(match (me (cS h.length 0).reverse ⟨[(0,v)],h,[]⟩).ts with
    | [(0,v')]=>vC 40 (v'.tr (dl [] 0)) lit
    | _=>false)
  | _=>false
theorem gR {f:FuncId}{args:List AV}{lit:AV}(h:yu f args lit=true):SC P f args [] lit []:=by
  unfold yu at h
  split at h
  · rename_i v h0 w hc
    have sc:=(oC zx mixed 200 60 f args [] _ hc).1
    split at h
    · rename_i v' he
      have hs:=(pg (cS h0.length 0).reverse (x:=⟨[(0,v)],h0,[]⟩) ⟨fun m=>GStep.refl _ _,bD.refl _ _⟩).1 0
      rw [he] at hs
      have hr:=GStep.ren (m:=0) (s:=⟨[(0,v')],(me (cS h0.length 0).reverse ⟨[(0,v)],h0,[]⟩).h⟩) [] List.nodup_nil rfl rfl
      exact SC.mono (SC.gh (h2:=[]) sc (hs.trans hr)) fun G u hv=>yb h hv
    · cases h
  · cases h
end
end Go.Abs
