/- For every input the Go function koinelaw05.GrammarDamage returns true and leaves its arguments as they were (a grammar that is damaged by a number out of range is not valid, and has no configurations, no grammar of a configuration and no encoding), for the table math/bits.deBruijn64tab as the program lays it. -/
import Derived.Deep.Slices
import Derived.Deep.Fields
import Derived.ChangeSame
import Derived.OpenShut
import Derived.ProofKit
import Derived.LaidMore
import Derived.Below
import Derived.Carry
import Derived.Test.YtmdmpichmdfmcaaGreatDoorRows
import Derived.Test.YtmdmpichmdfmcaaGreatDoorTie
import Derived.Stop.Joined
import Derived.JoinedOf
import Derived.LaidLaws
import Derived.LaidHandle
import Derived.MakeChecks
import Derived.SevenTiedAt
import Derived.Test.YtmdmpichmdfmcaaGreatDoorCards
import Derived.Test.YtmdmpichmdfmcaaGreatDoorA5
set_option linter.all false
namespace Go.Abs
noncomputable section
noncomputable def jV (p:List Int)(x:Int):Bool:=match p.getLast? with | none=>true | some y=>decide (y < x)
theorem pS {l p s:List Int}{x:Int}(hx:l=p++x::s)(hl:l.length≤1000000):(p=[]∧jV p x=true)∨∃ y,jV p x=decide (y < x)∧(p.length:Int) > 0∧(0≤IntKind.wrap .i64 ((p.length:Int) - 1)∧IntKind.wrap .i64 ((p.length:Int) - 1) < (l.length:Int))∧nth l (IntKind.wrap .i64 ((p.length:Int) - 1))=y:=by
  rcases List.eq_nil_or_concat p with h | ⟨q,y,h⟩
  · subst h; exact .inl ⟨rfl,rfl⟩
  · rw [List.concat_eq_append] at h
    subst h
    have h9:=cM hx
    have e3:nth l (q.length:Int)=y:=bS (suf:=x::s) (by rw [hx]; simp)
    rw [List.length_append,List.length_singleton] at h9
    have w2:IntKind.wrap .i64 (((q++[y]).length:Int) - 1)=(q.length:Int):=by
      rw [List.length_append,List.length_singleton,cn (by omega) (by omega)]; simp
    refine .inr ⟨y,by simp [jV],by rw [List.length_append,List.length_singleton]; omega,by rw [w2]; omega,by rw [w2]; exact e3⟩
theorem t7 {toks:List aL}{lit:Bool}{l:List Int}{L:Nat→Int→Option (Bool⊕Unit)}(hnil:∀ k,L (k+1) l.length=some (.inr ()))
    (hstep:∀ p x s,l=p++x::s→∀ k,L (k+1) p.length=if (fj toks lit x&&jV p x)=true then L k ((p.length:Int)+1) else some (.inl false)):Ev (fun k=>L k 0) (if fp toks lit none l=true then .inr () else .inl false):=by
  have key:=gJ l (fun i (_:Unit)=>i) L (fun p s _ w=>w=if fp toks lit p.getLast? s=true then .inr () else .inl false) ?_ ?_ l [] () (if fp toks lit none l=true then .inr () else .inl false) rfl rfl
  · simpa using key
  · intro _ w hw
    subst hw
    exact Ev.step (hnil ·) (by simpa [fp] using Ev.const _)
  · intro p x s _ w hx hw
    subst hw
    have hR:fp toks lit p.getLast? (x::s)=(fj toks lit x&&jV p x&&fp toks lit (some x) s):=by
      unfold jV; cases p.getLast? <;> rfl
    rw [hR]
    cases ht:(fj toks lit x&&jV p x) with
    | false=>exact .inr (Ev.step (hstep p x s hx) (by rw [ht]; simpa using Ev.const _))
    | true=>exact .inl ⟨(),by simp,fun hw=>Ev.step (hstep p x s hx) (by rw [ht]; simpa using hw)⟩
theorem zp {g:am}{l:List Int}(hl:l.length≤1000000):Ev (fun k=>d9 k g l) (cp g.tokens false l):=by
  have key:=t7 (toks:=g.tokens) (lit:=false) (l:=l) (L:=fun k v=>bV k g l v) (fun k=>by simp only [dJ,Int.lt_irrefl,decide_false,Bool.false_eq_true,if_false]) fun p x s hx k=>by
    have f1:=bS hx
    have f2:=cM hx
    have w1:IntKind.wrap .i64 ((p.length:Int)+1)=(p.length:Int)+1:=cn (by omega) (by omega)
    rw [dJ,if_pos (by simpa using f2),if_pos ⟨by omega,f2⟩,f1,w1]
    by_cases h1:x < 0
    · simp only [h1,fj,show ¬ 0≤x by omega,decide_true,decide_false,Bool.false_and,Bool.false_eq_true,if_true,if_false,Option.bind_some]
    by_cases h2:x≥(g.tokens.length:Int)
    · simp only [h1,h2,fj,show ¬ x < (g.tokens.length:Int) by omega,decide_true,decide_false,Bool.and_false,Bool.false_and,Bool.false_eq_true,if_true,if_false,Option.bind_some]
    have c2:0≤x∧x < (g.tokens.length:Int):=⟨by omega,by omega⟩
    rcases pS hx hl with ⟨hp,hb⟩ | ⟨y,hb,hpos,hc,hy⟩
    · subst hp
      simp only [h1,h2,hb,fj,bv,c2,List.length_nil,Int.lt_irrefl,gt_iff_lt,Int.natCast_zero,decide_true,decide_false,Bool.and_true,Bool.true_and,Bool.false_eq_true,if_true,if_false,Option.bind_some,and_self]
      by_cases h3:(nth g.tokens x).classF=0 <;> simp [h3]
    · simp only [h1,h2,hb,hc,hy,hpos,fj,bv,c2,decide_true,decide_false,Bool.and_true,Bool.true_and,Bool.false_eq_true,if_true,if_false,Option.bind_some,and_self]
      by_cases h4:x≤y
      · simp [h4,show ¬ y < x by omega]
      · by_cases h3:(nth g.tokens x).classF=0 <;> simp [h3,h4,show y < x by omega]
  unfold d9 cp
  refine Ev.bind key ?_
  cases fp g.tokens false none l with
  | true=>simpa using Ev.const _
  | false=>exact Ev.const _
theorem yO {g:am}{l:List Int}(hl:l.length≤1000000):Ev (fun k=>da k g l) (cp g.tokens true l):=by
  have key:=t7 (toks:=g.tokens) (lit:=true) (l:=l) (L:=fun k v=>bE k g l v) (fun k=>by simp only [cW,Int.lt_irrefl,decide_false,Bool.false_eq_true,if_false]) fun p x s hx k=>by
    have f1:=bS hx
    have f2:=cM hx
    have w1:IntKind.wrap .i64 ((p.length:Int)+1)=(p.length:Int)+1:=cn (by omega) (by omega)
    rw [cW,if_pos (by simpa using f2),if_pos ⟨by omega,f2⟩,f1,w1]
    by_cases h1:x < 0
    · simp only [h1,fj,show ¬ 0≤x by omega,decide_true,decide_false,Bool.false_and,Bool.false_eq_true,if_true,if_false,Option.bind_some]
    by_cases h2:x≥(g.tokens.length:Int)
    · simp only [h1,h2,fj,show ¬ x < (g.tokens.length:Int) by omega,decide_true,decide_false,Bool.and_false,Bool.false_and,Bool.false_eq_true,if_true,if_false,Option.bind_some]
    have c2:0≤x∧x < (g.tokens.length:Int):=⟨by omega,by omega⟩
    rcases pS hx hl with ⟨hp,hb⟩ | ⟨y,hb,hpos,hc,hy⟩
    · subst hp
      simp only [h1,h2,hb,fj,bw,c2,List.length_nil,Int.lt_irrefl,gt_iff_lt,Int.natCast_zero,decide_true,decide_false,Bool.and_true,Bool.true_and,Bool.false_eq_true,if_true,if_false,Option.bind_some,and_self]
      by_cases h3:(nth g.tokens x).literal=(⟨#[]⟩:ByteArray) <;> simp [h3]
    · simp only [h1,h2,hb,hc,hy,hpos,fj,bw,c2,decide_true,decide_false,Bool.and_true,Bool.true_and,Bool.false_eq_true,if_true,if_false,Option.bind_some,and_self]
      by_cases h4:x≤y
      · simp [h4,show ¬ y < x by omega]
      · by_cases h3:(nth g.tokens x).literal=(⟨#[]⟩:ByteArray) <;> simp [h3,h4,show y < x by omega]
  unfold da cp
  refine Ev.bind key ?_
  cases fp g.tokens true none l with
  | true=>simpa using Ev.const _
  | false=>exact Ev.const _
noncomputable def kv (g:am)(f:aA):Bool:=decide (0≤f.parent∧f.parent < g.productions.length∧0≤f.child∧f.child < g.productions.length∧0≤f.atF∧f.atF < (nth g.productions f.parent).right.length∧
    (nth (nth g.productions f.parent).right f.atF).token=false∧(nth (nth g.productions f.parent).right f.atF).index=(nth g.productions f.child).left)
theorem za (g:am)(f:aA):gb g f=some (kv g f):=by
  unfold gb
  by_cases b1:f.parent < 0
  · simp [b1,kv,show ¬ 0≤f.parent by omega]
  by_cases b2:f.parent≥(g.productions.length:Int)
  · simp [b1,b2,kv,show ¬ f.parent < (g.productions.length:Int) by omega]
  by_cases b3:f.child < 0
  · simp [b1,b2,b3,kv,show ¬ 0≤f.child by omega]
  by_cases b4:f.child≥(g.productions.length:Int)
  · simp [b1,b2,b3,b4,kv,show ¬ f.child < (g.productions.length:Int) by omega]
  have c1:0≤f.parent∧f.parent < (g.productions.length:Int):=by omega
  have c2:0≤f.child∧f.child < (g.productions.length:Int):=by omega
  simp only [b1,b2,b3,b4,c1,c2,kv,decide_true,decide_false,Bool.false_eq_true,if_true,if_false,Option.bind_some,and_self,true_and]
  by_cases a1:0≤f.atF
  · by_cases a2:f.atF < ((nth g.productions f.parent).right.length:Int)
    · simp only [ge_iff_le,a1,a2,decide_true,if_true,true_and,and_self,Option.bind_some,Option.some.injEq]
      cases (nth (nth g.productions f.parent).right f.atF).token <;> simp
    · simp only [ge_iff_le,a1,a2,decide_true,decide_false,Bool.false_eq_true,if_true,if_false,false_and,and_false,Option.bind_some]
  · simp only [ge_iff_le,a1,decide_false,Bool.false_eq_true,if_false,false_and,Option.bind_some]
end
end Go.Abs
namespace Go.Abs
noncomputable section
noncomputable def n4 (t:Bool×Int×Int×Int×Int×Int×List Int):Bool:=t.1&&decide (t.2.1=0∧t.2.2.1=0∧t.2.2.2.1=0∧t.2.2.2.2.1=0∧t.2.2.2.2.2.1=0∧t.2.2.2.2.2.2=[])
theorem xT (t:Bool×Int×Int×Int×Int×Int×List Int):(if (!t.1)=true then some true else (if (!decide (t.2.1=0))=true then some true else (if (!decide (t.2.2.1=0))=true then some true else (if (!decide (t.2.2.2.1=0))=true then some true else (if (!decide (t.2.2.2.2.1=0))=true then some true else (if (!decide (t.2.2.2.2.2.1=0))=true then some true else some (decide ((t.2.2.2.2.2.2.length:Int) > 0))))))))=some (!n4 t):=by
  obtain ⟨b,a1,a2,a3,a4,a5,ts⟩:=t
  have hl:decide ((ts.length:Int) > 0) = !decide (ts=[]):=by cases ts <;> simp
  simp only [n4,hl]
  cases b with
  | false=>rfl
  | true=>
    by_cases h1:a1=0
    · by_cases h2:a2=0
      · by_cases h3:a3=0
        · by_cases h4:a4=0
          · by_cases h5:a5=0 <;> simp [h1,h2,h3,h4,h5]
          · simp [h1,h2,h3,h4]
        · simp [h1,h2,h3]
      · simp [h1,h2]
    · simp [h1]
theorem mR {g:am}{p s:List aA}{f:aA}(hl:g.filters.length≤1000000)(hx:g.filters=p++f::s)(hd:okD g.conditions.length f.ifF)(ht:f.tokens.length≤1000000){w:Int⊕Unit}
    (hw:if okF g f=true then Ev (fun k=>aY k g ((p.length:Int)+1)) w else w = .inl 53):Ev (fun k=>aY k g (p.length:Int)) w:=by
  have e1:=bS hx
  have e2:=cM hx
  have w1:IntKind.wrap .i64 ((p.length:Int)+1)=(p.length:Int)+1:=cn (by omega) (by omega)
  have fin:∀ t:Bool×Int×Int×Int×Int×Int×List Int,n4 t=okF g f→Ev (fun k=>(((if (!t.1)=true then some true else (if (!decide (t.2.1=0))=true then some true else (if (!decide (t.2.2.1=0))=true then some true else (if (!decide (t.2.2.2.1=0))=true then some true else (if (!decide (t.2.2.2.2.1=0))=true then some true else (if (!decide (t.2.2.2.2.2.1=0))=true then some true else some (decide ((t.2.2.2.2.2.2.length:Int) > 0)))))))):Option Bool).bind fun x50=>(if x50=true then some (.inl 53) else (aY k g ((p.length:Int)+1))))) w:=fun t h=>by
    refine Ev.bindc (xT t) ?_
    rw [h]
    cases hb:okF g f with
    | true=>rw [hb] at hw; exact Ev.neg (by simp) (by simpa using hw)
    | false=>rw [hb] at hw; simp only [Bool.false_eq_true,if_false] at hw; subst hw; exact Ev.pos rfl (Ev.const _)
  have h1:=zp (g:=g) ht
  have h2:=yO (g:=g) ht
  refine Ev.step (fun k=>by rw [cX,if_pos (by simpa using e2),if_pos ⟨by omega,e2⟩,e1,w1]) ?_
  refine Ev.bind (Ev.of (n:=60) fun k=>(hd k).1) ?_
  by_cases hA:f.kind=1∨f.kind=2
  · refine Ev.bindc (a:=(f.kind,true,f,f.parent,f.atF,f.child,f.left,f.token,f.tokens)) (by rcases hA with h | h <;> simp [h]) ?_
    refine Ev.bindc (a:=(kv g f,0,0,0,f.left,f.token,f.tokens)) (by simp [za]) (fin _ ?_)
    unfold okF n4 kv
    rw [if_pos hA]
    simp only [true_and]
    rw [Bool.eq_iff_iff]
    simp only [Bool.and_eq_true,decide_eq_true_eq]
    constructor
    · rintro ⟨a,b,c,d⟩; exact ⟨d,b,c,a⟩
    · rintro ⟨d,b,c,a⟩; exact ⟨a,b,c,d⟩
  have hA':¬ f.kind=1∧¬ f.kind=2:=⟨fun h=>hA (.inl h),fun h=>hA (.inr h)⟩
  refine Ev.bindc (a:=(f.kind,false,f,f.parent,f.atF,f.child,f.left,f.token,f.tokens)) (by simp [hA']) ?_
  by_cases hB:f.kind=3∨f.kind=4
  · refine Ev.bind (a:=(decide (0≤f.left∧f.left < g.nonterminals.length)&&cp g.tokens false f.tokens,f.parent,f.atF,f.child,0,f.token,[])) ?_ (fin _ ?_)
    · refine Ev.neg (by simp) (Ev.bindc (a:=true) (by rcases hB with h | h <;> simp [h]) (Ev.bind (a:=(decide (0≤f.left∧f.left < g.nonterminals.length)&&cp g.tokens false f.tokens,0,f.token,[])) (Ev.pos rfl (Ev.bind (a:=decide (0≤f.left∧f.left < g.nonterminals.length)&&cp g.tokens false f.tokens) (Ev.pos rfl ?_) (Ev.const _))) (Ev.const _)))
      by_cases b1:0≤f.left
      · by_cases b2:f.left < (g.nonterminals.length:Int)
        · refine Ev.pos (by simpa using b1) (Ev.pos (by simpa using b2) (Ev.bind h1 ?_))
          simp only [b1,b2,and_self,decide_true,Bool.true_and]
          exact Ev.const _
        · refine Ev.pos (by simpa using b1) (Ev.neg (by simpa using b2) ?_)
          simp only [b2,and_false,decide_false,Bool.false_and]
          exact Ev.const _
      · refine Ev.neg (by simpa using b1) ?_
        simp only [b1,false_and,decide_false,Bool.false_and]
        exact Ev.const _
    · unfold okF n4
      rw [if_neg hA,if_pos hB]
      simp only [true_and]
      rw [Bool.eq_iff_iff]
      simp only [Bool.and_eq_true,decide_eq_true_eq]
      constructor
      · rintro ⟨⟨a,b⟩,c,d,e,h,_⟩; exact ⟨⟨c,d,e,h,a⟩,b⟩
      · rintro ⟨⟨c,d,e,h,a⟩,b⟩; exact ⟨⟨a,b⟩,c,d,e,h,trivial⟩
  have hB':¬ f.kind=3∧¬ f.kind=4:=⟨fun h=>hB (.inl h),fun h=>hB (.inr h)⟩
  by_cases hC:f.kind=5
  · let c:Bool:=cp g.tokens true f.tokens&&decide (0≤f.token∧f.token < g.tokens.length∧(nth g.tokens f.token).classF=0∧(nth g.tokens f.token).literal=(⟨#[]⟩:ByteArray))
    refine Ev.bind (a:=(c,f.parent,f.atF,f.child,f.left,0,[])) ?_ (fin _ ?_)
    · refine Ev.neg (by simp) (Ev.bindc (a:=false) (by simp [hB']) (Ev.bind (a:=(c,f.left,0,[])) (Ev.neg (by simp) (Ev.bind (a:=(c,0,[])) (Ev.pos (by simp [hC]) ?_) (Ev.const _))) (Ev.const _)))
      refine Ev.bind (a:=cp g.tokens true f.tokens&&decide (0≤f.token∧f.token < (g.tokens.length:Int))) (Ev.pos rfl (Ev.bind h2 ?_)) ?_
      · cases cp g.tokens true f.tokens with
        | false=>exact Ev.const _
        | true=>
          by_cases b1:0≤f.token <;> by_cases b2:f.token < (g.tokens.length:Int) <;> simpa [b1,b2] using Ev.const _
      · refine Ev.bindc (a:=c) ?_ (Ev.const _)
        show _=some (cp g.tokens true f.tokens&&decide (0≤f.token∧f.token < g.tokens.length∧(nth g.tokens f.token).classF=0∧(nth g.tokens f.token).literal=(⟨#[]⟩:ByteArray)))
        cases cp g.tokens true f.tokens with
        | false=>simp
        | true=>
          by_cases b1:0≤f.token∧f.token < (g.tokens.length:Int)
          · simp only [b1,bv,bw,Bool.true_and,decide_true,if_true,and_self,Option.bind_some,true_and]
            by_cases b3:(nth g.tokens f.token).classF=0 <;> simp only [b3,decide_true,decide_false,if_true,if_false,Bool.false_eq_true,Option.bind_some,Bool.not_not,true_and,false_and]
          · have:¬ (0≤f.token∧f.token < (g.tokens.length:Int)∧(nth g.tokens f.token).classF=0∧(nth g.tokens f.token).literal=(⟨#[]⟩:ByteArray)):=fun h=>b1 ⟨h.1,h.2.1⟩
            simp only [b1,this,decide_false,Bool.and_false,Bool.false_eq_true,if_false]
    · show ((cp g.tokens true f.tokens&&decide (0≤f.token∧f.token < g.tokens.length∧(nth g.tokens f.token).classF=0∧(nth g.tokens f.token).literal=(⟨#[]⟩:ByteArray)))&&_)=_
      unfold okF
      rw [if_neg hA,if_neg hB,if_pos hC]
      simp only [true_and]
      rw [Bool.eq_iff_iff]
      simp only [Bool.and_eq_true,decide_eq_true_eq]
      constructor
      · rintro ⟨⟨a,b⟩,c,d,e,h,_⟩; exact ⟨⟨c,d,e,h,b⟩,a⟩
      · rintro ⟨⟨c,d,e,h,b⟩,a⟩; exact ⟨⟨a,b⟩,c,d,e,h,trivial⟩
  · refine Ev.bind (a:=(false,f.parent,f.atF,f.child,f.left,f.token,f.tokens)) ?_ (fin _ ?_)
    · exact Ev.neg (by simp) (Ev.bindc (a:=false) (by simp [hB']) (Ev.bind (a:=(false,f.left,f.token,f.tokens)) (Ev.neg (by simp) (Ev.bind (a:=(false,f.token,f.tokens)) (Ev.neg (by simp [hC]) (Ev.const _)) (Ev.const _))) (Ev.const _)))
    · unfold okF n4
      rw [if_neg hA,if_neg hB,if_neg hC]
      rfl
theorem vi {g:am}(hl:g.filters.length≤1000000)(hf:∀ f∈g.filters,zl g f):Ev (fun k=>bG k g) 0:=by
  have key:=gJ g.filters (fun i (_:Unit)=>i) (fun k v=>aY k g v) (fun _ _ _ w=>w = .inr ()) ?_ ?_ g.filters [] () (.inr ()) rfl rfl
  · unfold bG
    exact Ev.bind (a:=Sum.inr ()) (by simpa using key) (Ev.const _)
  · rintro _ w rfl
    refine Ev.step (fun k=>?_) (Ev.const _)
    simp only [cX,Int.lt_irrefl,decide_false,Bool.false_eq_true,if_false]
  · rintro p x s _ w hx rfl
    have h:=hf x (dK hx)
    exact .inl ⟨(),rfl,fun hw=>mR hl hx h.ifF (by have:=h.len; omega) (by rw [h.ok]; simpa using hw)⟩
theorem tU {g:am}{f:aA}(hg:g.filters=[f])(hd:okD g.conditions.length f.ifF)(ht:f.tokens.length≤1000000)(hf:okF g f=false):Ev (fun k=>bG k g) 53:=by
  unfold bG
  exact Ev.bind (a:=Sum.inl 53) (mR (p:=[]) (s:=[]) (by rw [hg]; simp) hg hd ht (by rw [hf]; rfl)) (Ev.const _)
end
end Go.Abs
namespace Go.Abs
noncomputable section
structure Base (g:am):Prop where
  conds:g.conditions∈jK
  fam:okD g.conditions.length g.family
  root:g.family.root≠0
  toks:∃ ds,ds.length=11∧(∀ d∈ds,okD g.conditions.length d)∧g.tokens=fa cC ds
  nts:g.nonterminals∈oW
theorem Mk.base {j i:Nat}{g:am}(h:Mk j i g):Base g:=⟨h.conds,h.fam,h.root,h.toks,h.nts⟩
theorem xN:nk ⟨#[65]⟩:=⟨fun k=>by kernel_rfl,by decide,by decide,by decide⟩
theorem zB:nk ⟨#[66]⟩:=⟨fun k=>by kernel_rfl,by decide,by decide,by decide⟩
theorem AA:nk ⟨#[67]⟩:=⟨fun k=>by kernel_rfl,by decide,by decide,by decide⟩
theorem sF {c:List ByteArray}(h:c∈jK):(∀ x∈c,nk x)∧c.Nodup:=by
  simp only [jK,List.mem_cons,List.not_mem_nil,or_false] at h
  rcases h with rfl | rfl | rfl | rfl
  · exact ⟨fun x hx=>by simp at hx,by simp⟩
  · exact ⟨fun x hx=>by simp only [List.mem_cons,List.not_mem_nil,or_false] at hx; subst hx; exact xN,by simp⟩
  · exact ⟨fun x hx=>by simp only [List.mem_cons,List.not_mem_nil,or_false] at hx; rcases hx with rfl | rfl; exact xN; exact zB,iN (by decide)⟩
  · exact ⟨fun x hx=>by simp only [List.mem_cons,List.not_mem_nil,or_false] at hx; rcases hx with rfl | rfl | rfl; exact xN; exact zB; exact AA,iN (by decide)⟩
theorem wC {c:List ByteArray}(h:c∈oW):(∀ s∈c,s≠bC)∧c.Nodup:=by
  have e:oW.all (fun c=>c.all (fun s=>!decide (s=bC))&&uu c)=true:=by decide
  have:=List.all_eq_true.1 e c h
  simp only [Bool.and_eq_true,List.all_eq_true,Bool.not_eq_true',decide_eq_false_iff_not] at this
  exact ⟨this.1,iN this.2⟩
theorem wy (b m:Nat)(h:m≤10):more b m=(more b 10).take m:=by
  unfold more
  rw [← List.map_take,List.take_range]
  congr 2
  omega
theorem xG {b:List ByteArray}(h:b∈nO){m:Nat}(hm:m≤10):(∀ s∈b++more b.length m,s≠bC)∧(b++more b.length m).Nodup:=by
  have e:nO.all (fun b=>(b++more b.length 10).all (fun s=>!decide (s=bC))&&uu (b++more b.length 10))=true:=by decide
  have:=List.all_eq_true.1 e b h
  simp only [Bool.and_eq_true,List.all_eq_true,Bool.not_eq_true',decide_eq_false_iff_not] at this
  have hs:List.Sublist (b++more b.length m) (b++more b.length 10):=by
    rw [wy _ _ hm]
    exact List.Sublist.append_left (List.take_sublist _ _) _
  exact ⟨fun s h=>this.1 s (hs.subset h),(iN this.2).sublist hs⟩
section
variable {g:am}
theorem Base.family (h:Base g):Ev (fun k=>cJ k g) 0:=
  v8 (by have:=gq h.conds; omega) (sF h.conds).1 (sF h.conds).2 h.fam h.root
theorem Base.nt (h:Base g):Ev (fun k=>bg k g) (if 0≤g.start∧g.start < g.nonterminals.length then 0 else 50):=
  pG (by have:=fN h.nts; omega) (wC h.nts).1 (wC h.nts).2
theorem Base.strip (h:Base g):g.tokens.map Go.Abs.strip=cC.map Go.Abs.strip:=by
  obtain ⟨ds,h1,h2,h3⟩:=h.toks
  rw [h3,kb _ h1]
theorem Base.ntok (h:Base g):g.tokens.length=11:=m4 h.strip
theorem zg {t:aL}(ht:t∈cC):t.name≠bC∧(0≤t.classF∧t.classF≤2)∧(t.literal≠bC→t.sample=bC∧t.pattern=[])∧(t.literal=bC→(∀ k,eR (k+60) t.pattern=some 0)∧(t.classF=0→t.sample≠bC∧eX t.pattern t.sample=some true)∧(t.classF≠0→t.sample=bC)):=by
  simp only [cC,List.mem_cons,List.not_mem_nil,or_false] at ht
  have lit:∀ (n l:ByteArray) (s:ByteArray) (d:ap),n≠bC→l≠bC→s=bC→(aL.mk n 0 l [] s d).name≠bC∧(0≤(aL.mk n 0 l [] s d).classF∧(aL.mk n 0 l [] s d).classF≤2)∧((aL.mk n 0 l [] s d).literal≠bC→(aL.mk n 0 l [] s d).sample=bC∧(aL.mk n 0 l [] s d).pattern=[])∧((aL.mk n 0 l [] s d).literal=bC→(∀ k,eR (k+60) (aL.mk n 0 l [] s d).pattern=some 0)∧((aL.mk n 0 l [] s d).classF=0→(aL.mk n 0 l [] s d).sample≠bC∧eX (aL.mk n 0 l [] s d).pattern (aL.mk n 0 l [] s d).sample=some true)∧((aL.mk n 0 l [] s d).classF≠0→(aL.mk n 0 l [] s d).sample=bC)):=
    fun n l s d h1 h2 h3=>⟨h1,by simp,fun _=>⟨h3,rfl⟩,fun h=>absurd h h2⟩
  rcases ht with rfl | rfl | rfl | rfl | rfl | rfl | rfl | rfl | rfl | rfl | rfl
  · exact ⟨by decide,by simp,fun h=>absurd rfl h,fun _=>⟨fun k=>by kernel_rfl,fun _=>⟨by decide,by kernel_rfl⟩,fun h=>absurd rfl h⟩⟩
  · exact lit _ _ _ _ (by decide) (by decide) rfl
  · exact lit _ _ _ _ (by decide) (by decide) rfl
  · exact lit _ _ _ _ (by decide) (by decide) rfl
  · exact lit _ _ _ _ (by decide) (by decide) rfl
  · exact lit _ _ _ _ (by decide) (by decide) rfl
  · exact lit _ _ _ _ (by decide) (by decide) rfl
  · exact lit _ _ _ _ (by decide) (by decide) rfl
  · exact lit _ _ _ _ (by decide) (by decide) rfl
  · exact ⟨by decide,by simp,fun h=>absurd rfl h,fun _=>⟨fun k=>by kernel_rfl,fun h=>absurd h (by decide),fun _=>rfl⟩⟩
  · exact ⟨by decide,by simp,fun h=>absurd rfl h,fun _=>⟨fun k=>by kernel_rfl,fun h=>absurd h (by decide),fun _=>rfl⟩⟩
theorem ug:∀ {ts:List aL} {ds:List ap} {x:aL},x∈fa ts ds→x.ifF∈ds
  | [],_,x,h=>by simp [fa] at h
  | _::_,[],x,h=>by simp [fa] at h
  | t::ts,d::ds,x,h=>by
    simp only [fa,List.zipWith_cons_cons,List.mem_cons] at h
    rcases h with rfl | h
    · exact List.mem_cons_self
    · exact List.mem_cons_of_mem _ (ug h)
theorem Base.tokens (h:Base g):Ev (fun k=>cK k g) 0:=by
  refine wY (by rw [h.ntok]; omega) (fun t ht=>?_) ?_
  · have hs:Go.Abs.strip t∈cC.map Go.Abs.strip:=by rw [← h.strip]; exact List.mem_map_of_mem ht
    obtain ⟨u,hu,he⟩:=List.mem_map.1 hs
    obtain ⟨ds,h1,h2,h3⟩:=h.toks
    have hd:okD g.conditions.length t.ifF:=h2 _ (ug (h3▸ht))
    obtain ⟨q1,q2,q3,q4⟩:=zg hu
    obtain ⟨n1,c1,l1,p1,s1,d1⟩:=t
    obtain ⟨n2,c2,l2,p2,s2,d2⟩:=u
    simp only [Go.Abs.strip,i5,aL.mk.injEq] at he
    obtain ⟨rfl,rfl,rfl,rfl,rfl,_⟩:=he
    exact ⟨q1,q2,hd,q3,q4⟩
  · have e:g.tokens.map (·.name)=cC.map (·.name):=by
      have:=congrArg (List.map (fun t:aL=>t.name)) h.strip
      simpa [List.map_map,Function.comp_def,Go.Abs.strip,i5] using this
    rw [e]
    exact iN (by decide)
theorem Base.sym (h:Base g){s:aw}(hs:mt g.nonterminals.length s=true):dZ g s=true:=by
  obtain ⟨tk,ix⟩:=s
  simp only [mt,Bool.and_eq_true,decide_eq_true_eq] at hs
  unfold dZ
  cases tk with
  | false=>
    simp only [Bool.false_eq_true,if_false,decide_eq_true_eq] at hs ⊢
    exact ⟨hs.1,hs.2⟩
  | true=>
    simp only [if_true,decide_eq_true_eq] at hs ⊢
    have e:=h.ntok
    refine ⟨hs.1,by omega,?_⟩
    rw [kH h.strip]
    have e9:∀ n:Nat,n < 9→(nth cC (n:Int)).classF=0:=by decide
    have:=e9 ix.toNat (by omega)
    rwa [show ((ix.toNat:Nat):Int)=ix by omega] at this
theorem uv {r:List aw}{d v lo hi:Int}(h:ku r d v lo hi=true)(hr:r.length≤16):d≤4000000000:=by
  unfold ku at h
  split at h
  · omega
  · simp only [Bool.and_eq_true,decide_eq_true_eq] at h
    omega
theorem Base.prod (h:Base g){p:aj}(hp:sn g.nonterminals.length p)(hd:okD g.conditions.length p.ifF):pP g p:=
  ⟨h.sym (by simp only [mt,Bool.and_eq_true,decide_eq_true_eq,Bool.false_eq_true,if_false]; exact hp.left),List.all_eq_true.2 fun s hs=>h.sym (hp.right s hs),hd,hp.rank,by
    simp only [vc,Bool.and_eq_true,List.all_eq_true,Bool.or_eq_true,Bool.not_eq_true']
    refine ⟨hp.layout,hp.decl,hp.uses,?_⟩
    cases hb:p.bracket with
    | false=>exact .inl rfl
    | true=>exact .inr (hp.br hb),by have:=hp.rlen; omega,by have:=hp.llen; omega,uv hp.decl hp.rlen,uv hp.uses hp.rlen⟩
structure jF (g:am):Prop where
  base:Base g
  large:Ev (fun k=>eO k g) false
theorem jF.of {j i:Nat}{g g':am}(h:Mk j i g)(hj:j≤10)(hi:i≤6)(h1:g'.conditions=g.conditions)(h2:g'.family=g.family)(h3:g'.tokens=g.tokens)(h4:g'.nonterminals=g.nonterminals)(h5:g'.productions.length=g.productions.length)(h6:g'.levels.length≤10)(h7:g'.filters.length≤10)
    (hp:∀ p∈g'.productions,p.right.length≤16∧p.layout.length≤16):jF g':=by
  have hb:Base g':=⟨by rw [h1]; exact h.conds,by rw [h1,h2]; exact h.fam,by rw [h2]; exact h.root,by rw [h1,h3]; exact h.toks,by rw [h4]; exact h.nts⟩
  have:=h.np
  exact ⟨hb,xC (by have:=gq hb.conds; omega) (by rw [hb.ntok]; omega) (by omega) (by have:=fN hb.nts; omega) (by omega) (by omega) hp⟩
theorem jF.run (h:jF g){e:Int}(r:Ev (fun k=>(bg k g).bind fun y7=>(if (!decide (y7=0))=true then some y7 else ((bc k g).bind fun y9=>(if (!decide (y9=0))=true then some y9 else ((bN k g).bind fun y11=>(if (!decide (y11=0))=true then some y11 else ((bG k g).bind fun y13=>(if (!decide (y13=0))=true then some y13 else some 0)))))))) e):Ev (fun k=>bj k g) e:=by
  unfold bj
  exact Ev.bind h.large (Ev.neg (by simp) (Ev.bind h.base.family (Ev.neg (by simp) (Ev.bind h.base.tokens (Ev.neg (by simp) r)))))
theorem jF.nt0 (h:jF g)(hs:g.start=0):Ev (fun k=>bg k g) 0:=by
  have:=h.base.nt
  have hn:=fN h.base.nts
  rwa [if_pos (by omega)] at this
theorem Mk.names {j i:Nat}(h:Mk j i g)(hj:j≤10):(∀ p∈g.productions,p.name≠bC)∧(g.productions.map (·.name)).Nodup:=by
  obtain ⟨b,hb,m,hm,he⟩:=h.pnames
  obtain ⟨q1,q2⟩:=xG hb (m:=m) (by omega)
  rw [← he] at q1 q2
  exact ⟨fun p hp=>q1 _ (List.mem_map_of_mem hp),q2⟩
theorem Mk.check {j i:Nat}(h:Mk j i g)(hj:j≤10)(hi:i≤6):Ev (fun k=>bj k g) 0:=by
  have hp:jF g:=jF.of h hj hi rfl rfl rfl rfl rfl (by have:=h.llen; omega) (by have:=h.flen; omega) fun p hp=>⟨(h.prods p hp).1.rlen,(h.prods p hp).1.llen⟩
  have hn:=h.names hj
  have hnp:=h.np
  refine hp.run (Ev.bind (hp.nt0 h.start) (Ev.neg (by simp) (Ev.bind (tm (by omega) (fun p hq=>hp.base.prod (h.prods p hq).1 (h.prods p hq).2) hn.1 hn.2) (Ev.neg (by simp) (Ev.bind (q5 (by have:=h.llen; omega) h.levels h.nodup) (Ev.neg (by simp) (Ev.bind (vi (by have:=h.flen; omega) h.filters) (Ev.const _))))))))
end
end
end Go.Abs
namespace Go.Abs
noncomputable section
noncomputable def put (g:am)(t:Int×Int×List aN×List aA×List aj):am:=⟨g.conditions,g.family,g.tokens,g.nonterminals,t.2.2.2.2,t.2.1,t.2.2.1,t.2.2.2.1⟩
theorem tP {g:am}{y1:Bool}(h1:y1=true)(t:Int×Int×List aN×List aA×List aj)(ht:t.1≠0)(hc:Ev (fun k=>bj k (put g t)) t.1) :
    Ev (fun k=>((gr k (put g t) 0).bind fun y35=>((ep k (put g t)).bind fun y36=>((dW k (put g t) 5).bind fun y37=>((((bj k (put g t)).bind fun y38=>(if (decide (y38=t.1))=true then (if (decide (y35.2.2=t.1))=true then (if (decide (y36=t.1))=true then (if (!y37)=true then ((gt k (put g t) 0).bind fun y43=>(if (!y43)=true then some y1 else some false)) else some false) else some false) else some false) else some false)):Option Bool).bind fun x46=>some x46))))) true:=by
  subst h1
  have e1:Ev (fun k=>gr k (put g t) 0) (0,0,t.1):=by
    unfold gr
    exact Ev.bind hc (Ev.pos (by simpa using ht) (Ev.const _))
  have e2:Ev (fun k=>ep k (put g t)) t.1:=by
    unfold ep
    exact Ev.bind hc (Ev.pos (by simpa using ht) (Ev.const _))
  have e3:Ev (fun k=>dW k (put g t) 5) false:=by
    unfold dW
    exact Ev.bind (a:=true) (Ev.bind hc (Ev.pos (by simpa using ht) (Ev.const _))) (Ev.pos rfl (Ev.const _))
  have e4:Ev (fun k=>gt k (put g t) 0) false:=by
    unfold gt
    exact Ev.bind hc (Ev.neg (by simpa using ht) (Ev.const _))
  exact Ev.bind e1 (Ev.bind e2 (Ev.bind e3 (Ev.bind (Ev.bind hc (Ev.pos (by simp) (Ev.pos (by simp) (Ev.pos (by simp) (Ev.pos rfl (Ev.bind e4 (Ev.pos rfl (Ev.const _)))))))) (Ev.const _))))
section
variable {g:am}{b:Int}
theorem vX (h:Mk 10 6 g)(hb:b < 0∨b≥2000):Ev (fun k=>bj k (put g (50,b,g.levels,g.filters,g.productions))) 50:=by
  have hp:jF (put g (50,b,g.levels,g.filters,g.productions)):=jF.of h (by omega) (by omega) rfl rfl rfl rfl rfl (by have:=h.llen; simp only [put]; omega) (by have:=h.flen; simp only [put]; omega) fun p hp=>⟨(h.prods p hp).1.rlen,(h.prods p hp).1.llen⟩
  have hn:=fN h.nts
  have:=hp.base.nt
  rw [if_neg (by simp only [put]; omega)] at this
  exact hp.run (Ev.bind this (Ev.pos (by simp) (Ev.const _)))
theorem oL (h:Mk 10 6 g)(hb:b < 0∨b≥2000){i:Nat}(hi:i < g.productions.length){q:aj}(hq:(q.left=b∧q.right=(g.productions.getD i default).right)∨(q.right=[⟨true,b⟩])∨q.right=[⟨false,b⟩])(hl:q.layout=(g.productions.getD i default).layout) :
    Ev (fun k=>bj k (put g (50,g.start,g.levels,g.filters,g.productions.set i q))) 50:=by
  have hm:g.productions.getD i default∈g.productions:=by
    rw [List.getD_eq_getElem?_getD,List.getElem?_eq_getElem hi]; exact List.getElem_mem hi
  have hm':=h.prods _ hm
  have hq16:q.right.length≤16:=by
    rcases hq with ⟨_,e⟩ | e | e
    · rw [e]; exact hm'.1.rlen
    · rw [e]; simp
    · rw [e]; simp
  have hset:g.productions.set i q=g.productions.take i++q::g.productions.drop (i+1):=List.set_eq_take_append_cons_drop.trans (by rw [if_pos hi])
  have hp:jF (put g (50,g.start,g.levels,g.filters,g.productions.set i q)):=jF.of h (by omega) (by omega) rfl rfl rfl rfl (by simp [put]) (by have:=h.llen; simp only [put]; omega) (by have:=h.flen; simp only [put]; omega) fun p hp=>by
    rcases List.mem_or_eq_of_mem_set hp with hp | rfl
    · exact ⟨(h.prods p hp).1.rlen,(h.prods p hp).1.llen⟩
    · exact ⟨hq16,by rw [hl]; exact hm'.1.llen⟩
  have hnm:=h.names (by omega)
  have hnt:=fN h.nts
  have htk:=h.base.ntok
  have hsub:∀ p∈g.productions.take i,p∈g.productions:=fun p hp=>List.mem_of_mem_take hp
  have hnp:=h.np
  have bad:=wJ (g:=put g (50,g.start,g.levels,g.filters,g.productions.set i q)) (pre0:=g.productions.take i) (q:=q) (suf0:=g.productions.drop (i+1)) hset (by simp only [put,List.length_set]; omega)
    (fun p hq=>hp.base.prod (h.prods p (hsub p hq)).1 (h.prods p (hsub p hq)).2) (fun p hq=>hnm.1 p (hsub p hq)) (hnm.2.sublist ((List.take_sublist i _).map _)) (by
      rcases hq with ⟨e,_⟩ | e | e
      · left
        unfold dZ
        simp only [put,e,Bool.false_eq_true,if_false,decide_eq_false_iff_not]
        omega
      · right
        rw [e]
        simp only [List.all_cons,List.all_nil,Bool.and_true,dZ,put,if_true,decide_eq_false_iff_not]
        omega
      · right
        rw [e]
        simp only [List.all_cons,List.all_nil,Bool.and_true,dZ,put,Bool.false_eq_true,if_false,decide_eq_false_iff_not]
        omega) (by omega)
  exact hp.run (Ev.bind (hp.nt0 h.start) (Ev.neg (by simp) (Ev.bind bad (Ev.pos (by simp) (Ev.const _)))))
theorem ub (h:Mk 10 6 g)(ls:List aN)(fs:List aA)(h1:ls.length≤10)(h2:fs.length≤10)(e:Int):jF (put g (e,g.start,ls,fs,g.productions))∧Ev (fun k=>bc k (put g (e,g.start,ls,fs,g.productions))) 0:=by
  have hp:jF (put g (e,g.start,ls,fs,g.productions)):=jF.of h (by omega) (by omega) rfl rfl rfl rfl rfl h1 h2 fun p hp=>⟨(h.prods p hp).1.rlen,(h.prods p hp).1.llen⟩
  have hn:=h.names (by omega)
  have hnp:=h.np
  exact ⟨hp,tm (g:=put g (e,g.start,ls,fs,g.productions)) (by simp only [put]; omega) (fun p hq=>hp.base.prod (h.prods p hq).1 (h.prods p hq).2) hn.1 hn.2⟩
theorem vW (h:Mk 10 6 g)(hb:b < 0∨b≥2000):Ev (fun k=>bj k (put g (53,g.start,[⟨[b],0,g.family⟩],g.filters,g.productions))) 53:=by
  obtain ⟨hp,hq⟩:=ub h [⟨[b],0,g.family⟩] g.filters (by simp) (by have:=h.flen; omega) 53
  have hnp:=h.np
  have bad:=vn (g:=put g (53,g.start,[⟨[b],0,g.family⟩],g.filters,g.productions)) rfl h.fam (by simp only [put]; omega)
  exact hp.run (Ev.bind (hp.nt0 h.start) (Ev.neg (by simp) (Ev.bind hq (Ev.neg (by simp) (Ev.bind bad (Ev.pos (by simp) (Ev.const _)))))))
theorem lM (h:Mk 10 6 g){f:aA}(hf:f.ifF=g.family)(ht:f.tokens.length≤2)(hk:okF (put g (53,g.start,g.levels,[f],g.productions)) f=false):Ev (fun k=>bj k (put g (53,g.start,g.levels,[f],g.productions))) 53:=by
  obtain ⟨hp,hq⟩:=ub h g.levels [f] (by have:=h.llen; omega) (by simp) 53
  have hlv:=q5 (g:=put g (53,g.start,g.levels,[f],g.productions)) (by have:=h.llen; simp only [put]; omega) h.levels h.nodup
  have bad:=tU (g:=put g (53,g.start,g.levels,[f],g.productions)) rfl (by rw [hf]; exact h.fam) (by omega) hk
  exact hp.run (Ev.bind (hp.nt0 h.start) (Ev.neg (by simp) (Ev.bind hq (Ev.neg (by simp) (Ev.bind hlv (Ev.neg (by simp) (Ev.bind bad (Ev.pos (by simp) (Ev.const _)))))))))
theorem vY {x:Raw}(hx:nZ x){how b0:Int}(h0:0≤how∧how≤255)(hb0 : -9223372036854775808≤b0∧b0≤9223372036854775807):Ev (fun k=>eF k x how b0) true:=by
  obtain ⟨g,hg,hM⟩:=xj hx
  obtain ⟨b,hb,hbr⟩:∃ b,(((if (decide (b0≥0))=true then some (decide (b0 < 2000)) else some false):Option Bool).bind fun x5=>(if x5=true then some (IntKind.wrap .i64 (b0+2000)) else some b0))=some b∧(b < 0∨b≥2000):=by
    by_cases h1:b0≥0
    · by_cases h2:b0 < 2000
      · exact ⟨b0+2000,by simp [h1,h2,cn (show -9223372036854775808≤b0+2000 by omega) (by omega)],by omega⟩
      · exact ⟨b0,by simp [h1,h2],by omega⟩
    · exact ⟨b0,by simp [h1],by omega⟩
  have hnp:=hM.np
  have hnz:(g.productions.length:Int)≠0:=by omega
  have hmm:(([]:List aj).length+g.productions.length)*160≤140737488355328:=by simp; omega
  obtain ⟨q,hq,hw⟩:=w9 h0.1 h0.2
  obtain ⟨i,hi,hi2⟩:∃ i:Nat,Int.tmod (IntKind.wrap .i64 (IntKind.wrap .u8 (Int.tdiv how 8))) (g.productions.length:Int)=(i:Int)∧i < g.productions.length:=⟨q % g.productions.length,by rw [hw,gi],Nat.mod_lt _ hnp.1⟩
  obtain ⟨j,hj,hm⟩:∃ j:Nat,j < 8∧Int.tmod how 8=(j:Int):=⟨(how % 8).toNat,by omega,by rw [Int.tmod_eq_emod_of_nonneg h0.1]; omega⟩
  have ci:(0:Int)≤(i:Int)∧(i:Int) < (g.productions.length:Int):=by omega
  have tail:=fun t ht hc=>tP (g:=g) (y1:=true) rfl t ht hc
  have hb':=Option.bind_eq_some_iff.1 hb
  obtain ⟨x5,hx5,hx8⟩:=hb'
  unfold eF
  simp only [hm]
  refine Ev.bindc (a:=true) rfl (Ev.bind hg (Ev.bindc hx5 (Ev.bindc hx8 (Ev.pos hmm (Ev.pos hnz ?_)))))
  simp only [hi]
  match j,hj with
  | 0,_=>exact Ev.bindc (by rw [if_pos (by simp)]) (tail (50,b,g.levels,g.filters,g.productions) (by simp) (vX hM hbr))
  | 1,_=>
    refine Ev.bindc (a:=(50,g.start,g.levels,g.filters,g.productions.set i { (g.productions.getD i default) with left:=b })) ?_ (tail _ (by simp) (oL hM hbr hi2 (.inl ⟨rfl,rfl⟩) rfl))
    rw [if_neg (by simp)]
    refine Option.bind_eq_some_iff.2 ⟨_,by rw [if_pos (by simp),if_pos ci],rfl⟩
  | 2,_=>
    refine Ev.bindc (a:=(50,g.start,g.levels,g.filters,g.productions.set i { (g.productions.getD i default) with right:=[⟨true,b⟩] })) ?_ (tail _ (by simp) (oL hM hbr hi2 (.inr (.inl rfl)) rfl))
    rw [if_neg (by simp)]
    refine Option.bind_eq_some_iff.2 ⟨_,by rw [if_neg (by simp),if_pos (by simp),if_pos ci]; rfl,rfl⟩
  | 3,_=>
    refine Ev.bindc (a:=(50,g.start,g.levels,g.filters,g.productions.set i { (g.productions.getD i default) with right:=[⟨false,b⟩] })) ?_ (tail _ (by simp) (oL hM hbr hi2 (.inr (.inr rfl)) rfl))
    rw [if_neg (by simp)]
    refine Option.bind_eq_some_iff.2 ⟨_,by rw [if_neg (by simp),if_neg (by simp),if_pos (by simp),if_pos ci]; rfl,rfl⟩
  | 4,_=>exact Ev.bindc (a:=(53,g.start,[⟨[b],0,g.family⟩],g.filters,g.productions)) (by simp) (tail _ (by simp) (vW hM hbr))
  | 5,_=>
    refine Ev.bindc (a:=(53,g.start,g.levels,[⟨1,b,0,0,0,0,[],g.family⟩],g.productions)) (by simp) (tail _ (by simp) (lM hM rfl (by simp) ?_))
    unfold okF
    rw [if_pos (.inl rfl)]
    simp only [put,decide_eq_false_iff_not]
    omega
  | 6,_=>
    refine Ev.bindc (a:=(53,g.start,g.levels,[⟨3,0,0,0,b,0,[0],g.family⟩],g.productions)) (by simp) (tail _ (by simp) (lM hM rfl (by simp) ?_))
    have hnt:=fN hM.nts
    unfold okF
    rw [if_neg (by simp),if_pos (.inl rfl)]
    have:¬ (0≤b∧b < (g.nonterminals.length:Int)):=by omega
    simp only [put,true_and,this,decide_false,Bool.false_and]
  | 7,_=>
    refine Ev.bindc (a:=(53,g.start,g.levels,[⟨5,0,0,0,0,b,[5],g.family⟩],g.productions)) (by simp) (tail _ (by simp) (lM hM rfl (by simp) ?_))
    have htk:=hM.base.ntok
    unfold okF
    rw [if_neg (by simp),if_neg (by simp),if_pos rfl]
    have:¬ (0≤b∧b < (g.tokens.length:Int)∧(nth g.tokens b).classF=0∧(nth g.tokens b).literal=(⟨#[]⟩:ByteArray)):=by omega
    simp only [put,true_and,this,decide_false,Bool.false_and]
end
end
end Go.Abs
namespace Go.Abs
open Go.ChangeShapes Go.WideShapes Go.Deep
noncomputable def mr (w:World)(b o:Nat):Option Value:=w.cell? ⟨b,o,none⟩
theorem ul {α:Type}[Inhabited α]{Q:Nat→α→Prop}:∀ {n:Nat},(∀ i,i < n→∃ x,Q i x)→∃ xs:List α,xs.length=n∧∀ i,i < n→Q i (xs.getD i default)
  | 0,_=>⟨[],rfl,fun i hi=>absurd hi (Nat.not_lt_zero i)⟩
  | n+1,h=>by
    obtain ⟨xs,h1,h2⟩:=ul (n:=n) fun i hi=>h i (by omega)
    obtain ⟨x,hx⟩:=h n (by omega)
    refine ⟨xs++[x],by simp [h1],fun i hi=>?_⟩
    by_cases hin:i < n
    · have:=h2 i hin
      rw [List.getD_eq_getElem?_getD] at this ⊢
      rwa [List.getElem?_append_left (by omega)]
    · obtain rfl:i=n:=by omega
      rw [List.getD_eq_getElem?_getD,List.getElem?_append_right (by omega),h1]
      simpa using hx
section
variable {H:Type}{enc:TypeId×Value→H}{P:Program}{w:World}{spare:Nat→Bool}{held:Bool}
noncomputable def qQ (n:Int):Prop:=0≤n∧n≤255
theorem uQ {n:Int}(h:(Lit.int .u8 n).wf=true):qQ n:=by
  simp [Lit.wf,IntKind.min,IntKind.max,IntKind.signed,IntKind.bits] at h
  unfold qQ
  omega
structure Reads {α:Type}(P:Program)(w:World)(H:Type)(enc:TypeId×Value→H)(spare:Nat→Bool)(held:Bool)(e:TypeId)(C:Nat)(f:α→List D)(Q:α→Prop):Prop where
  cells:P.cellsOf e=C
  pos:0 < C
  read:∀ n cs y,DataW.trod enc P w 0 spare held n e cs=some y→∃ x,Q x∧cs.length=C∧∀ j,j < C→(cs.getD j undef).oneCell'=true∧RD (mr w) (cs.getD j undef) ((f x).getD j default)
theorem Reads.u8 {e:TypeId}(he:P.underlying e=some (.int .u8))(hC:P.cellsOf e=1):Reads P w H enc spare held e 1 (fun n:Int=>[D.int .u8 n]) qQ:=
  ⟨hC,by omega,fun n cs y h=>by
    obtain ⟨z,rfl,_,hw⟩:=DataW.trod_int he h
    refine ⟨z,uQ hw,rfl,fun j hj=>?_⟩
    obtain rfl:j=0:=by omega
    exact ⟨rfl,.int _ _⟩⟩
theorem Reads.list {α:Type}[Inhabited α]{e t:TypeId}{C:Nat}{f:α→List D}{Q:α→Prop}(h:Reads P w H enc spare held e C f Q)(ht:P.underlying t=some (.slice e))(hC:P.cellsOf t=1) :
    Reads P w H enc spare held t 1 (fun xs:List α=>[af C f xs]) (fun xs=>∀ x∈xs,Q x):=
  ⟨hC,by omega,fun n cs y hy=>by
    rcases open_slice ht hy with ⟨rfl,_⟩ | ⟨a,len,cap,m,k,D,Pl,rfl,hb,hl,hm,hmm,hx,hi⟩
    · refine ⟨[],(fun x hx=>by cases hx),rfl,fun j hj=>?_⟩
      obtain rfl:j=0:=by omega
      exact ⟨rfl,.sl0 _ _ _ _⟩
    · have hlm:len≤m:=by rw [hmm]; split <;> omega
      have key:∀ i,i < len→∃ x,Q x∧∀ j,j < C→∃ v,w.cell? (a.add (i*C+j))=some v∧v.oneCell'=true∧RD (mr w) v ((f x).getD j default):=fun i hil=>by
        obtain ⟨cs',hc,ht'⟩:=hi i (by omega)
        rw [h.cells] at hc
        obtain ⟨_,hcl,hat⟩:=World.cells?_some hc
        obtain ⟨x,hq,_,hj⟩:=h.read _ _ _ ht'
        refine ⟨x,hq,fun j hjC=>⟨cs'.getD j undef,?_,hj j hjC⟩⟩
        have:=hat j hjC
        rw [Go.Deep.add_add] at this
        rw [this,List.getD_eq_getElem?_getD,List.getElem?_eq_getElem (by omega)]
        rfl
      obtain ⟨xs,h1,h2⟩:=ul key
      refine ⟨xs,fun x hx=>?_,rfl,fun j hj=>?_⟩
      · obtain ⟨i,hi',rfl⟩:=List.mem_iff_getElem.1 hx
        have:=(h2 i (by omega)).1
        rwa [List.getD_eq_getElem?_getD,List.getElem?_eq_getElem hi'] at this
      · obtain rfl:j=0:=by omega
        refine ⟨rfl,?_⟩
        show RD (mr w) (.slice (some a) len cap) (af C f xs)
        unfold af
        rw [h1]
        rcases Nat.eq_zero_or_pos len with h0 | h0
        · subst h0; exact .sl0 _ _ _ _
        · have hs:a.spot=none:=by
            obtain ⟨v,hv,_⟩:=(h2 0 h0).2 0 h.pos
            cases hsp:a.spot with
            | none=>rfl
            | some s=>
              rw [show a.add (0*C+0)=a by simp [Addr.add]] at hv
              unfold World.cell? at hv
              split at hv
              · simp [hsp] at hv
              · cases hv
          obtain ⟨b,o,s⟩:=a
          simp only at hs
          subst hs
          have ha:∀ k,(⟨b,o,none⟩:Addr).add k=⟨b,o+k,none⟩:=fun k=>by
            unfold Addr.add
            split
            · rename_i hk; subst hk; rfl
            · rfl
          refine .sl b o len cap C _ (fun i j=>(w.cell? ⟨b,o+(i*C+j),none⟩).getD undef) hl (fun i hi' j hj'=>?_) (fun i hi' j hj'=>?_) (fun i hi' j hj'=>?_)
          · obtain ⟨v,hv,_⟩:=(h2 i hi').2 j hj'
            rw [ha] at hv
            show w.cell? ⟨b,o+i*C+j,none⟩=_
            rw [Nat.add_assoc,hv]; rfl
          · obtain ⟨v,hv,hv1,_⟩:=(h2 i hi').2 j hj'
            rw [ha] at hv
            rw [hv]; exact hv1
          · obtain ⟨v,hv,_,hv2⟩:=(h2 i hi').2 j hj'
            rw [ha] at hv
            rw [hv]; exact hv2⟩
theorem nx {t:TypeId}{fs:Array Field}{n:Nat}{cs:List Value}{y:DataW H×List MemPlace}(hs:P.underlying t=some (.struct fs))(hone:oneCellFields P fs=true)(hC:P.cellsOf t=fs.size)(h:DataW.trod enc P w 0 spare held n t cs=some y) :
    cs.length=fs.size∧∃ m,∀ (j:Nat) (f:Field),fs[j]? = some f→∃ z,DataW.trod enc P w 0 spare held m f.type [cs.getD j undef]=some z:=by
  obtain ⟨xs,m,_,_,hl,hxl,hf⟩:=DataW.trod_struct hs h
  refine ⟨hl.trans hC,m,fun j f hj=>?_⟩
  obtain ⟨ho,hk⟩:=hone_of hone j f hj
  have hjl:j < fs.size:=(Array.getElem?_eq_some_iff.1 hj).1
  have h1:=hf j f hj
  rw [ho,hk] at h1
  have e:(cs.drop j).take 1=[cs.getD j undef]:=by
    rw [List.drop_eq_getElem_cons (by omega),List.getD_eq_getElem?_getD,List.getElem?_eq_getElem (by omega)]
    rfl
  rw [e,List.getElem?_eq_getElem (by omega)] at h1
  exact ⟨_,h1⟩
theorem Reads.one {α:Type}{e:TypeId}{f:α→List D}{Q:α→Prop}(h:Reads P w H enc spare held e 1 f Q){n:Nat}{v:Value}{y:DataW H×List MemPlace}(hy:DataW.trod enc P w 0 spare held n e [v]=some y):∃ x,Q x∧v.oneCell'=true∧RD (mr w) v ((f x).getD 0 default):=by
  obtain ⟨x,h1,_,h2⟩:=h.read _ _ _ hy
  exact ⟨x,h1,h2 0 (by omega)⟩
end
end Go.Abs
namespace Go.Abs
open Go.Proofs Go.Proofs.YtmdmpichmdfmcaaGreatDoor
open Go.ChangeShapes Go.WideShapes Go.ChangeAt Go.RowKit Go.Deep
noncomputable section
theorem AB:ownKnob Tryz.prog.godebug=none:=by kernel_rfl
theorem laidAll:laidOutB Tryz.prog=true:=by kernel_rfl
noncomputable def sQ:List (String×DataW Unit):=[("math/bits.deBruijn64tab",Rows.laid_math_bits_deBruijn64tab)]
theorem xt (os:Os)(args:Array Value):laidMetH Tryz.prog sQ ((World.doorLaid Tryz.prog 400 os).forCall (fun _ _=>0) ⟨#[],args,[]⟩).memory:=
  laidMetH_of_parts3 (fuel:=8) (laidMet_of_run' 8 (by kernel_rfl) (by kernel_rfl)) (by kernel_rfl) (by kernel_rfl)
theorem Aw:Tryz.prog.globalNamed "math/bits.deBruijn64tab" = some 0:=by kernel_rfl
theorem AE:(Tryz.prog.globals[0]?).map (·.type)=some 321:=by kernel_rfl
theorem AG:Tryz.prog.underlying 321=some (.array 64 5):=by kernel_rfl
theorem c5:Tryz.prog.cellsOf 5=1:=by kernel_rfl
theorem u5:Tryz.prog.underlying 5=some (.int .u8):=by kernel_rfl
theorem zq:(Rows.laid_math_bits_deBruijn64tab:DataW Unit) = .agg (tH.map fun n=>.lit (.int .u8 n)):=by kernel_rfl
theorem y0 {W:World}(h:laidMetH Tryz.prog sQ W):∀ b k v,kc b k=some v→mr W b k=some v:=by
  rw [MakeChecks.laidMetH_plain _ _ _ (by kernel_rfl)] at h
  obtain ⟨ps,⟨g0,t0,cs0,f0,p0,q0,hg0,ht0,hv0,hd0,_,_⟩,_,_⟩:=h
  obtain rfl:=Option.some.inj (Aw.symm.trans hg0)
  obtain rfl:=Option.some.inj (AE.symm.trans ht0)
  obtain ⟨xs,m,rfl,hx,hlen,hn,hel⟩:=DataW.trod_array AG hd0
  intro b k v hv
  unfold kc at hv
  split at hv
  · rename_i hb
    subst hb
    obtain ⟨n,hn1,rfl⟩:=Option.map_eq_some_iff.1 hv
    have hk:k < 64:=(List.getElem?_eq_some_iff.1 hn1).1
    have h1:=hel k hk
    rw [c5,Nat.mul_one,List.getElem?_eq_getElem (by omega)] at h1
    obtain ⟨z,e1,e2,_⟩:=DataW.trod_int u5 h1
    simp only [Prod.mk.injEq] at hx
    have h2:=hx.1
    rw [zq] at h2
    simp only [DataW.agg.injEq] at h2
    have h3:=congrArg (·[k]?) h2
    simp only [List.getElem?_map,hn1,List.getElem?_eq_getElem (show k < xs.length by omega),Option.map_some,e2,Option.some.injEq,DataW.lit.injEq,Lit.int.injEq] at h3
    have hc:=World.var?_cell hg0 hv0 k
    show W.cell? ⟨0,k,none⟩=_
    rw [hc]
    have h4:=congrArg (·[0]?) e1
    simp only [List.getElem?_take,List.getElem?_drop,Nat.add_zero,List.getElem?_cons_zero] at h4
    rw [if_pos (by omega)] at h4
    rw [← Array.getElem?_toList,h4,h3.2]
  · cases hv
section
variable {H:Type}{enc:TypeId×Value→H}{w:World}{spare:Nat→Bool}{held:Bool}
theorem nv:Reads Tryz.prog w H enc spare held 5 1 (fun n:Int=>[D.int .u8 n]) qQ:=Reads.u8 u5 c5
theorem zD:Reads Tryz.prog w H enc spare held 22 1 (fun xs:List Int=>[af 1 (eI .u8) xs]) (fun xs=>∀ x∈xs,qQ x):=nv.list (by kernel_rfl) (by kernel_rfl)
theorem zE:Reads Tryz.prog w H enc spare held 110 4 nQ pM:=⟨by kernel_rfl,by omega,fun n cs y h=>by
  obtain ⟨hl,m,hf⟩:=nx Tryz.underlying110 (by kernel_rfl) (by kernel_rfl) h
  obtain ⟨_,z0⟩:=hf 0 _ rfl
  obtain ⟨_,z1⟩:=hf 1 _ rfl
  obtain ⟨_,z2⟩:=hf 2 _ rfl
  obtain ⟨_,z3⟩:=hf 3 _ rfl
  obtain ⟨x0,a0,b0,c0⟩:=nv.one z0
  obtain ⟨x1,a1,b1,c1⟩:=zD.one z1
  obtain ⟨x2,a2,b2,c2⟩:=nv.one z2
  obtain ⟨x3,a3,b3,c3⟩:=nv.one z3
  refine ⟨⟨x0,x1,x2,x3⟩,⟨a0,a1,a2,a3⟩,hl,fun j hj=>?_⟩
  match j,hj with
  | 0,_=>exact ⟨b0,c0⟩
  | 1,_=>exact ⟨b1,c1⟩
  | 2,_=>exact ⟨b2,c2⟩
  | 3,_=>exact ⟨b3,c3⟩⟩
theorem zF:Reads Tryz.prog w H enc spare held 113 5 nR tg:=⟨by kernel_rfl,by omega,fun n cs y h=>by
  obtain ⟨hl,m,hf⟩:=nx Tryz.underlying113 (by kernel_rfl) (by kernel_rfl) h
  obtain ⟨_,z0⟩:=hf 0 _ rfl
  obtain ⟨_,z1⟩:=hf 1 _ rfl
  obtain ⟨_,z2⟩:=hf 2 _ rfl
  obtain ⟨_,z3⟩:=hf 3 _ rfl
  obtain ⟨_,z4⟩:=hf 4 _ rfl
  obtain ⟨x0,a0,b0,c0⟩:=nv.one z0
  obtain ⟨x1,a1,b1,c1⟩:=nv.one z1
  obtain ⟨x2,a2,b2,c2⟩:=nv.one z2
  obtain ⟨x3,a3,b3,c3⟩:=nv.one z3
  obtain ⟨x4,a4,b4,c4⟩:=nv.one z4
  refine ⟨⟨x0,x1,x2,x3,x4⟩,⟨a0,a1,a2,a3,a4⟩,hl,fun j hj=>?_⟩
  match j,hj with
  | 0,_=>exact ⟨b0,c0⟩
  | 1,_=>exact ⟨b1,c1⟩
  | 2,_=>exact ⟨b2,c2⟩
  | 3,_=>exact ⟨b3,c3⟩
  | 4,_=>exact ⟨b4,c4⟩⟩
theorem Ad {n:Nat}{cs:List Value}{y:DataW H×List MemPlace}(h:DataW.trod enc Tryz.prog w 0 spare held n 26 cs=some y):∃ x:Raw,nZ x∧cs.length=5∧∀ j,j < 5→RD (mr w) (cs.getD j undef) ((v4 x).getD j default):=by
  obtain ⟨hl,m,hf⟩:=nx Tryz.underlying26 (by kernel_rfl) (by kernel_rfl) h
  obtain ⟨_,z0⟩:=hf 0 _ rfl
  obtain ⟨_,z1⟩:=hf 1 _ rfl
  obtain ⟨_,z2⟩:=hf 2 _ rfl
  obtain ⟨_,z3⟩:=hf 3 _ rfl
  obtain ⟨_,z4⟩:=hf 4 _ rfl
  obtain ⟨x0,a0,b0,c0⟩:=nv.one z0
  obtain ⟨x1,a1,b1,c1⟩:=nv.one z1
  obtain ⟨x2,a2,b2,c2⟩:=zD.one z2
  obtain ⟨x3,a3,b3,c3⟩:=(zE.list (by kernel_rfl) (by kernel_rfl)).one z3
  obtain ⟨x4,a4,b4,c4⟩:=(zF.list (by kernel_rfl) (by kernel_rfl)).one z4
  refine ⟨⟨x0,x1,x2,x3,x4⟩,⟨a0,a1,a2,a3,a4⟩,hl,fun j hj=>?_⟩
  match j,hj with
  | 0,_=>exact c0
  | 1,_=>exact c1
  | 2,_=>exact c2
  | 3,_=>exact c3
  | 4,_=>exact c4
end
theorem SC.start {f:FuncId}{args:List AV}(sc:SC Tryz.prog f args [] (db true) []){w:World}(ht:∀ b k v,kc b k=some v→mr w b k=some v){vs:Array Value}(hs:vs.size=args.length)
    (hv:∀ i,i < args.length→RV ⟨mr w,fun _=>none,ht⟩ (vs.getD i undef) (args.getD i default)):Calls Tryz.prog f vs w fun e w'=>e = .returned (.bool true)∧Below w.heap.size w w':=by
  have hno:∀ b k,¬ cN ⟨mr w,fun _=>none,ht⟩ ([]:List ak) b k:=by
    rintro b k ⟨id,ob,p,h1,_⟩
    simp at h1
  refine sc.calls ⟨mr w,fun _=>none,ht⟩ w vs ⟨fun b o v h=>h,fun id ob h=>by simp at h,fun id h=>rfl,fun id h=>by simp at h,fun id ob p id' ob' p' hne h=>by simp at h,fun id ob p h=>by simp at h⟩ hs hv _ fun v w' G' hr hi he=>?_
  have hv:v = .bool true:=by
    cases hr with
    | d h=>cases h; rfl
  exact ⟨by rw [hv],he.pres.os,he.pres.tape,he.pres.output,he.pres.size,fun k hk=>he.pres.block k hk fun j hj=>hno _ _ hj⟩
end
end Go.Abs
namespace Go.Abs
open Go.Proofs Go.Proofs.YtmdmpichmdfmcaaGreatDoor
open Go.ChangeShapes Go.WideShapes Go.ChangeAt Go.RowKit Go.Deep
noncomputable section
theorem zU {n:Int}(h:(Lit.int .i64 n).wf=true) : -9223372036854775808≤n∧n≤9223372036854775807:=by
  simp [Lit.wf,IntKind.min,IntKind.max,IntKind.signed,IntKind.bits] at h
  omega
theorem tQ {x:Raw}(hx:nZ x){a b:Int}(ha:qQ a)(hb : -9223372036854775808≤b∧b≤9223372036854775807){w:World}(ht:∀ b k v,kc b k=some v→mr w b k=some v){cs:Array Value}(hl:cs.size=5)
    (hr:∀ j,j < 5→RD (mr w) (cs.toList.getD j undef) ((v4 x).getD j default)):Calls Tryz.prog 7 #[.agg cs,.int .u8 a,.int .i64 b] w fun e w'=>e = .returned (.bool true)∧Below w.heap.size w w':=by
  obtain ⟨k,hk⟩:=(vY hx ha hb).ex
  refine SC.start (kP k x a b true hk) ht rfl fun i hi=>?_
  match i,hi with
  | 0,_=>
    refine .agg cs _ (by rw [hl]; rfl) fun j hj=>?_
    have h5:j < 5:=hj
    have h:=hr j h5
    rw [List.getD_eq_getElem?_getD,Array.getElem?_toList,← Array.getD_eq_getD_getElem?] at h
    match j,h5 with
    | 0,_=>exact .d h
    | 1,_=>exact .d h
    | 2,_=>exact .d h
    | 3,_=>exact .d h
    | 4,_=>exact .d h
  | 1,_=>exact .d (.int _ _)
  | 2,_=>exact .d (.int _ _)
set_option maxRecDepth 100000 in
theorem rN (os:Os)(started:os.Started)(H:Type)(enc:TypeId×Value→H) :
    ReturnsInHanded {} Tryz.checked os 7 .any (fun w args=>(Rows.grammarDamageSpec.pre enc Tryz.prog Tryz.f7 [] false w args∧laidMetH Tryz.prog sQ w)∧sizedMet enc Tryz.prog Tryz.f7 (OpenSpec.ofChange Rows.grammarDamageSpec) false w args)
      (Rows.grammarDamageSpec.post enc Tryz.prog Tryz.f7 false true false false):=by
  refine returnsInHanded_of_change_and (C:=Tryz.checked) (X:=fun w _=>laidMetH Tryz.prog sQ w) (fun _ _ _ hh h=>h.of_heap hh) AB started (by kernel_rfl) Tryz.func7
    (ChangeSpec.witness_shaped (enc:=enc) (C:=Tryz.checked) (os:=os) (X:=fun w _=>laidMetH Tryz.prog sQ w) false (World.doorLaid Tryz.prog 400 os) #[.agg #[.int .u8 0,.int .u8 0,.slice none 0 0,.slice none 0 0,.slice none 0 0],.int .u8 0,.int .i64 0] 8 rfl (World.shaped_of_RefB (by kernel_rfl) (by kernel_rfl)) (by kernel_rfl) (by kernel_rfl) (by kernel_rfl) (xt os _)) ?_
  intro W base args ds gs before hval0 hW _ _ hL _
  have hval:∀ (j:Nat) t v,Tryz.f7.params[j]? = some t→args[j]? = some v→Value.okWide Tryz.prog W .any base t v:=hval0
  have hW':=hW
  obtain ⟨p,q,hA0,hV,rfl,hfz,hnd⟩:=hW
  have hA:DataW.TrodAll enc Tryz.prog W 0 (fun _=>true) true Tryz.f7.params.toList args.toList ds p:=hA0
  rw [Tryz.params7] at hA hval
  obtain ⟨v0,vs0,d0,ds0,p0,q0,hargs,rfl,rfl,h0,r0⟩:=trodAll_cons hA
  obtain ⟨v1,vs1,d1,ds1,p1,q1,rfl,rfl,rfl,h1,r1⟩:=trodAll_cons r0
  obtain ⟨v2,vs2,d2,ds2,p2,q2,rfl,rfl,rfl,h2,r2⟩:=trodAll_cons r1
  obtain ⟨rfl,rfl,rfl⟩:=trodAll_nil r2
  obtain rfl:args = #[v0,v1,v2]:=by cases args; simp_all
  obtain ⟨rfl,rfl⟩:=trodVars_none hV
  obtain ⟨a1,rfl,rfl,rfl,w1⟩:=open_int Tryz.underlying5 (hval 1 5 v1 rfl rfl) h1
  obtain ⟨a2,rfl,rfl,rfl,w2⟩:=open_int Tryz.underlying3 (hval 2 3 v2 rfl rfl) h2
  obtain ⟨cs,rfl,hcs⟩:=okWide_struct Tryz.underlying26 (hval 0 26 v0 rfl rfl)
  have k0:=h0
  have lt0:∀ x∈p0,x.block < W.heap.size:=by obtain ⟨m,hm⟩:=k0; exact DataW.trod_lt m _ _ _ hm
  obtain ⟨fuel,hf⟩:=h0
  obtain ⟨x,hx,hl,hr⟩:=Ad hf
  clear hA0 hval0
  refine (tQ hx (uQ w1) (zU w2) (y0 hL) (by simpa [Value.cells] using hl) (by simpa [Value.cells] using hr)).mono fun e W' ⟨he,bel⟩=>?_
  subst he
  exact ⟨_,rfl,_,_,_,[],_,[],hW',trodAll_mk1 (shut_bool Tryz.underlying4 _),trodAll_cons_mk (Below.trod laidAll (by kernel_rfl) (of_decide_eq_true (by kernel_rfl)) k0 bel lt0) (trodAll_cons_mk (shut_int Tryz.underlying5 w1) (trodAll_cons_mk (shut_int Tryz.underlying3 w2) trodAll_mk0)),rfl,bel.frame _,fun h=>by cases h⟩
theorem u9:Rows.GrammarDamageSaid:=
  OpenClaim.holds_of_wide 7 Tryz.f7 rfl rfl rfl rfl rfl rfl rfl ⟨rfl,rfl,rfl,rfl,rfl⟩ rfl rfl rfl rfl rfl (by kernel_rfl) Tryz.func7 (by kernel_rfl)
    (of_decide_eq_true (by kernel_rfl)) (by unfold Func.isWrapper; first | (rw [if_pos (by decide +kernel)]; kernel_rfl) | (rw [if_neg (by decide +kernel)]; exact ⟨rfl,rfl⟩))
    (fun os started H enc _=>rN os started H enc)
theorem damage_card:Rows.GrammarDamageCardSaid:=
  Claim7.holds_tied_plain_at .later [] [.data] true (true, "d5f1b50e323889bc6b99359835e51e16937d01c75c23e972f5b914523aca0c6e") false
    u9 (fun _ h=>by cases h) (by kernel_rfl) (fun _ h=>by cases h) grammarDamage_row_tie rfl ⟨rfl,rfl⟩ (by kernel_rfl) rfl
    (fun f fn hf hfn=>by
      obtain rfl:f=7:=Option.some.inj ((show Tryz.prog.funcNamed "koine/koinelaw05.GrammarDamage" = some 7 by kernel_rfl).symm.trans hf) |>.symm
      obtain rfl:fn=Tryz.f7:=(Option.some.inj (Tryz.func7.symm.trans hfn)).symm
      exact ⟨by kernel_rfl,fun j t ht=>by
        rw [Tryz.params7] at ht
        have hm:t∈[26,5,3]:=by simpa using Array.mem_of_getElem? ht
        have hall:([26,5,3].all fun u=>!Tryz.prog.wantsStandIn u)=true:=by kernel_rfl
        exact (show Tryz.prog.wantsStandIn t=false by simpa using List.all_eq_true.1 hall t hm)⟩)
    (by kernel_rfl)
end
end Go.Abs
namespace Go.Proofs.YtmdmpichmdfmcaaGreatDoor
theorem grammarDamage_holds : Rows.GrammarDamageCardSaid := Go.Abs.damage_card
#print axioms grammarDamage_holds
end Go.Proofs.YtmdmpichmdfmcaaGreatDoor
