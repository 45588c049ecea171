/- Part 0 of what the claim stands on: an abstract calculus of the program's steps, what each function computes, and the plain law. -/
import Derived.Tactics
import Derived.LoopN
import Derived.Orders
import Derived.Laws.Sem
import Derived.Laws.Cells
import Derived.Laws.Entries
import Derived.Laws.Slices
import Derived.Laws.Strings
import Derived.Laws.Small
import Derived.Laws.StructEq
import Derived.Laws.Append
import Derived.Laws.CopyRow
import Derived.Laws.MakeOwn
import Derived.Laws.Strings2
import Derived.Laws.Strings3
import Derived.DeepKeys4
import Derived.WideKeyMaps
set_option linter.all false
namespace Go.Abs
noncomputable def tH:List Int:=[0,1,56,2,57,49,28,3,61,58,42,50,38,29,17,4,62,47,59,36,45,43,51,22,53,39,33,30,24,18,12,5,63,55,48,27,60,41,37,16,46,35,44,21,52,32,23,11,54,26,40,15,34,20,31,10,25,14,19,9,13,8,7,6]
noncomputable def kc (b k:Nat):Option Value:=if b=0 then (tH[k]?).map (Value.int .u8) else none
end Go.Abs
namespace Go.Abs
inductive D where
  | bool (b:Bool)
  | int (k:IntKind) (n:Int)
  | str (s:ByteArray)
  | nilp | nilf | nilm | nili
  | fn (f:FuncId)
  | sl (n sz:Nat) (get:Nat→Nat→D)
  | agg (cs:List D)
  deriving Inhabited
inductive AV where
  | d (x:D)
  | agg (cs:List AV)
  | tup (vs:List AV)
  | ptr (id off:Nat)
  | eptr (id i k sz:Nat)
  | vp (n:Nat) (get:Nat→D)
  | osl (id off n sz:Nat)
  | mp (id:Nat)
  | clo (f:FuncId) (first caps:List AV)
  | nsl
  | rsl (es:List AV)
  | rp (v:AV)
  | bad
  deriving Inhabited
inductive aQ where
  | var (cs:List AV)
  | arr (sz n:Nat) (ex:Bool) (get:Nat→Nat→D)
  | mp (es:List (D×D))
  deriving Inhabited
inductive ak where
  | live (o:aQ)
  | freed
  | resv
  deriving Inhabited
inductive RD (I:Nat→Nat→Option Value):Value→D→Prop
  | bool (b):RD I (.bool b) (.bool b)
  | int (k n):RD I (.int k n) (.int k n)
  | str (s):RD I (.string s) (.str s)
  | nilp:RD I (.pointer none) .nilp
  | nilf:RD I .nilFunc .nilf
  | nilm:RD I (.map none) .nilm
  | nili:RD I .nilIface .nili
  | fn (f):RD I (.func (.func f) #[] #[]) (.fn f)
  | sl0 (a c sz get):RD I (.slice a 0 c) (.sl 0 sz get)
  | sl (b o n c sz get) (u:Nat→Nat→Value) (hc:n≤c) (hI:∀ i,i < n→∀ j,j < sz→I b (o+i*sz+j)=some (u i j)) (ho:∀ i,i < n→∀ j,j < sz→(u i j).oneCell'=true)
      (hr:∀ i,i < n→∀ j,j < sz→RD I (u i j) (get i j)):RD I (.slice (some ⟨b,o,none⟩) n c) (.sl n sz get)
  | agg (vs:Array Value) (cs:List D) (hl:vs.size=cs.length) (h:∀ i,i < cs.length→RD I (vs.getD i undef) (cs.getD i default)):RD I (.agg vs) (.agg cs)
structure Gh where
  I:Nat→Nat→Option Value
  ρ:Nat→Option (Nat×Nat×Nat)
  tab:∀ b k v,kc b k=some v→I b k=some v
inductive RV (G:Gh):Value→AV→Prop
  | d {v x} (h:RD G.I v x):RV G v (.d x)
  | agg (vs:Array Value) (cs:List AV) (hl:vs.size=cs.length) (h:∀ i,i < cs.length→RV G (vs.getD i undef) (cs.getD i default)):RV G (.agg vs) (.agg cs)
  | tup (vs:Array Value) (cs:List AV) (hl:vs.size=cs.length) (h:∀ i,i < cs.length→RV G (vs.getD i undef) (cs.getD i default)):RV G (.tuple vs) (.tup cs)
  | ptr {id b o e} (off) (h:G.ρ id=some (b,o,e)):RV G (.pointer (some ⟨b,o+off,none⟩)) (.ptr id off)
  | eptr {id b o e} (i k sz) (h:G.ρ id=some (b,o,e)):RV G (.pointer (some ⟨b,o+i*sz+k,none⟩)) (.eptr id i k sz)
  | vp {n get} (b o) (u:Nat→Value) (hI:∀ j,j < n→G.I b (o+j)=some (u j)) (hr:∀ j,j < n→RD G.I (u j) (get j)):RV G (.pointer (some ⟨b,o,none⟩)) (.vp n get)
  | osl {id b o e} (ad:Option Addr) (off n sz c) (h:G.ρ id=some (b,o,e)) (hc:o+(off+c)*sz=e) (hn:n≤c) (had:ad=some ⟨b,o+off*sz,none⟩∨(ad=none∧c=0)):RV G (.slice ad n c) (.osl id off n sz)
  | mp {id b o e} (h:G.ρ id=some (b,o,e)):RV G (.map (some b)) (.mp id)
  | clo (f) (vs us:Array Value) (fs cs:List AV) (hl:vs.size=fs.length) (h:∀ i,i < fs.length→RV G (vs.getD i undef) (fs.getD i default))
      (hl':us.size=cs.length) (h':∀ i,i < cs.length→RV G (us.getD i undef) (cs.getD i default)):RV G (.func (.func f) vs us) (.clo f fs cs)
  | nsl:RV G (.slice none 0 0) .nsl
  | rsl (b o c) (us:Array Value) (es:List AV) (hl:us.size=es.length) (hc:es.length≤c) (hI:∀ i,i < es.length→G.I b (o+i)=some (us.getD i undef))
      (h:∀ i,i < es.length→RV G (us.getD i undef) (es.getD i default)):RV G (.slice (some ⟨b,o,none⟩) es.length c) (.rsl es)
  | rp (b o) (u:Value) {v:AV} (hI:G.I b o=some u) (h:RV G u v):RV G (.pointer (some ⟨b,o,none⟩)) (.rp v)
  | bad (v):RV G v .bad
theorem RD.mono {I I':Nat→Nat→Option Value}(hI:∀ b o v,I b o=some v→I' b o=some v){v x}(h:RD I v x):RD I' v x:=by
  induction h with
  | bool b=>exact .bool b
  | int k n=>exact .int k n
  | str s=>exact .str s
  | nilp=>exact .nilp
  | nilf=>exact .nilf
  | nilm=>exact .nilm
  | nili=>exact .nili
  | fn f=>exact .fn f
  | sl0 a c sz get=>exact .sl0 a c sz get
  | sl b o n c sz get u hc hI' ho hr ih=>exact .sl b o n c sz get u hc (fun i hi j hj=>hI _ _ _ (hI' i hi j hj)) ho ih
  | agg vs cs hl h ih=>exact .agg vs cs hl ih
structure Gh.Le (G G':Gh):Prop where
  I:∀ b o v,G.I b o=some v→G'.I b o=some v
  ρ:∀ id p,G.ρ id=some p→G'.ρ id=some p
theorem Gh.Le.refl (G:Gh):G.Le G:=⟨fun _ _ _ h=>h,fun _ _ h=>h⟩
theorem Gh.Le.trans {G G' G'':Gh}(h:G.Le G')(k:G'.Le G''):G.Le G'':=⟨fun _ _ _ x=>k.I _ _ _ (h.I _ _ _ x),fun _ _ x=>k.ρ _ _ (h.ρ _ _ x)⟩
theorem RV.mono {G G':Gh}(hG:G.Le G'){v x}(h:RV G v x):RV G' v x:=by
  induction h with
  | d h=>exact .d (h.mono hG.I)
  | agg vs cs hl h ih=>exact .agg vs cs hl ih
  | tup vs cs hl h ih=>exact .tup vs cs hl ih
  | ptr off h=>exact .ptr off (hG.ρ _ _ h)
  | eptr i k sz h=>exact .eptr i k sz (hG.ρ _ _ h)
  | vp b o u hI hr=>exact .vp b o u (fun j hj=>hG.I _ _ _ (hI j hj)) (fun j hj=>(hr j hj).mono hG.I)
  | osl ad off n sz c h hc hn had=>exact .osl ad off n sz c (hG.ρ _ _ h) hc hn had
  | mp h=>exact .mp (hG.ρ _ _ h)
  | clo f vs us fs cs hl h hl' h' ih ih'=>exact .clo f vs us fs cs hl ih hl' ih'
  | nsl=>exact .nsl
  | rsl b o c us es hl hc hI h ih=>exact .rsl b o c us es hl hc (fun i hi=>hG.I _ _ _ (hI i hi)) ih
  | rp b o u hI h ih=>exact .rp b o u (hG.I _ _ _ hI) ih
  | bad v=>exact .bad v
noncomputable def bX (p:Nat×Nat×Nat):aQ→Nat→Nat→Prop
  | .var cs,b,k=>b=p.1∧p.2.1≤k∧k < p.2.1+cs.length
  | .arr _ _ _ _,b,k=>b=p.1∧p.2.1≤k∧k < p.2.2
  | .mp _,b,_=>b=p.1
noncomputable def bH (G:Gh)(w:World)(p:Nat×Nat×Nat):aQ→Prop
  | .var cs=>p.1 < w.heap.size∧∀ i,i < cs.length→∃ v,w.cell? ⟨p.1,p.2.1+i,none⟩=some v∧w.frozen? ⟨p.1,p.2.1+i,none⟩=false∧RV G v (cs.getD i default)
  | .arr sz n ex get=>(p.1 < w.heap.size∨p.2.2=p.2.1)∧(∀ i,i < n→∀ j,j < sz→∃ v,w.cell? ⟨p.1,p.2.1+i*sz+j,none⟩=some v∧v.oneCell'=true∧RD G.I v (get i j))∧
      (∀ k,p.2.1≤k→k < p.2.2→∃ v,w.cell? ⟨p.1,k,none⟩=some v∧w.frozen? ⟨p.1,k,none⟩=false)∧p.2.1+n*sz≤p.2.2∧(ex=true→p.2.2=p.2.1+n*sz)∧0 < sz
  | .mp es=>∃ (ents:Array MapEntry) (clock:Nat),w.heap[p.1]? = some (.map ents clock)∧ents.size=es.length∧
      (∀ i,i < es.length→RD G.I (ents.getD i default).key (es.getD i default).1∧RD G.I (ents.getD i default).val (es.getD i default).2)∧
      ∀ i j,i < es.length→j < es.length→(ents.getD i default).key=(ents.getD j default).key→i=j
structure Inv (G:Gh)(h:List ak)(w:World):Prop where
  imm:∀ b o v,G.I b o=some v→w.cell? ⟨b,o,none⟩=some v
  obj:∀ id ob,h[id]? = some (.live ob)→∃ p,G.ρ id=some p∧bH G w p ob
  fresh:∀ id,h.length≤id→G.ρ id=none
  resv:∀ id,h[id]? = some .resv→G.ρ id=none
  disj:∀ id ob p id' ob' p',id≠id'→h[id]? = some (.live ob)→G.ρ id=some p→h[id']? = some (.live ob')→G.ρ id'=some p'→∀ b k,bX p ob b k→¬ bX p' ob' b k
  free:∀ id ob p,h[id]? = some (.live ob)→G.ρ id=some p→∀ b k,bX p ob b k→G.I b k=none
theorem Inv.blk {G:Gh}{h:List ak}{w:World}(hi:Inv G h w){i:Nat}{ob:aQ}{p:Nat×Nat×Nat}(h1:h[i]? = some (.live ob))(h2:G.ρ i=some p){b k:Nat}(f:bX p ob b k):p.1 < w.heap.size:=by
  obtain ⟨p',h3,h4⟩:=hi.obj i ob h1
  rw [h2] at h3; cases h3
  cases ob with
  | var cs=>exact h4.1
  | arr sz n ex get=>
    rcases h4.1 with x | x
    · exact x
    · have f1:p.2.1≤k:=f.2.1
      have f2:k < p.2.2:=f.2.2
      omega
  | mp es=>obtain ⟨ents,clock,h5,_⟩:=h4; exact (Array.getElem?_eq_some_iff.1 h5).1
noncomputable def cN (G:Gh)(h:List ak)(b k:Nat):Prop:=∃ id ob p,h[id]? = some (.live ob)∧G.ρ id=some p∧bX p ob b k
structure bd (F:Nat→Nat→Prop)(w w':World):Prop where
  size:w.heap.size≤w'.heap.size
  block:∀ b,b < w.heap.size→(∀ k,¬ F b k)→w'.heap[b]? = w.heap[b]?
  cell:∀ b k v,¬ F b k→w.cell? ⟨b,k,none⟩=some v→w'.cell? ⟨b,k,none⟩=some v
  froz:∀ b k v,¬ F b k→w.cell? ⟨b,k,none⟩=some v→w'.frozen? ⟨b,k,none⟩=w.frozen? ⟨b,k,none⟩
  os:w'.os=w.os
  tape:w'.tape=w.tape
  output:w'.output=w.output
theorem bd.refl (F)(w:World):bd F w w:=⟨Nat.le_refl _,fun _ _ _=>rfl,fun _ _ _ _ h=>h,fun _ _ _ _ _=>rfl,rfl,rfl,rfl⟩
theorem bd.imp {F F':Nat→Nat→Prop}{w w':World}(h:bd F w w')(hf:∀ b k,F b k→F' b k):bd F' w w':=
  ⟨h.size,fun b hb hk=>h.block b hb fun k hk'=>hk k (hf _ _ hk'),fun b k v hn=>h.cell b k v fun x=>hn (hf _ _ x),fun b k v hn=>h.froz b k v fun x=>hn (hf _ _ x),h.os,h.tape,h.output⟩
theorem dw {w:World}{b k:Nat}{s:Option Nat}{v:Value}(h:w.cell? ⟨b,k,s⟩=some v):b < w.heap.size:=by
  unfold World.cell? at h
  split at h
  · rename_i heq
    exact (Array.getElem?_eq_some_iff.1 heq).1
  · cases h
theorem bd.trans {F F':Nat→Nat→Prop}{w w1 w2:World}(h:bd F w w1)(k:bd F' w1 w2)(hf:∀ b k,F' b k→F b k∨w.heap.size≤b):bd F w w2:=by
  refine ⟨Nat.le_trans h.size k.size,fun b hb hk=>?_,fun b j v hn hc=>?_,fun b j v hn hc=>?_,k.os.trans h.os,k.tape.trans h.tape,k.output.trans h.output⟩
  · rw [k.block b (Nat.lt_of_lt_of_le hb h.size) (fun j hj=>by rcases hf _ _ hj with x | x; exact hk j x; omega),h.block b hb hk]
  · have hb:=dw hc
    exact k.cell b j v (fun x=>by rcases hf _ _ x with y | y; exact hn y; omega) (h.cell b j v hn hc)
  · have hb:=dw hc
    rw [k.froz b j v (fun x=>by rcases hf _ _ x with y | y; exact hn y; omega) (h.cell b j v hn hc),h.froz b j v hn hc]
structure jE (m:Nat)(G:Gh)(h:List ak)(w:World)(G':Gh)(h':List ak)(w':World):Prop where
  pres:bd (cN G h) w w'
  imono:∀ b o v,G.I b o=some v→G'.I b o=some v
  inew:∀ b o v,G'.I b o=some v→G.I b o=some v∨cN G h b o∨w.heap.size≤b
  fnew:∀ b k,cN G' h' b k→cN G h b k∨w.heap.size≤b
  rmono:∀ id p,id < m→G.ρ id=some p→G'.ρ id=some p
theorem jE.refl (m:Nat)(G:Gh)(h:List ak)(w:World):jE m G h w G h w:=⟨bd.refl _ _,fun _ _ _ x=>x,fun _ _ _ x=>.inl x,fun _ _ x=>.inl x,fun _ _ _ x=>x⟩
theorem jE.trans {m:Nat}{G G1 G2:Gh}{h h1 h2:List ak}{w w1 w2:World}(e:jE m G h w G1 h1 w1)(f:jE m G1 h1 w1 G2 h2 w2):jE m G h w G2 h2 w2:=by
  refine ⟨e.pres.trans f.pres e.fnew,fun b o v x=>f.imono _ _ _ (e.imono _ _ _ x),fun b o v x=>?_,fun b k x=>?_,fun id p hid x=>f.rmono _ _ hid (e.rmono _ _ hid x)⟩
  · rcases f.inew _ _ _ x with y | y | y
    · exact e.inew _ _ _ y
    · exact .inr (e.fnew _ _ y)
    · exact .inr (.inr (Nat.le_trans e.pres.size y))
  · rcases f.fnew _ _ x with y | y
    · exact e.fnew _ _ y
    · exact .inr (Nat.le_trans e.pres.size y)
theorem bH.frame {G G':Gh}{w w':World}{F:Nat→Nat→Prop}(hp:bd F w w')(hG:G.Le G'){p ob}(h:bH G w p ob)(hd:∀ b k,bX p ob b k→¬ F b k):bH G' w' p ob:=by
  cases ob with
  | var cs=>
    refine ⟨Nat.lt_of_lt_of_le h.1 hp.size,fun i hi=>?_⟩
    obtain ⟨v,hc,hf,hr⟩:=h.2 i hi
    have hn:¬ F p.1 (p.2.1+i):=hd _ _ ⟨rfl,by omega,by omega⟩
    exact ⟨v,hp.cell _ _ _ hn hc,by rw [hp.froz _ _ _ hn hc,hf],hr.mono hG⟩
  | arr sz n ex get=>
    obtain ⟨hb,hc,hk,hle,hex,hsz⟩:=h
    refine ⟨hb.imp (fun x=>Nat.lt_of_lt_of_le x hp.size) id,fun i hi j hj=>?_,fun k h1 h2=>?_,hle,hex,hsz⟩
    · obtain ⟨v,hc',ho,hr⟩:=hc i hi j hj
      have:i*sz+j < n*sz:=by
        have:(i+1)*sz≤n*sz:=Nat.mul_le_mul_right _ hi
        rw [Nat.add_mul] at this
        omega
      exact ⟨v,hp.cell _ _ _ (hd _ _ ⟨rfl,by omega,by omega⟩) hc',ho,hr.mono hG.I⟩
    · obtain ⟨v,hc',hf⟩:=hk k h1 h2
      have hn:¬ F p.1 k:=hd _ _ ⟨rfl,h1,h2⟩
      exact ⟨v,hp.cell _ _ _ hn hc',by rw [hp.froz _ _ _ hn hc',hf]⟩
  | mp es=>
    obtain ⟨ents,clock,hh,hs,hr,hu⟩:=h
    have hb:p.1 < w.heap.size:=(Array.getElem?_eq_some_iff.1 hh).1
    exact ⟨ents,clock,by rw [hp.block _ hb (fun k=>hd _ _ rfl)]; exact hh,hs,fun i hi=>⟨(hr i hi).1.mono hG.I,(hr i hi).2.mono hG.I⟩,hu⟩
theorem fu (w:World)(o:Obj):(w.alloc o).heap=w.heap.push o:=rfl
theorem mL {w:World}{o:Obj}{b k:Nat}{v:Value}(h:w.cell? ⟨b,k,none⟩=some v):(w.alloc o).cell? ⟨b,k,none⟩=some v:=by
  have hb:=dw h
  unfold World.cell? at *
  rw [fu,Array.getElem?_push,if_neg (Nat.ne_of_lt hb)]; exact h
theorem tV {w:World}{o:Obj}{b k:Nat}(hb:b < w.heap.size):(w.alloc o).frozen? ⟨b,k,none⟩=w.frozen? ⟨b,k,none⟩:=by
  unfold World.frozen?
  rw [fu,Array.getElem?_push,if_neg (Nat.ne_of_lt hb)]
theorem bd.alloc (F)(w:World)(o:Obj):bd F w (w.alloc o):=by
  refine ⟨by rw [fu,Array.size_push]; omega,fun b hb _=>?_,fun b k v _ h=>mL h,fun b k v _ h=>tV (dw h),rfl,rfl,rfl⟩
  rw [fu,Array.getElem?_push,if_neg (Nat.ne_of_lt hb)]
theorem bd.drew (F)(w:World)(n:Nat):bd F w { w with drawn:=n }:=⟨Nat.le_refl _,fun _ _ _=>rfl,fun _ _ _ _ h=>h,fun _ _ _ _ _=>rfl,rfl,rfl,rfl⟩
theorem jl {w:World}{b k:Nat}{u v:Value}(h:w.cell? ⟨b,k,none⟩=some u):(w.setCell ⟨b,k,none⟩ v).cell? ⟨b,k,none⟩=some v:=by
  unfold World.cell? World.setCell at *
  simp only [Array.getElem?_modify] at *
  cases hh:w.heap[b]? with
  | none=>rw [hh] at h; simp at h
  | some o=>
    rw [hh] at h
    cases o <;> simp at h ⊢
    rename_i c e f
    rw [Array.getElem?_setIfInBounds_self_of_lt]
    exact (Array.getElem?_eq_some_iff.1 h).1
theorem iH {w:World}{b k b' k':Nat}{v:Value}(hne:¬ (b'=b∧k'=k)):(w.setCell ⟨b,k,none⟩ v).cell? ⟨b',k',none⟩=w.cell? ⟨b',k',none⟩:=by
  unfold World.cell? World.setCell
  simp only [Array.getElem?_modify]
  by_cases hb:b=b'
  · subst hb
    have hk:k≠k':=fun h=>hne ⟨rfl,h.symm⟩
    cases hh:w.heap[b]? with
    | none=>simp [hh]
    | some o=>cases o <;> simp [hh,Array.getElem?_setIfInBounds,hk]
  · simp [hb]
theorem il {w:World}{b k:Nat}{v:Value}{a:Addr}:(w.setCell ⟨b,k,none⟩ v).frozen? a=w.frozen? a:=by
  unfold World.frozen? World.setCell
  simp only [Array.getElem?_modify]
  by_cases hb:b=a.block
  · subst hb
    cases hh:w.heap[a.block]? with
    | none=>simp [hh]
    | some o=>cases o <;> simp [hh]
  · simp [hb]
theorem ph (w:World)(a:Addr)(v:Value):(w.setCell a v).heap.size=w.heap.size:=by simp [World.setCell]
theorem qy {w:World}{b k b':Nat}{v:Value}(h:b≠b'):(w.setCell ⟨b,k,none⟩ v).heap[b']? = w.heap[b']?:=by
  simp [World.setCell,Array.getElem?_modify,h]
theorem bd.set {F:Nat→Nat→Prop}(w:World){b k:Nat}(v:Value)(hF:F b k):bd F w (w.setCell ⟨b,k,none⟩ v):=by
  refine ⟨by rw [ph]; exact Nat.le_refl _,fun b' hb hk=>?_,fun b' k' u hn h=>?_,fun b' k' u hn h=>il,rfl,rfl,rfl⟩
  · exact qy (fun h=>hk k (h▸hF))
  · rw [iH (fun x=>hn (by rw [x.1,x.2]; exact hF))]; exact h
end Go.Abs
namespace Go.Abs
noncomputable def look:List (Nat×AV)→Nat→Option AV
  | [],_=>none
  | (i,v)::r,j=>bif i.beq j then some v else look r j
noncomputable def v6:Value→AV
  | .bool b=>.d (.bool b)
  | .int k n=>.d (.int k n)
  | .string s=>.d (.str s)
  | .pointer none=>.d .nilp
  | .slice none 0 0=>.nsl
  | .map none=>.d .nilm
  | .nilFunc=>.d .nilf
  | .nilIface=>.d .nili
  | _=>.bad
noncomputable def rU (g:Nat):AV:=match g with
  | 0=>.vp 64 fun j=>.int .u8 (tH.getD j 0)
  | _=>.bad
theorem xz (G:Gh)(g:Nat):RV G (.pointer (some ⟨g,0,none⟩)) (rU g):=by
  unfold rU
  split
  · refine .vp 0 0 (fun j=>.int .u8 (tH.getD j 0)) (fun j hj=>G.tab _ _ _ ?_) (fun j hj=>.int _ _)
    have hl:j < tH.length:=hj
    rw [Nat.zero_add]
    simp [kc,List.getElem?_eq_getElem hl]
  · exact .bad _
noncomputable def ax (ts:List (Nat×AV)):Operand→AV
  | .tmp t=>(look ts t).getD .bad
  | .const v=>v6 v
  | .func f=>.d (.fn f)
  | .global g=>rU g
noncomputable def RT (G:Gh)(a:Act)(ts:List (Nat×AV)):Prop:=∀ i v,look ts i=some v→RV G (a.tmps.getD i undef) v
theorem v7 (G:Gh)(v:Value):RV G v (v6 v):=by
  unfold v6
  split <;> first | exact .d (.bool _) | exact .d (.int _ _) | exact .d (.str _) | exact .d .nilp | exact .nsl | exact .d .nilm | exact .d .nilf | exact .d .nili | exact .bad _
theorem RT.ev {G:Gh}{a:Act}{ts:List (Nat×AV)}(h:RT G a ts)(x:Operand):RV G (a.eval x) (ax ts x):=by
  cases x with
  | tmp t=>
    show RV G (a.tmps.getD t undef) ((look ts t).getD .bad)
    cases hl:look ts t with
    | none=>exact .bad _
    | some v=>exact h t v hl
  | const v=>exact v7 G v
  | global g=>exact xz G g
  | func f=>exact .d (.fn f)
theorem RT.ev_of {G:Gh}{a:Act}{ts:List (Nat×AV)}(h:RT G a ts){x:Operand}{v:AV}(e:ax ts x=v):RV G (a.eval x) v:=e▸h.ev x
theorem RT.mono {G G':Gh}{a:Act}{ts:List (Nat×AV)}(h:RT G a ts)(hG:G.Le G'):RT G' a ts:=fun i v hl=>(h i v hl).mono hG
theorem RT.put {G:Gh}{a:Act}{ts:List (Nat×AV)}(h:RT G a ts){d:Nat}{val:Value}{v:AV}(hd:d < a.tmps.size)(hv:RV G val v):RT G (a.put (some d) val) ((d,v)::ts):=by
  intro i u hl
  simp only [look] at hl
  cases hb:d.beq i with
  | true=>
    rw [hb] at hl
    simp only [cond_true,Option.some.injEq] at hl
    subst hl
    obtain rfl:d=i:=Nat.eq_of_beq_eq_true hb
    simp [Act.put,Array.getD_eq_getD_getElem?,Array.getElem?_setIfInBounds,hd]
    exact hv
  | false=>
    rw [hb] at hl
    simp only [cond_false] at hl
    have hne:d≠i:=Nat.ne_of_beq_eq_false hb
    have:=h i u hl
    simp [Act.put,Array.getD_eq_getD_getElem?,Array.getElem?_setIfInBounds,hne] at this ⊢
    exact this
structure St where
  ts:List (Nat×AV)
  h:List ak
structure d5 (G:Gh)(h:List ak)(w:World)(G':Gh)(h':List ak)(w':World):Prop where
  le:G.Le G'
  pres:bd (cN G h) w w'
  inew:∀ b o v,G'.I b o=some v→G.I b o=some v∨cN G h b o∨w.heap.size≤b
  fnew:∀ b k,cN G' h' b k→cN G h b k∨w.heap.size≤b
theorem d5.refl (G:Gh)(h:List ak)(w:World):d5 G h w G h w:=⟨.refl _,bd.refl _ _,fun _ _ _ x=>.inl x,fun _ _ x=>.inl x⟩
theorem d5.ext {G:Gh}{h:List ak}{w:World}{G':Gh}{h':List ak}{w':World}(e:d5 G h w G' h' w')(m:Nat):jE m G h w G' h' w':=
  ⟨e.pres,e.le.I,e.inew,e.fnew,fun id p _ x=>e.le.ρ id p x⟩
noncomputable def ae (P:Program)(o:Oper)(ts:List (Nat×AV))(h:List ak)(v:AV)(h':List ak):Prop:=
  ∀ (G:Gh) (a:Act) (w:World),Inv G h w→RT G a ts→∀ (next:Act→World→Prop) (Q:Exit→Act→World→Prop),
    (∀ val w' G',RV G' val v→Inv G' h' w'→d5 G h w G' h' w'→next (a.put o.dst val) w')→o.wp P a w next Q
theorem ae.value {P:Program}{o:Oper}{ts:List (Nat×AV)}{h h':List ak}{v:AV}
    (H:∀ G a w,Inv G h w→RT G a ts→∃ val w' G',(execOp a.eval o).run P w = .ok (.value val) w'∧RV G' val v∧Inv G' h' w'∧d5 G h w G' h' w'):ae P o ts h v h':=by
  intro G a w hi hr next Q hn
  obtain ⟨val,w',G',hrun,h1,h2,h3⟩:=H G a w hi hr
  unfold Oper.wp
  rw [hrun]
  exact hn val w' G' h1 h2 h3
theorem ae.same {P:Program}{o:Oper}{ts:List (Nat×AV)}{h:List ak}{v:AV}
    (H:∀ G a w,Inv G h w→RT G a ts→∃ val,(execOp a.eval o).run P w = .ok (.value val) w∧RV G val v):ae P o ts h v h:=
  ae.value fun G a w hi hr=>let ⟨val,h1,h2⟩:=H G a w hi hr; ⟨val,w,G,h1,h2,hi,.refl _ _ _⟩
theorem ae.skip {P:Program}{o:Oper}{ts:List (Nat×AV)}{h h':List ak}
    (H:∀ G a w,Inv G h w→RT G a ts→∃ w' G',(execOp a.eval o).run P w = .ok .skip w'∧Inv G' h' w'∧d5 G h w G' h' w'):ae P o ts h .bad h':=by
  intro G a w hi hr next Q hn
  obtain ⟨w',G',hrun,h2,h3⟩:=H G a w hi hr
  unfold Oper.wp
  rw [hrun]
  exact hn undef w' G' (.bad _) h2 h3
noncomputable def ab (P:Program)(N m:Nat)(ops:Array Oper)(l:List Oper)(s:St)(Q:St→Prop):Prop:=
  ∀ (G:Gh) (a:Act) (w:World),a.tmps.size=N→Inv G s.h w→RT G a s.ts→∀ (Qc:Exit→Act→World→Prop),
    (∀ a' w' G' s',Q s'→a'.tmps.size=N→a'.defers=a.defers→Inv G' s'.h w'→RT G' a' s'.ts→jE m G s.h w G' s'.h w'→Qc .normal a' w')→wpList P ops Qc l a w
noncomputable def aa (P:Program)(N m:Nat)(c:Code)(s:St)(Q:Exit→St→Prop):Prop:=
  ∀ (G:Gh) (a:Act) (w:World),a.tmps.size=N→Inv G s.h w→RT G a s.ts→∀ (Qc:Exit→Act→World→Prop),
    (∀ e a' w' G' s',Q e s'→a'.tmps.size=N→a'.defers=a.defers→Inv G' s'.h w'→RT G' a' s'.ts→jE m G s.h w G' s'.h w'→Qc e a' w')→c.wp P Qc a w
noncomputable def GStep (m:Nat)(s s':St):Prop:=
  ∀ (G:Gh) (a:Act) (w:World),Inv G s.h w→RT G a s.ts→∃ G',Inv G' s'.h w∧RT G' a s'.ts∧jE m G s.h w G' s'.h w
section
variable {P:Program}{N m:Nat}{ops:Array Oper}{l:List Oper}{s s':St}{Q:St→Prop}{o:Oper}
theorem ab.nil (h:Q s):ab P N m ops [] s Q:=by
  intro G a w hN hi hr Qc hq
  exact hq a w G s h hN rfl hi hr (.refl _ _ _ _)
theorem ab.ghost (hs:GStep m s s')(h:ab P N m ops l s' Q):ab P N m ops l s Q:=by
  intro G a w hN hi hr Qc hq
  obtain ⟨G',h1,h2,h3⟩:=hs G a w hi hr
  exact h G' a w hN h1 h2 Qc fun a' w' G'' s'' q hN' hd hi' hr' he=>hq a' w' G'' s'' q hN' hd hi' hr' (h3.trans he)
theorem fP (a:Act)(d:Option Tmp)(v:Value):(a.put d v).tmps.size=a.tmps.size:=by cases d <;> simp [Act.put]
theorem put_defers (a:Act)(d:Option Tmp)(v:Value):(a.put d v).defers=a.defers:=by cases d <;> simp [Act.put]
theorem ab.step {d:Nat}{v:AV}{h':List ak}(hop:ae P o s.ts s.h v h')(hg:o.guard=none)(hd:o.dst=some d)(hN:Nat.blt d N=true)
    (next:ab P N m ops l ⟨(d,v)::s.ts,h'⟩ Q):ab P N m ops (o::l) s Q:=by
  intro G a w hsz hi hr Qc hq
  have hd':d < N:=by simpa using hN
  simp only [wpList,Region.wanted,hg,if_true]
  refine .inl (hop G a w hi hr _ _ fun val w' G' h1 h2 h3=>?_)
  refine next G' _ w' (by rw [fP]; exact hsz) h2 (by rw [hd]; exact (hr.mono h3.le).put (by omega) h1) Qc fun a' w'' G'' s'' q hN' hdf hi' hr' he=>?_
  exact hq a' w'' G'' s'' q hN' (by rw [hdf,put_defers]) hi' hr' ((h3.ext m).trans he)
theorem ab.step0 {v:AV}{h':List ak}(hop:ae P o s.ts s.h v h')(hg:o.guard=none)(hd:o.dst=none)
    (next:ab P N m ops l ⟨s.ts,h'⟩ Q):ab P N m ops (o::l) s Q:=by
  intro G a w hsz hi hr Qc hq
  simp only [wpList,Region.wanted,hg,if_true]
  refine .inl (hop G a w hi hr _ _ fun val w' G' h1 h2 h3=>?_)
  refine next G' _ w' (by rw [fP]; exact hsz) h2 (by rw [hd]; exact hr.mono h3.le) Qc fun a' w'' G'' s'' q hN' hdf hi' hr' he=>?_
  exact hq a' w'' G'' s'' q hN' (by rw [hdf,put_defers]) hi' hr' ((h3.ext m).trans he)
theorem ml {G:Gh}{a:Act}{ts:List (Nat×AV)}{j d:Nat}{b:Bool}(hr:RT G a ts)(hj:(ops[j]?).bind (·.dst)=some d)(hl:look ts d=some (.d (.bool b))):yielded ops a.tmps j=some b:=by
  have h:=hr d _ hl
  have hv:a.tmps.getD d undef = .bool b:=by
    generalize a.tmps.getD d undef=v at h
    cases h with
    | d h=>cases h; rfl
  unfold yielded
  rw [hj]
  simp only [Option.bind_some]
  cases hx:a.tmps[d]? with
  | none=>simp [Array.getD_eq_getD_getElem?,hx,undef] at hv
  | some x=>
    simp [Array.getD_eq_getD_getElem?,hx] at hv
    subst hv
    rfl
theorem ab.gstep {d j dj:Nat}{want b:Bool}{v:AV}{h':List ak}(hop:ae P o s.ts s.h v h')(hg:o.guard=some (j,want))(hj:(ops[j]?).bind (·.dst)=some dj)(hl:look s.ts dj=some (.d (.bool b)))(hb:b=want)
    (hd:o.dst=some d) (hN:Nat.blt d N=true) (next:ab P N m ops l ⟨(d,v)::s.ts,h'⟩ Q):ab P N m ops (o::l) s Q:=by
  intro G a w hsz hi hr Qc hq
  have hd':d < N:=by simpa using hN
  have hy:=ml hr hj hl
  simp only [wpList,Region.wanted,hg,hy,hb,beq_self_eq_true,if_true]
  refine .inl (hop G a w hi hr _ _ fun val w' G' h1 h2 h3=>?_)
  refine next G' _ w' (by rw [fP]; exact hsz) h2 (by rw [hd]; exact (hr.mono h3.le).put (by omega) h1) Qc fun a' w'' G'' s'' q hN' hdf hi' hr' he=>?_
  exact hq a' w'' G'' s'' q hN' (by rw [hdf,put_defers]) hi' hr' ((h3.ext m).trans he)
theorem kC {G:Gh}{v:Value}(h:v=undef):RV G v (.tup []):=by
  subst h
  exact .tup #[] [] rfl (fun i hi=>by simp at hi)
theorem my {G:Gh}{a:Act}{ts:List (Nat×AV)}{j d:Nat}(hr:RT G a ts)(hj:(ops[j]?).bind (·.dst)=some d)(hl:look ts d=some (.tup [])):yielded ops a.tmps j=none:=by
  have h:=hr d _ hl
  have hv:∃ vs,a.tmps.getD d undef = .tuple vs:=by
    generalize a.tmps.getD d undef=v at h
    cases h with
    | tup vs cs hl h=>exact ⟨vs,rfl⟩
  obtain ⟨vs,hv⟩:=hv
  unfold yielded
  rw [hj]
  simp only [Option.bind_some]
  cases hx:a.tmps[d]? with
  | none=>rfl
  | some x=>
    simp [Array.getD_eq_getD_getElem?,hx] at hv
    subst hv
    rfl
theorem ab.pass {j dj:Nat}{want b:Bool}(hg:o.guard=some (j,want))(hj:(ops[j]?).bind (·.dst)=some dj)(hl:look s.ts dj=some (.d (.bool b)))(hb:b = !want)
    (next:ab P N m ops l ⟨match o.dst with | some d=>(d,.tup [])::s.ts | none=>s.ts,s.h⟩ Q):ab P N m ops (o::l) s Q:=by
  intro G a w hsz hi hr Qc hq
  have hy:=ml hr hj hl
  have hw:Region.wanted o (yielded ops a.tmps)=false:=by
    simp only [Region.wanted,hg,hy,hb]
    cases want <;> rfl
  simp only [wpList,hw]
  refine next G _ w (by rw [fP]; exact hsz) hi ?_ Qc fun a' w'' G'' s'' q hN' hdf hi' hr' he=>hq a' w'' G'' s'' q hN' (by rw [hdf,put_defers]) hi' hr' he
  cases hd:o.dst with
  | none=>exact hr
  | some d=>
    intro i u hlk
    simp only [look] at hlk
    cases hbq:d.beq i with
    | true=>
      rw [hbq] at hlk
      simp only [cond_true,Option.some.injEq] at hlk
      subst hlk
      refine kC ?_
      obtain rfl:d=i:=Nat.eq_of_beq_eq_true hbq
      simp only [Act.put,Array.getD_eq_getD_getElem?,Array.getElem?_setIfInBounds,if_true]
      split <;> rfl
    | false=>
      rw [hbq] at hlk
      simp only [cond_false] at hlk
      have hne:d≠i:=Nat.ne_of_beq_eq_false hbq
      have:=hr i u hlk
      simp [Act.put,Array.getD_eq_getD_getElem?,Array.getElem?_setIfInBounds,hne] at this ⊢
      exact this
theorem ab.pass2 {j dj:Nat}{want:Bool}(hg:o.guard=some (j,want))(hj:(ops[j]?).bind (·.dst)=some dj)(hl:look s.ts dj=some (.tup []))
    (next:ab P N m ops l ⟨match o.dst with | some d=>(d,.tup [])::s.ts | none=>s.ts,s.h⟩ Q):ab P N m ops (o::l) s Q:=by
  intro G a w hsz hi hr Qc hq
  have hw:Region.wanted o (yielded ops a.tmps)=false:=by
    simp only [Region.wanted,hg,my hr hj hl]
    rfl
  simp only [wpList,hw]
  refine next G _ w (by rw [fP]; exact hsz) hi ?_ Qc fun a' w'' G'' s'' q hN' hdf hi' hr' he=>hq a' w'' G'' s'' q hN' (by rw [hdf,put_defers]) hi' hr' he
  cases hd:o.dst with
  | none=>exact hr
  | some d=>
    intro i u hlk
    simp only [look] at hlk
    cases hbq:d.beq i with
    | true=>
      rw [hbq] at hlk
      simp only [cond_true,Option.some.injEq] at hlk
      subst hlk
      refine kC ?_
      obtain rfl:d=i:=Nat.eq_of_beq_eq_true hbq
      simp only [Act.put,Array.getD_eq_getD_getElem?,Array.getElem?_setIfInBounds,if_true]
      split <;> rfl
    | false=>
      rw [hbq] at hlk
      simp only [cond_false] at hlk
      have hne:d≠i:=Nat.ne_of_beq_eq_false hbq
      have:=hr i u hlk
      simp [Act.put,Array.getD_eq_getD_getElem?,Array.getElem?_setIfInBounds,hne] at this ⊢
      exact this
end
noncomputable def n7 (K:St→Prop)(Q:Exit→St→Prop):Exit→St→Prop
  | .normal,s=>K s
  | e,s=>Q e s
noncomputable def sD (id:Nat)(Q:Exit→St→Prop):Exit→St→Prop
  | .exit id',s=>if id'=id then Q .normal s else Q (.exit id') s
  | e,s=>Q e s
noncomputable def aM (P:Program)(N m:Nat)(c:Code)(Q:Exit→St→Prop):Nat→St→Prop
  | 0,_=>False
  | n+1,s=>aa P N m c s (n7 (aM P N m c Q n) Q)
section
variable {P:Program}{N m:Nat}{s s':St}{Q:Exit→St→Prop}{c x y:Code}
theorem aa.ghost (hs:GStep m s s')(h:aa P N m c s' Q):aa P N m c s Q:=by
  intro G a w hN hi hr Qc hq
  obtain ⟨G',h1,h2,h3⟩:=hs G a w hi hr
  exact h G' a w hN h1 h2 Qc fun e a' w' G'' s'' q hN' hd hi' hr' he=>hq e a' w' G'' s'' q hN' hd hi' hr' (h3.trans he)
theorem aa.mono {Q':Exit→St→Prop}(h:aa P N m c s Q)(hq:∀ e s,Q e s→Q' e s):aa P N m c s Q':=
  fun G a w hN hi hr Qc k=>h G a w hN hi hr Qc fun e a' w' G' s' q=>k e a' w' G' s' (hq _ _ q)
theorem aa.skip (h:Q .normal s):aa P N m .skip s Q:=fun G a w hN hi hr Qc k=>wp_skip (k .normal a w G s h hN rfl hi hr (.refl _ _ _ _))
theorem aa.label {l:Nat}(h:Q .normal s):aa P N m (.label l) s Q:=fun G a w hN hi hr Qc k=>wp_label (k .normal a w G s h hN rfl hi hr (.refl _ _ _ _))
theorem aa.exit {id:Nat}(h:Q (.exit id) s):aa P N m (.exit id) s Q:=fun G a w hN hi hr Qc k=>wp_exit (k _ a w G s h hN rfl hi hr (.refl _ _ _ _))
theorem aa.ret (h:Q .ret s):aa P N m .ret s Q:=fun G a w hN hi hr Qc k=>wp_ret (k _ a w G s h hN rfl hi hr (.refl _ _ _ _))
theorem aa.seq (h:aa P N m x s (n7 (fun s'=>aa P N m y s' Q) Q)):aa P N m (.seq x y) s Q:=by
  intro G a w hN hi hr Qc k
  refine wp_seq (h G a w hN hi hr _ fun e a' w' G' s' q hN' hd hi' hr' he=>?_)
  cases e with
  | normal=>exact q G' a' w' hN' hi' hr' Qc fun e2 a2 w2 G2 s2 q2 hN2 hd2 hi2 hr2 he2=>k e2 a2 w2 G2 s2 q2 hN2 (hd2.trans hd) hi2 hr2 (he.trans he2)
  | exit id=>exact k _ a' w' G' s' q hN' hd hi' hr' he
  | goto l=>exact k _ a' w' G' s' q hN' hd hi' hr' he
  | ret=>exact k _ a' w' G' s' q hN' hd hi' hr' he
  | panic ch=>exact k _ a' w' G' s' q hN' hd hi' hr' he
  | outgrown=>exact k _ a' w' G' s' q hN' hd hi' hr' he
theorem gp {G:Gh}{v:Value}{b:Bool}(h:RV G v (.d (.bool b))):v = .bool b:=by
  cases h with
  | d h=>cases h; rfl
theorem aa.cond {cnd:Operand}{t:Bool}(hc:ax s.ts cnd = .d (.bool t))(ht:t=true→aa P N m x s Q)(hf:t=false→aa P N m y s Q):aa P N m (.cond cnd x y) s Q:=by
  intro G a w hN hi hr Qc k
  have hv:=gp (hr.ev_of hc)
  cases t with
  | true=>exact wp_cond hv (ht rfl G a w hN hi hr Qc k)
  | false=>exact wp_cond hv (hf rfl G a w hN hi hr Qc k)
theorem aa.condT {cnd:Operand}{t:Bool}(hc:ax s.ts cnd = .d (.bool t))(ht:t=true)(h:aa P N m x s Q):aa P N m (.cond cnd x y) s Q:=
  aa.cond hc (fun _=>h) (fun e=>by rw [ht] at e; cases e)
theorem aa.condF {cnd:Operand}{t:Bool}(hc:ax s.ts cnd = .d (.bool t))(ht:t=false)(h:aa P N m y s Q):aa P N m (.cond cnd x y) s Q:=
  aa.cond hc (fun e=>by rw [ht] at e; cases e) (fun _=>h)
theorem aa.block {id:Nat}(h:aa P N m c s (sD id Q)):aa P N m (.block id c) s Q:=by
  intro G a w hN hi hr Qc k
  refine wp_block (h G a w hN hi hr _ fun e a' w' G' s' q hN' hd hi' hr' he=>?_)
  cases e with
  | exit id'=>
    simp only [Exit.inBlock,sD] at q ⊢
    split
    · rename_i e; rw [if_pos e] at q; exact k _ a' w' G' s' q hN' hd hi' hr' he
    · rename_i e; rw [if_neg e] at q; exact k _ a' w' G' s' q hN' hd hi' hr' he
  | normal=>exact k _ a' w' G' s' q hN' hd hi' hr' he
  | goto l=>exact k _ a' w' G' s' q hN' hd hi' hr' he
  | ret=>exact k _ a' w' G' s' q hN' hd hi' hr' he
  | panic ch=>exact k _ a' w' G' s' q hN' hd hi' hr' he
  | outgrown=>exact k _ a' w' G' s' q hN' hd hi' hr' he
theorem aa.loop (n:Nat)(h:aM P N m c Q n s):aa P N m (.loop c) s Q:=by
  intro G a w hN hi hr Qc k
  refine wp_loop_rounds n ?_
  induction n generalizing G a w s with
  | zero=>exact h.elim
  | succ n ih=>
    refine h G a w hN hi hr _ fun e a' w' G' s' q hN' hd hi' hr' he=>?_
    cases e with
    | normal=>exact ih q G' a' w' hN' hi' hr' fun e2 a2 w2 G2 s2 q2 hN2 hd2 hi2 hr2 he2=>k e2 a2 w2 G2 s2 q2 hN2 (hd2.trans hd) hi2 hr2 (he.trans he2)
    | exit id=>exact k _ a' w' G' s' q hN' hd hi' hr' he
    | goto l=>exact k _ a' w' G' s' q hN' hd hi' hr' he
    | ret=>exact k _ a' w' G' s' q hN' hd hi' hr' he
    | panic ch=>exact k _ a' w' G' s' q hN' hd hi' hr' he
    | outgrown=>exact k _ a' w' G' s' q hN' hd hi' hr' he
theorem aa.region {id:Nat}{ops:Array Oper}(h:ab P N m ops ops.toList s (Q .normal)):aa P N m (.region id ops false) s Q:=by
  intro G a w hN hi hr Qc k
  refine wp_region ?_
  have e:=wpOps_eq_wpList (P:=P) (ops:=ops) (Q:=Qc) ops.toList 0 (fun j=>by simp)
  have hl:ops.toList.length=ops.size:=by simp
  rw [hl,← List.range_eq_range'] at e
  rw [e]
  exact h G a w hN hi hr Qc fun a' w' G' s' q=>k .normal a' w' G' s' q
end
structure SC (P:Program)(f:FuncId)(args:List AV)(h:List aQ)(r:AV)(h':List ak):Prop where
  enters:∃ fn,P.funcs[f]? = some fn∧(fn.name == "runtime.NumGoroutine")=false∧fn.body.isNone=false
  calls:∀ (G:Gh) (w:World) (vs:Array Value),Inv G (h.map .live) w→vs.size=args.length→(∀ i,i < args.length→RV G (vs.getD i undef) (args.getD i default))→
    ∀ (R:Ending→World→Prop),(∀ v w' G',RV G' v r→Inv G' h' w'→jE h.length G (h.map .live) w G' h' w'→R (.returned v) w')→Calls P f vs w R
noncomputable def wN (tmps:Array Value):ResultVar→Sem Value
  | .tmp t=>pure (tmps.getD t undef)
  | .cell x t=>do loadVar t (← asAddr (tmps.getD x undef))
noncomputable def kw (rs:Array ResultVar)(tmps:Array Value):Sem Value:=do
  let vs ← rs.mapM (wN tmps)
  pure (if h:vs.size=1 then vs[0] else .tuple vs)
theorem p7 (fn:Func)(tmps:Array Value):results fn tmps=kw fn.results tmps:=by
  unfold results kw
  congr 2
noncomputable def aB (P:Program)(rs:Array ResultVar)(s:St)(r:AV):Prop:=
  ∀ (G:Gh) (a:Act) (w:World),Inv G s.h w→RT G a s.ts→∃ v,(kw rs a.tmps).run P w = .ok v w∧RV G v r
noncomputable def jc:List AV→Nat→List (Nat×AV)
  | [],_=>[]
  | v::vs,i=>(i,v)::jc vs (i+1)
theorem nb:∀ (l:List AV) (k i:Nat) (v:AV),look (jc l k) i=some v→k≤i∧l[i - k]? = some v
  | [],k,i,v,h=>by simp [jc,look] at h
  | x::l,k,i,v,h=>by
    simp only [jc,look] at h
    cases hb:k.beq i with
    | true=>
      rw [hb] at h
      simp only [cond_true,Option.some.injEq] at h
      obtain rfl:k=i:=Nat.eq_of_beq_eq_true hb
      subst h
      simp
    | false=>
      rw [hb] at h
      simp only [cond_false] at h
      have hne:k≠i:=Nat.ne_of_beq_eq_false hb
      obtain ⟨h1,h2⟩:=nb l (k+1) i v h
      refine ⟨by omega,?_⟩
      have:i - k=(i - (k+1))+1:=by omega
      rw [this,List.getElem?_cons_succ]
      exact h2
theorem SC.intro {P:Program}{f:FuncId}{args:List AV}{h:List aQ}{r:AV}{h':List ak}{fn:Func}{c:Code}{N:Nat}
    (hf:P.funcs[f]? = some fn) (hn:(fn.name == "runtime.NumGoroutine")=false) (hb:fn.body=some c) (hN:fn.ntmps=N) (hle:Nat.ble args.length N=true)
    (H:aa P N h.length c ⟨jc args 0,h.map .live⟩ (fun e s=>(e = .normal∨e = .ret)∧aB P fn.results s r∧∀ G v w,Inv G s.h w→RV G v r→∃ G',Inv G' h' w∧RV G' v r∧jE h.length G s.h w G' h' w)):SC P f args h r h':=by
  refine ⟨⟨fn,hf,hn,by rw [hb]; rfl⟩,fun G w vs hi hs hv R hR=>calls_of_wp hf hb ?_⟩
  have hle':args.length≤N:=Nat.le_of_ble_eq_true hle
  refine H G _ w ?_ hi ?_ _ fun e a' w' G' s' q hN' hd hi' hr' he=>?_
  · simp [hN,hs]; omega
  · intro i v hl
    obtain ⟨_,h2⟩:=nb args 0 i v hl
    have hi':i < args.length:=(List.getElem?_eq_some_iff.1 h2).1
    have:=hv i hi'
    have e1:args.getD i default=v:=by simp [List.getD_eq_getElem?_getD] ; rw [show args[i]? = some v from h2]; rfl
    rw [e1] at this
    have e2:(vs++Array.replicate (fn.ntmps - vs.size) undef).getD i undef=vs.getD i undef:=by
      simp [Array.getD_eq_getD_getElem?,Array.getElem?_append,hs,hi']
    rw [e2]
    exact this
  · obtain ⟨hex,hres,hfin⟩:=q
    obtain ⟨v,hrun,hrv⟩:=hres G' a' w' hi' hr'
    obtain ⟨G2,i2,v2,e2⟩:=hfin G' v w' hi' hrv
    have hpost:a'.defers=[]∧∃ v,(results fn a'.tmps).run P w' = .ok v w'∧R (.returned v) w':=⟨hd,v,by rw [p7]; exact hrun,hR v w' G2 v2 i2 (he.trans e2)⟩
    rcases hex with rfl | rfl
    · exact hpost
    · exact hpost
end Go.Abs
namespace Go.Abs
noncomputable def wh:TypeDesc→Bool
  | .struct _ | .array _ _=>true
  | _=>false
noncomputable def cf (P:Program)(t:TypeId):Option (Bool×Nat):=
  match P.underlying t,P.info? t with
  | some d,some i=>some (wh d,i.size)
  | _,_=>none
noncomputable def cd (P:Program)(t:TypeId):Option (List AV):=
  match P.info? t with
  | some i=>i.zero.map fun z=>z.cells.toList.map v6
  | none=>none
noncomputable def gz (P:Program)(t:TypeId):Option (List (Nat×Bool×Nat)):=
  match P.underlying t with
  | some (.struct fs)=>fs.toList.mapM fun f=>(cf P f.type).map fun x=>(f.offset,x.1,x.2)
  | _=>none
noncomputable def cy (P:Program)(t:TypeId):Option (Nat×Bool×Nat):=
  match P.underlying t with
  | some (.slice e)=>(cf P e).map fun x=>(e,x.1,x.2)
  | _=>none
section
variable {P:Program}{w:World}{t:TypeId}
theorem uP {b:Bool}{n:Nat}(h:cf P t=some (b,n)):∃ d i,P.underlying t=some d∧wh d=b∧P.info? t=some i∧i.size=n:=by
  unfold cf at h
  split at h
  · rename_i d i h1 h2
    simp only [Option.some.injEq,Prod.mk.injEq] at h
    exact ⟨d,i,h1,h.1,h2,h.2⟩
  · cases h
theorem uJ {b:Bool}{n:Nat}(h:cf P t=some (b,n)):(isAgg t).run P w = .ok b w:=by
  obtain ⟨d,i,h1,h2,_,_⟩:=uP h
  unfold isAgg
  simp only [Sem.run_bind,run_underlying h1,Result.andThen_ok]
  subst h2
  cases d <;> rfl
theorem eD {b:Bool}{n:Nat}(h:cf P t=some (b,n)):(sizeOf t).run P w = .ok n w:=by
  obtain ⟨d,i,_,_,h3,h4⟩:=uP h
  simp [sizeOf,typeInfo,h3,h4]
theorem j8 {l:List AV}(h:cd P t=some l):∃ z:Value,(zeroValue t).run P w = .ok z w∧z.cells.size=l.length∧∀ (G:Gh) i,i < l.length→RV G (z.cells.getD i undef) (l.getD i default):=by
  unfold cd at h
  split at h
  · rename_i i hi
    obtain ⟨z,hz,rfl⟩:=Option.map_eq_some_iff.1 h
    refine ⟨z,by simp [zeroValue,typeInfo,hi,hz],by simp,fun G j hj=>?_⟩
    have hj':j < z.cells.size:=by simpa using hj
    simp [List.getD_eq_getElem?_getD,Array.getD_eq_getD_getElem?,hj']
    exact v7 G _
  · cases h
theorem Addr.add_none (b o k:Nat):(⟨b,o,none⟩:Addr).add k=⟨b,o+k,none⟩:=by
  unfold Addr.add
  split
  · rename_i h; subst h; rfl
  · rfl
theorem gg {b o n:Nat}{v:Value}(ht:cf P t=some (false,n))(h:w.cell? ⟨b,o,none⟩=some v):(loadVar t ⟨b,o,none⟩).run P w = .ok v w:=by
  unfold loadVar
  simp [uJ ht,h]
theorem iy {b o n:Nat}(ht:cf P t=some (true,n))(f:Nat→Value)(h:∀ j,j < n→w.cell? ⟨b,o+j,none⟩=some (f j)) :
    (loadVar t ⟨b,o,none⟩).run P w = .ok (.agg ((List.range n).map f).toArray) w:=by
  unfold loadVar
  have hl:=run_loadCells (P:=P) w ⟨b,o,none⟩ n f (fun j hj=>by rw [Addr.add_none]; exact h j hj)
  simp [uJ ht,eD ht,hl]
end
section
variable {P:Program}{o:Oper}{ts:List (Nat×AV)}{h:List ak}
theorem ae.move {x:Operand}{v:AV}(ho:o.op = .move x)(hx:ax ts x=v):ae P o ts h v h:=
  ae.same fun G a w hi hr=>⟨a.eval x,by simp [execOp,ho],hr.ev_of hx⟩
theorem ae.assign {x:Operand}{v:AV}(ho:o.op = .assign x)(hx:ax ts x=v):ae P o ts h v h:=
  ae.same fun G a w hi hr=>⟨a.eval x,by simp [execOp,ho],hr.ev_of hx⟩
theorem ae.pickT {c x y:Operand}{v:AV}{b:Bool}(ho:o.op = .pick c x y)(hc:ax ts c = .d (.bool b))(hb:b=true)(hx:ax ts x=v):ae P o ts h v h:=
  ae.same fun G a w hi hr=>⟨a.eval x,by simp [execOp,ho,gp (hr.ev_of hc),asBool,hb],hr.ev_of hx⟩
theorem ae.pickF {c x y:Operand}{v:AV}{b:Bool}(ho:o.op = .pick c x y)(hc:ax ts c = .d (.bool b))(hb:b=false)(hx:ax ts y=v):ae P o ts h v h:=
  ae.same fun G a w hi hr=>⟨a.eval y,by simp [execOp,ho,gp (hr.ev_of hc),asBool,hb],hr.ev_of hx⟩
theorem Inv.push {G:Gh}{w:World}(hi:Inv G h w)(ob:Obj)(new:aQ)(e:Nat)
    (hob:∀ G':Gh,G.Le G'→bH G' (w.alloc ob) (w.heap.size,0,e) new) :
    ∃ G',G.Le G'∧G'.ρ h.length=some (w.heap.size,0,e)∧Inv G' (h++[.live new]) (w.alloc ob)∧d5 G h w G' (h++[.live new]) (w.alloc ob):=by
  let G':Gh:=⟨G.I,fun id=>if id=h.length then some (w.heap.size,0,e) else G.ρ id,G.tab⟩
  have hle:G.Le G':=⟨fun _ _ _ x=>x,fun id p x=>by
    have:id≠h.length:=by rintro rfl; rw [hi.fresh _ (Nat.le_refl _)] at x; cases x
    simp [G',this,x]⟩
  have hnew:G'.ρ h.length=some (w.heap.size,0,e):=by simp [G']
  have hI:∀ b k,G'.I b k=G.I b k:=fun _ _=>rfl
  have hold:∀ id,id < h.length→G'.ρ id=G.ρ id:=fun id hlt=>by simp [G',Nat.ne_of_lt hlt]
  have hpr:bd (cN G h) w (w.alloc ob):=bd.alloc _ w ob
  have hfoot:∀ p o' b k,bX p o' b k→b=p.1:=by
    intro p o' b k hf
    cases o' with
    | var cs=>exact hf.1
    | arr sz n ex get=>exact hf.1
    | mp es=>exact hf
  have hsplit:∀ id o',(h++[ak.live new])[id]? = some (.live o')→(id < h.length∧h[id]? = some (.live o'))∨(id=h.length∧o'=new):=by
    intro id o' hx
    rcases Nat.lt_trichotomy id h.length with h1 | h1 | h1
    · rw [List.getElem?_append_left h1] at hx; exact .inl ⟨h1,hx⟩
    · subst h1
      rw [List.getElem?_append_right (Nat.le_refl _)] at hx
      simp at hx
      exact .inr ⟨rfl,hx.symm⟩
    · rw [List.getElem?_append_right (by omega)] at hx
      have:id - h.length≠0:=by omega
      obtain ⟨m,hm⟩:∃ m,id - h.length=m+1:=⟨id - h.length - 1,by omega⟩
      rw [hm] at hx
      simp at hx
  have hinv:Inv G' (h++[.live new]) (w.alloc ob):=by
    refine ⟨fun b k v x=>mL (hi.imm b k v x),fun id o' hx=>?_,fun id hlt=>?_,fun id hx=>?_,?_,?_⟩
    · rcases hsplit id o' hx with ⟨h1,h2⟩ | ⟨rfl,rfl⟩
      · obtain ⟨p,h3,h4⟩:=hi.obj id o' h2
        exact ⟨p,by rw [hold id h1]; exact h3,h4.frame (F:=fun _ _=>False) (bd.alloc _ w ob) hle (fun _ _ _ x=>x)⟩
      · exact ⟨_,hnew,hob G' hle⟩
    · simp at hlt
      rw [show G'.ρ id=G.ρ id by simp [G']; omega]
      exact hi.fresh id (by omega)
    · rcases Nat.lt_or_ge id h.length with h1 | h1
      · rw [List.getElem?_append_left h1] at hx
        rw [hold id h1]
        exact hi.resv id hx
      · rcases Nat.eq_or_lt_of_le h1 with h2 | h2
        · subst h2; simp at hx
        · rw [List.getElem?_eq_none (by simp; omega)] at hx; cases hx
    · intro id o1 p id' o2 p' hne h1 h2 h3 h4 b k f1 f2
      rcases hsplit id o1 h1 with ⟨a1,a2⟩ | ⟨rfl,rfl⟩
      · rcases hsplit id' o2 h3 with ⟨b1,b2⟩ | ⟨rfl,rfl⟩
        · rw [hold id a1] at h2
          rw [hold id' b1] at h4
          exact hi.disj id o1 p id' o2 p' hne a2 h2 b2 h4 b k f1 f2
        · rw [hold id a1] at h2
          rw [hnew] at h4
          cases h4
          have e1:=hfoot _ _ _ _ f1
          have e2:=hfoot _ _ _ _ f2
          have:=hi.blk a2 h2 f1
          simp at e2
          omega
      · rcases hsplit id' o2 h3 with ⟨b1,b2⟩ | ⟨rfl,_⟩
        · rw [hold id' b1] at h4
          rw [hnew] at h2
          cases h2
          have e1:=hfoot _ _ _ _ f1
          have e2:=hfoot _ _ _ _ f2
          have:=hi.blk b2 h4 f2
          simp at e1
          omega
        · exact hne rfl
    · intro id o1 p h1 h2 b k f1
      rcases hsplit id o1 h1 with ⟨a1,a2⟩ | ⟨rfl,rfl⟩
      · rw [hold id a1] at h2
        exact hi.free id o1 p a2 h2 b k f1
      · rw [hnew] at h2
        cases h2
        have e1:=hfoot _ _ _ _ f1
        simp at e1
        cases hx:G'.I b k with
        | none=>rfl
        | some v=>
          have:=dw (hi.imm b k v hx)
          omega
  refine ⟨G',hle,hnew,hinv,⟨hle,hpr,fun b k v x=>.inl x,?_⟩⟩
  rintro b k ⟨id,o',p,h1,h2,h3⟩
  rcases hsplit id o' h1 with ⟨a1,a2⟩ | ⟨rfl,rfl⟩
  · exact .inl ⟨id,o',p,a2,by rw [← hold id a1]; exact h2,h3⟩
  · rw [hnew] at h2
    cases h2
    have:=hfoot _ _ _ _ h3
    exact .inr (by simp at this; omega)
theorem gP {w:World}{cs:Array Value}{e:TypeId}{fr:Nat×Nat}(k:Nat):(w.alloc (.cells cs e fr)).cell? ⟨w.heap.size,k,none⟩=cs[k]?:=by
  unfold World.cell?
  rw [fu,Array.getElem?_push,if_pos rfl]
  rfl
theorem jv {w:World}{cs:Array Value}{e:TypeId}(k:Nat):(w.alloc (.cells cs e)).frozen? ⟨w.heap.size,k,none⟩=false:=by
  unfold World.frozen?
  rw [fu,Array.getElem?_push,if_pos rfl]
  simp
theorem bH.newVar {G:Gh}{w:World}{cs:Array Value}{e:TypeId}{l:List AV}(hs:cs.size=l.length)(hr:∀ i,i < l.length→RV G (cs.getD i undef) (l.getD i default))(e':Nat) :
    bH G (w.alloc (.cells cs e)) (w.heap.size,0,e') (.var l):=by
  refine ⟨by simp [fu],fun i hi=>⟨cs.getD i undef,?_,?_,hr i hi⟩⟩
  · show (w.alloc (.cells cs e)).cell? ⟨w.heap.size,0+i,none⟩=_
    rw [Nat.zero_add,gP]
    simp [Array.getD_eq_getD_getElem?,hs,hi]
  · exact jv _
theorem ae.alloc {t:TypeId}{l:List AV}(ho:o.op = .alloc t)(hz:cd P t=some l):ae P o ts h (.ptr h.length 0) (h++[.live (.var l)]):=
  ae.value fun G a w hi hr=>by
    obtain ⟨z,hrun,hs,hv⟩:=j8 (w:=w) hz
    obtain ⟨G',hle,hn,h1,h2⟩:=hi.push (.cells z.cells t) (.var l) 0 (fun G' _=>bH.newVar hs (hv G') 0)
    refine ⟨.pointer (some ⟨w.heap.size,0,none⟩),_,G',?_,RV.ptr 0 hn,h1,h2⟩
    simp [execOp,ho,Instr.alloc,hrun,newVar,newRow]
noncomputable def cellsOf:AV→List AV
  | .agg cs=>cs
  | v=>[v]
noncomputable def AV.flat:AV→Bool
  | .agg _ | .tup _ | .bad=>false
  | .d (.agg _)=>false
  | _=>true
theorem RV.flat_cells {G:Gh}{v:Value}{x:AV}(hr:RV G v x)(hf:x.flat=true):v.cells = #[v]∧v.oneCell'=true:=by
  cases hr with
  | d h=>cases h <;> first | exact ⟨rfl,rfl⟩ | (simp [AV.flat] at hf)
  | bad v=>simp [AV.flat] at hf
  | agg vs cs hl h=>simp [AV.flat] at hf
  | tup vs cs hl h=>simp [AV.flat] at hf
  | _=>exact ⟨rfl,rfl⟩
theorem RV.cells {G:Gh}{v:Value}{x:AV}(hr:RV G v x)(hf:x.flat=true∨∃ cs,x = .agg cs):v.cells.size=(cellsOf x).length∧∀ i,i < (cellsOf x).length→RV G (v.cells.getD i undef) ((cellsOf x).getD i default):=by
  rcases hf with hf | ⟨cs,rfl⟩
  · have hc:=(hr.flat_cells hf).1
    have e:cellsOf x=[x]:=by cases x <;> first | rfl | (simp [AV.flat] at hf)
    rw [hc,e]
    refine ⟨rfl,fun i hi=>?_⟩
    obtain rfl:i=0:=by simpa using hi
    exact hr
  · cases hr with
    | agg vs cs hl h=>exact ⟨hl,h⟩
noncomputable def AV.boxable:AV→Bool
  | .agg _=>true
  | v=>v.flat
theorem AV.boxable_out {x:AV}(h:x.boxable=true):x.flat=true∨∃ cs,x = .agg cs:=by
  cases x <;> first | exact .inr ⟨_,rfl⟩ | exact .inl h
theorem ae.box {t:TypeId}{x:Operand}{v:AV}(ho:o.op = .box t x)(hx:ax ts x=v)(hb:v.boxable=true):ae P o ts h (.ptr h.length 0) (h++[.live (.var (cellsOf v))]):=
  ae.value fun G a w hi hr=>by
    have hv:=hr.ev_of hx
    obtain ⟨hs,hc⟩:=hv.cells (AV.boxable_out hb)
    obtain ⟨G',hle,hn,h1,h2⟩:=hi.push (.cells (a.eval x).cells t) (.var (cellsOf v)) 0 (fun G' hle=>bH.newVar hs (fun i hlt=>(hc i hlt).mono hle) 0)
    refine ⟨.pointer (some ⟨w.heap.size,0,none⟩),_,G',?_,RV.ptr 0 hn,h1,h2⟩
    simp [execOp,ho,Instr.box,newVar,newRow]
theorem hE {G:Gh}{v:Value}{id off:Nat}(h:RV G v (.ptr id off)):∃ b o e,G.ρ id=some (b,o,e)∧v = .pointer (some ⟨b,o+off,none⟩):=by
  cases h with
  | ptr off h=>exact ⟨_,_,_,h,rfl⟩
theorem kf {G:Gh}{w:World}(hi:Inv G h w){id b o e:Nat}{cs:List AV}(hh:h[id]? = some (.live (.var cs)))(hρ:G.ρ id=some (b,o,e)){i:Nat}(hlt:i < cs.length) :
    ∃ v,w.cell? ⟨b,o+i,none⟩=some v∧w.frozen? ⟨b,o+i,none⟩=false∧RV G v (cs.getD i default):=by
  obtain ⟨p,h1,h2⟩:=hi.obj id _ hh
  rw [hρ] at h1
  cases h1
  exact h2.2 i hlt
theorem ae.load {t:TypeId}{x:Operand}{id off n:Nat}{cs:List AV}{v:AV}(ho:o.op = .load t x)(hx:ax ts x = .ptr id off)(ht:cf P t=some (false,n))(hh:h[id]? = some (.live (.var cs)))(hc:cs[off]? = some v):ae P o ts h v h:=
  ae.same fun G a w hi hr=>by
    obtain ⟨b,o',e,hρ,hv⟩:=hE (hr.ev_of hx)
    have hlt:=(List.getElem?_eq_some_iff.1 hc).1
    obtain ⟨u,h1,_,h2⟩:=kf hi hh hρ hlt
    refine ⟨u,?_,?_⟩
    · simp only [execOp,ho,hv,Instr.loadAt,Instr.sureAddr,Sem.run_bind,Sem.run_pure,Result.andThen_ok,gg ht h1]
    · rw [List.getD_eq_getElem?_getD,hc] at h2; exact h2
theorem ae.loadA {t:TypeId}{x:Operand}{id off n:Nat}{cs:List AV}(ho:o.op = .load t x)(hx:ax ts x = .ptr id off)(ht:cf P t=some (true,n))(hh:h[id]? = some (.live (.var cs)))(hc:Nat.ble (off+n) cs.length=true) :
    ae P o ts h (.agg ((cs.drop off).take n)) h:=
  ae.same fun G a w hi hr=>by
    obtain ⟨b,o',e,hρ,hv⟩:=hE (hr.ev_of hx)
    have hle:=Nat.le_of_ble_eq_true hc
    have hcell:∀ j,j < n→w.cell? ⟨b,o'+off+j,none⟩=some ((w.cell? ⟨b,o'+off+j,none⟩).getD undef)∧RV G ((w.cell? ⟨b,o'+off+j,none⟩).getD undef) (cs.getD (off+j) default):=by
      intro j hj
      obtain ⟨u,h1,_,h2⟩:=kf hi hh hρ (i:=off+j) (by omega)
      rw [← Nat.add_assoc] at h1
      rw [h1]
      exact ⟨rfl,h2⟩
    refine ⟨_,?_,RV.agg ((List.range n).map fun j=>(w.cell? ⟨b,o'+off+j,none⟩).getD undef).toArray _ ?_ ?_⟩
    · simp only [execOp,ho,hv,Instr.loadAt,Instr.sureAddr,Sem.run_bind,Sem.run_pure,Result.andThen_ok,iy ht _ (fun j hj=>(hcell j hj).1)]
    · simp; omega
    · intro i hlt
      have hlt':i < n:=by simp at hlt; omega
      have:=(hcell i hlt').2
      simp [List.getD_eq_getElem?_getD,Array.getD_eq_getD_getElem?,List.getElem?_take,List.getElem?_drop,hlt',List.getElem?_range] at this ⊢
      exact this
end
end Go.Abs
namespace Go.Abs
theorem fJ {p:Nat×Nat×Nat}{o':aQ}{b k:Nat}(hf:bX p o' b k):b=p.1:=by
  cases o' with
  | var cs=>exact hf.1
  | arr sz n ex get=>exact hf.1
  | mp es=>exact hf
theorem eV {h:List ak}{id:Nat}{x:ak}(e:h[id]? = some x):id < h.length:=(List.getElem?_eq_some_iff.1 e).1
theorem Inv.change {G:Gh}{h:List ak}{w w':World}(hi:Inv G h w){id:Nat}{ob ob':aQ}{p:Nat×Nat×Nat}(hh:h[id]? = some (.live ob))(hρ:G.ρ id=some p)
    (hf:∀ b k,bX p ob' b k→bX p ob b k) (hp:bd (bX p ob) w w') (hr:bH G w' p ob') :
    Inv G (h.set id (.live ob')) w'∧d5 G h w G (h.set id (.live ob')) w':=by
  have hlt:=eV hh
  have hsplit:∀ id' o',(h.set id (.live ob'))[id']? = some (.live o')→(id'=id∧o'=ob')∨(id'≠id∧h[id']? = some (.live o')):=by
    intro id' o' hx
    by_cases e:id'=id
    · subst e
      rw [List.getElem?_set_self hlt] at hx
      simp at hx
      exact .inl ⟨rfl,hx.symm⟩
    · rw [List.getElem?_set_ne (Ne.symm e)] at hx
      exact .inr ⟨e,hx⟩
  have hfH:∀ b k,bX p ob b k→cN G h b k:=fun b k x=>⟨id,ob,p,hh,hρ,x⟩
  refine ⟨⟨fun b k v x=>?_,fun id' o' hx=>?_,fun id' hl=>hi.fresh id' (by simpa using hl),fun id' hx=>?_,?_,?_⟩,⟨.refl _,hp.imp hfH,fun b k v x=>.inl x,?_⟩⟩
  · exact hp.cell b k v (fun hx=>by have:=hi.free id ob p hh hρ b k hx; rw [this] at x; cases x) (hi.imm b k v x)
  · rcases hsplit id' o' hx with ⟨rfl,rfl⟩ | ⟨hne,h1⟩
    · exact ⟨p,hρ,hr⟩
    · obtain ⟨p',h2,h3⟩:=hi.obj id' o' h1
      exact ⟨p',h2,h3.frame hp (.refl _) (fun b k x y=>hi.disj id' o' p' id ob p hne h1 h2 hh hρ b k x y)⟩
  · by_cases e:id'=id
    · subst e; rw [List.getElem?_set_self hlt] at hx; cases hx
    · rw [List.getElem?_set_ne (Ne.symm e)] at hx; exact hi.resv id' hx
  · intro i1 o1 p1 i2 o2 p2 hne h1 h2 h3 h4 b k f1 f2
    rcases hsplit i1 o1 h1 with ⟨rfl,rfl⟩ | ⟨n1,g1⟩
    · rw [hρ] at h2; cases h2
      rcases hsplit i2 o2 h3 with ⟨rfl,_⟩ | ⟨n2,g2⟩
      · exact hne rfl
      · exact hi.disj _ ob _ i2 o2 p2 hne hh hρ g2 h4 b k (hf _ _ f1) f2
    · rcases hsplit i2 o2 h3 with ⟨rfl,rfl⟩ | ⟨n2,g2⟩
      · rw [hρ] at h4; cases h4
        exact hi.disj i1 o1 p1 _ ob _ hne g1 h2 hh hρ b k f1 (hf _ _ f2)
      · exact hi.disj i1 o1 p1 i2 o2 p2 hne g1 h2 g2 h4 b k f1 f2
  · intro i1 o1 p1 h1 h2 b k f1
    rcases hsplit i1 o1 h1 with ⟨rfl,rfl⟩ | ⟨n1,g1⟩
    · rw [hρ] at h2; cases h2
      exact hi.free _ ob _ hh hρ b k (hf _ _ f1)
    · exact hi.free i1 o1 p1 g1 h2 b k f1
  · rintro b k ⟨i1,o1,p1,h1,h2,f1⟩
    rcases hsplit i1 o1 h1 with ⟨rfl,rfl⟩ | ⟨n1,g1⟩
    · rw [hρ] at h2; cases h2
      exact .inl (hfH _ _ (hf _ _ f1))
    · exact .inl ⟨i1,o1,p1,g1,h2,f1⟩
theorem d5.trans {G G1 G2:Gh}{h h1 h2:List ak}{w w1 w2:World}(e:d5 G h w G1 h1 w1)(f:d5 G1 h1 w1 G2 h2 w2):d5 G h w G2 h2 w2:=by
  have:=(e.ext 0).trans (f.ext 0)
  exact ⟨e.le.trans f.le,this.pres,this.inew,this.fnew⟩
theorem lO {α:Type}(l:List α)(i j:Nat)(x d:α):(l.set i x).getD j d=if i=j∧i < l.length then x else l.getD j d:=by
  simp only [List.getD_eq_getElem?_getD,List.getElem?_set]
  by_cases h:i=j
  · subst h
    by_cases h2:i < l.length
    · simp [h2]
    · simp [h2,List.getElem?_eq_none (Nat.le_of_not_lt h2)]
  · simp [h]
theorem Inv.set1 {G:Gh}{h:List ak}{w:World}(hi:Inv G h w){id b o e:Nat}{cs:List AV}(hh:h[id]? = some (.live (.var cs)))(hρ:G.ρ id=some (b,o,e)){k:Nat}(hk:k < cs.length){v:Value}{x:AV}(hv:RV G v x) :
    Inv G (h.set id (.live (.var (cs.set k x)))) (w.setCell ⟨b,o+k,none⟩ v)∧d5 G h w G (h.set id (.live (.var (cs.set k x)))) (w.setCell ⟨b,o+k,none⟩ v):=by
  obtain ⟨p,h1,h2⟩:=hi.obj id _ hh
  rw [hρ] at h1
  cases h1
  refine hi.change hh hρ (fun b' k' hf=>by simpa [bX] using hf) (bd.set w v ⟨rfl,by simp,by simp; omega⟩) ⟨by rw [ph]; exact h2.1,fun i hlt=>?_⟩
  obtain ⟨u,c1,c2,c3⟩:=h2.2 i (by simpa using hlt)
  have c1':w.cell? ⟨b,o+i,none⟩=some u:=c1
  by_cases hik:k=i
  · subst hik
    refine ⟨v,jl c1',by rw [il]; exact c2,?_⟩
    rw [lO,if_pos ⟨rfl,hk⟩]
    exact hv
  · refine ⟨u,by rw [iH (fun x=>hik (by have:=x.2; simp at this; omega))]; exact c1,by rw [il]; exact c2,?_⟩
    rw [lO,if_neg (fun x=>hik x.1)]
    exact c3
noncomputable def dV:List AV→Nat→List AV→List AV
  | cs,_,[]=>cs
  | cs,k,x::xs=>dV (cs.set k x) (k+1) xs
theorem gM:∀ (xs cs:List AV) (k:Nat),(dV cs k xs).length=cs.length
  | [],cs,k=>rfl
  | x::xs,cs,k=>by simp [dV,gM xs]
theorem Inv.sets {P:Program}{G:Gh}{id b o e off:Nat}(hρ:G.ρ id=some (b,o,e)):∀ (vs:List Value) (xs:List AV) (i:Nat) (h:List ak) (w:World) (cs:List AV),
    Inv G h w→h[id]? = some (.live (.var cs))→vs.length=xs.length→(∀ v∈vs,v.oneCell'=true)→(∀ j,j < xs.length→RV G (vs.getD j undef) (xs.getD j default))→off+i+xs.length≤cs.length→
    ∃ w',(storeCells ⟨b,o+off,none⟩ vs i).run P w = .ok () w'∧Inv G (h.set id (.live (.var (dV cs (off+i) xs)))) w'∧d5 G h w G (h.set id (.live (.var (dV cs (off+i) xs)))) w'
  | [],[],i,h,w,cs,hi,hh,_,_,_,_=>by
    have e:h.set id (.live (.var cs))=h:=by
      apply List.ext_getElem?
      intro j
      by_cases hj:id=j
      · subst hj; rw [List.getElem?_set_self (eV hh),hh]
      · rw [List.getElem?_set_ne hj]
    refine ⟨w,rfl,?_,?_⟩ <;> simp only [dV,e]
    · exact hi
    · exact .refl _ _ _
  | [],x::xs,i,h,w,cs,hi,hh,hl,_,_,_=>by simp at hl
  | v::vs,[],i,h,w,cs,hi,hh,hl,_,_,_=>by simp at hl
  | v::vs,x::xs,i,h,w,cs,hi,hh,hl,h1,hr,hle=>by
    have hlt:off+i < cs.length:=by simp at hle; omega
    have hv:RV G v x:=by simpa using hr 0 (by simp)
    obtain ⟨i1,e1⟩:=hi.set1 hh hρ hlt hv
    obtain ⟨u,c1,c2,_⟩:=kf hi hh hρ hlt
    obtain ⟨w',r2,i2,e2⟩:=Inv.sets (P:=P) (off:=off) hρ vs xs (i+1) _ _ (cs.set (off+i) x) i1 (by rw [List.getElem?_set_self (eV hh)]) (by simpa using hl) (fun u hu=>h1 u (List.mem_cons_of_mem _ hu))
      (fun j hj=>by have:=hr (j+1) (Nat.succ_lt_succ hj); simpa using this) (by simp at hle ⊢; omega)
    rw [List.set_set] at i2 e2
    refine ⟨w',?_,?_,?_⟩
    · rw [← Nat.add_assoc] at c1 c2 r2
      simp only [storeCells,Sem.run_bind,Addr.add_none,run_store P w _ v .plain (h1 v (List.mem_cons_self ..)),c1,c2,Bool.false_eq_true,if_false,Result.andThen_ok]
      exact r2
    · exact i2
    · exact e1.trans e2
theorem tj {G:Gh}{v:Value}{x:AV}(hr:RV G v x)(hf:x.boxable=true)(hc:∀ y∈cellsOf x,y.flat=true):∀ u∈v.cells.toList,u.oneCell'=true:=by
  obtain ⟨hs,hcs⟩:=hr.cells (AV.boxable_out hf)
  intro u hu
  obtain ⟨i,hi,rfl⟩:=List.getElem_of_mem hu
  have hi':i < (cellsOf x).length:=by rw [← hs]; simpa using hi
  have h1:=hcs i hi'
  have h2:=hc _ (List.getElem_mem hi')
  simp only [List.getD_eq_getElem?_getD,List.getElem?_eq_getElem hi',Option.getD_some] at h1
  have h3:=(h1.flat_cells h2).2
  have hi2:i < v.cells.size:=by simpa using hi
  simp [Array.getD_eq_getD_getElem?,hi2] at h3
  simpa using h3
section
variable {P:Program}{o:Oper}{ts:List (Nat×AV)}{h:List ak}
theorem ae.store {t:TypeId}{x y:Operand}{id off n:Nat}{g:Bool}{cs:List AV}{v:AV}(ho:o.op = .store t x y)(hx:ax ts x = .ptr id off)(hy:ax ts y=v)(ht:cf P t=some (g,n))(hh:h[id]? = some (.live (.var cs)))
    (hb:v.boxable=true) (hf:(cellsOf v).all AV.flat=true) (hn:(cellsOf v).length=n) (hle:Nat.ble (off+n) cs.length=true):ae P o ts h .bad (h.set id (.live (.var (dV cs off (cellsOf v))))):=
  ae.skip fun G a w hi hr=>by
    obtain ⟨b,o',e,hρ,hv⟩:=hE (hr.ev_of hx)
    have hy':=hr.ev_of hy
    obtain ⟨hs,hc⟩:=hy'.cells (AV.boxable_out hb)
    have h1:=tj hy' hb (List.all_eq_true.1 hf)
    have hle':=Nat.le_of_ble_eq_true hle
    obtain ⟨w',hrun,i2,e2⟩:=Inv.sets (P:=P) (off:=off) hρ (a.eval y).cells.toList (cellsOf v) 0 h w cs hi hh (by simpa using hs) h1 (fun j hj=>by have:=hc j hj; simpa [List.getD_eq_getElem?_getD,Array.getD_eq_getD_getElem?] using this) (by omega)
    refine ⟨w',G,?_,i2,e2⟩
    simp only [execOp,ho,hv,Instr.storeAt,Instr.sureAddr,storeVar,Sem.run_bind,Sem.run_pure,Result.andThen_ok,eD ht,hs,hn]
    simp [hrun]
end
end Go.Abs
namespace Go.Abs
noncomputable def ie (get:Nat→D):Nat→Nat→List AV
  | 0,_=>[]
  | n+1,i=>.d (get i)::ie get n (i+1)
theorem lL (get:Nat→D):∀ n i j,j < n→(ie get n i)[j]? = some (.d (get (i+j)))
  | 0,_,_,h=>by omega
  | n+1,i,0,_=>rfl
  | n+1,i,j+1,h=>by
    simp only [ie,List.getElem?_cons_succ]
    rw [lL get n (i+1) j (by omega)]
    congr 3; omega
theorem fU (get:Nat→D):∀ n i,(ie get n i).length=n
  | 0,_=>rfl
  | n+1,i=>by simp [ie,fU get n]
section
variable {P:Program}{w:World}{t:TypeId}
theorem sU {α β:Type}{f:α→Option β}:∀ {l:List α} {r:List β},l.mapM f=some r→∀ (i:Nat) (y:β),r[i]? = some y→∃ x,l[i]? = some x∧f x=some y
  | [],r,h,i,y,hy=>by simp at h; subst h; simp at hy
  | a::l,r,h,i,y,hy=>by
    simp only [List.mapM_cons,Option.pure_def,Option.bind_eq_bind,Option.bind_eq_some_iff,Option.some.injEq] at h
    obtain ⟨b,hb,r',hr',rfl⟩:=h
    cases i with
    | zero=>simp at hy; subst hy; exact ⟨a,rfl,hb⟩
    | succ i=>simpa using sU hr' i y (by simpa using hy)
theorem ze {l:List (Nat×Bool×Nat)}(h:gz P t=some l):∃ fs:Array Field,P.underlying t=some (.struct fs)∧∀ (i:Nat) (x:Nat×Bool×Nat),l[i]? = some x→∃ f:Field,fs[i]? = some f∧f.offset=x.1∧cf P f.type=some x.2:=by
  unfold gz at h
  split at h
  · rename_i fs hfs
    refine ⟨fs,hfs,fun i x hx=>?_⟩
    obtain ⟨f,hf,he⟩:=sU h i x hx
    obtain ⟨y,hy,rfl⟩:=Option.map_eq_some_iff.1 he
    exact ⟨f,by simpa using hf,rfl,hy⟩
  · cases h
theorem fE {x:Nat×Bool×Nat}(h:cy P t=some x):P.underlying t=some (.slice x.1)∧cf P x.1=some x.2:=by
  unfold cy at h
  split at h
  · rename_i e he
    obtain ⟨y,hy,rfl⟩:=Option.map_eq_some_iff.1 h
    exact ⟨he,hy⟩
  · cases h
theorem la {l:List (Nat×Bool×Nat)}{i:Nat}{off n:Nat}{g:Bool}{b o:Nat}(h:gz P t=some l)(hl:l[i]? = some (off,g,n))(hn:Nat.blt 0 n=true) :
    (Instr.fieldAt t (.pointer (some ⟨b,o,none⟩)) i).run P w = .ok (.pointer (some ⟨b,o+off,none⟩)) w:=by
  obtain ⟨fs,h1,h2⟩:=ze h
  obtain ⟨f,h3,h4,h5⟩:=h2 i _ hl
  have hn':n≠0:=by
      have:0 < n:=by simpa using hn
      omega
  simp [Instr.fieldAt,run_underlying h1,h3,Instr.sureAddr,fieldPlace,eD h5,hn',Addr.add_none,h4]
end
section
variable {G:Gh}{v:Value}
theorem dE {k:IntKind}{n:Int}(h:RV G v (.d (.int k n))):v = .int k n:=by
  cases h with
  | d h=>cases h; rfl
theorem nG {s:ByteArray}(h:RV G v (.d (.str s))):v = .string s:=by
  cases h with
  | d h=>cases h; rfl
end
section
variable {G:Gh}{v:Value}
theorem iK {id i k sz:Nat}(h:RV G v (.eptr id i k sz)):∃ b o e,G.ρ id=some (b,o,e)∧v = .pointer (some ⟨b,o+i*sz+k,none⟩):=by
  cases h with
  | eptr i k sz h=>exact ⟨_,_,_,h,rfl⟩
theorem nH {n:Nat}{get:Nat→D}(h:RV G v (.vp n get)):∃ b o,∃ u:Nat→Value,v = .pointer (some ⟨b,o,none⟩)∧(∀ j,j < n→G.I b (o+j)=some (u j))∧(∀ j,j < n→RD G.I (u j) (get j)):=by
  cases h with
  | vp b o u hI hr=>exact ⟨b,o,u,rfl,hI,hr⟩
theorem hD {id off n sz:Nat}(h:RV G v (.osl id off n sz)):∃ b o e c ad,G.ρ id=some (b,o,e)∧v = .slice ad n c∧o+(off+c)*sz=e∧n≤c∧(ad=some ⟨b,o+off*sz,none⟩∨(ad=none∧c=0)):=by
  cases h with
  | osl ad off n sz c h hc hn had=>exact ⟨_,_,_,c,ad,h,rfl,hc,hn,had⟩
theorem jB (h:RV G v .nsl):v = .slice none 0 0:=by cases h; rfl
theorem vj {f:FuncId}(h:RV G v (.d (.fn f))):v = .func (.func f) #[] #[]:=by
  cases h with
  | d h=>cases h; rfl
theorem nF {n sz:Nat}{get:Nat→Nat→D}(h:RV G v (.d (.sl n sz get))):(n=0∧∃ a c,v = .slice a 0 c)∨
    ∃ b o c,∃ u:Nat→Nat→Value,v = .slice (some ⟨b,o,none⟩) n c∧n≤c∧(∀ i,i < n→∀ j,j < sz→G.I b (o+i*sz+j)=some (u i j))∧(∀ i,i < n→∀ j,j < sz→(u i j).oneCell'=true)∧(∀ i,i < n→∀ j,j < sz→RD G.I (u i j) (get i j)):=by
  cases h with
  | d h=>cases h with
    | sl0 a c sz get=>exact .inl ⟨rfl,a,c,rfl⟩
    | sl b o n c sz get u hc hI ho hr=>exact .inr ⟨b,o,c,u,rfl,hc,hI,ho,hr⟩
theorem zJ {n sz:Nat}{get:Nat→Nat→D}(h:RV G v (.d (.sl n sz get))):∃ a c,v = .slice a n c:=by
  rcases nF h with ⟨rfl,a,c,e⟩ | ⟨b,o,c,u,e,_⟩
  · exact ⟨a,c,e⟩
  · exact ⟨_,c,e⟩
theorem qv {f:FuncId}{fs cs:List AV}(h:RV G v (.clo f fs cs)):∃ vs us:Array Value,v = .func (.func f) vs us∧vs.size=fs.length∧(∀ i,i < fs.length→RV G (vs.getD i undef) (fs.getD i default))∧
    us.size=cs.length∧(∀ i,i < cs.length→RV G (us.getD i undef) (cs.getD i default)):=by
  cases h with
  | clo f vs us fs cs hl h hl' h'=>exact ⟨vs,us,rfl,hl,h,hl',h'⟩
theorem uI {es:List AV}(h:RV G v (.rsl es)):∃ b o c,∃ us:Array Value,v = .slice (some ⟨b,o,none⟩) es.length c∧us.size=es.length∧(∀ i,i < es.length→G.I b (o+i)=some (us.getD i undef))∧(∀ i,i < es.length→RV G (us.getD i undef) (es.getD i default)):=by
  cases h with
  | rsl b o c us es hl hc hI h=>exact ⟨b,o,c,us,rfl,hl,hI,h⟩
theorem zk {cs:List AV}(h:RV G v (.tup cs)):∃ vs:Array Value,v = .tuple vs∧vs.size=cs.length∧∀ i,i < cs.length→RV G (vs.getD i undef) (cs.getD i default):=by
  cases h with
  | tup vs cs hl h=>exact ⟨vs,rfl,hl,h⟩
theorem nL {cs:List AV}(h:RV G v (.agg cs)):∃ vs:Array Value,v = .agg vs∧vs.size=cs.length∧∀ i,i < cs.length→RV G (vs.getD i undef) (cs.getD i default):=by
  cases h with
  | agg vs cs hl h=>exact ⟨vs,rfl,hl,h⟩
end
section
variable {P:Program}{o:Oper}{ts:List (Nat×AV)}{h:List ak}
theorem ae.fieldAddr {t:TypeId}{x:Operand}{i id off fo n:Nat}{g:Bool}{l:List (Nat×Bool×Nat)}(ho:o.op = .fieldAddr t x i)(hx:ax ts x = .ptr id off)(hs:gz P t=some l)(hl:l[i]? = some (fo,g,n))(hn:Nat.blt 0 n=true) :
    ae P o ts h (.ptr id (off+fo)) h:=
  ae.same fun G a w hi hr=>by
    obtain ⟨b,o',e,hρ,hv⟩:=hE (hr.ev_of hx)
    exact ⟨.pointer (some ⟨b,o'+off+fo,none⟩),by simp only [execOp,ho,hv,Sem.run_bind,la hs hl hn,Result.andThen_ok,Sem.run_pure],by rw [Nat.add_assoc]; exact .ptr _ hρ⟩
theorem ae.fieldAddrE {t:TypeId}{x:Operand}{i id j k sz fo n:Nat}{g:Bool}{l:List (Nat×Bool×Nat)}(ho:o.op = .fieldAddr t x i)(hx:ax ts x = .eptr id j k sz)(hs:gz P t=some l)(hl:l[i]? = some (fo,g,n))(hn:Nat.blt 0 n=true) :
    ae P o ts h (.eptr id j (k+fo) sz) h:=
  ae.same fun G a w hi hr=>by
    obtain ⟨b,o',e,hρ,hv⟩:=iK (hr.ev_of hx)
    refine ⟨.pointer (some ⟨b,o'+j*sz+k+fo,none⟩),by simp only [execOp,ho,hv,Sem.run_bind,la hs hl hn,Result.andThen_ok,Sem.run_pure],?_⟩
    rw [Nat.add_assoc]
    exact .eptr _ _ _ hρ
theorem ae.fieldAddrV {t:TypeId}{x:Operand}{i m fo n:Nat}{g:Bool}{get:Nat→D}{l:List (Nat×Bool×Nat)}(ho:o.op = .fieldAddr t x i)(hx:ax ts x = .vp m get)(hs:gz P t=some l)(hl:l[i]? = some (fo,g,n))(hn:Nat.blt 0 n=true) :
    ae P o ts h (.vp (m - fo) (fun j=>get (fo+j))) h:=
  ae.same fun G a w hi hr=>by
    obtain ⟨b,o',u,hv,hI,hR⟩:=nH (hr.ev_of hx)
    refine ⟨.pointer (some ⟨b,o'+fo,none⟩),by simp only [execOp,ho,hv,Sem.run_bind,la hs hl hn,Result.andThen_ok,Sem.run_pure],?_⟩
    exact .vp _ _ (fun j=>u (fo+j)) (fun j hj=>by rw [Nat.add_assoc]; exact hI _ (by omega)) (fun j hj=>hR _ (by omega))
theorem ae.nilCheck {x:Operand}{id off:Nat}(ho:o.op = .nilCheck x)(hx:ax ts x = .ptr id off):ae P o ts h (.ptr id off) h:=
  ae.same fun G a w hi hr=>by
    obtain ⟨b,o',e,hρ,hv⟩:=hE (hr.ev_of hx)
    exact ⟨.pointer (some ⟨b,o'+off,none⟩),by simp only [execOp,ho,hv,Sem.run_pure],.ptr _ hρ⟩
theorem ae.nilCheckE {x:Operand}{id j k sz:Nat}(ho:o.op = .nilCheck x)(hx:ax ts x = .eptr id j k sz):ae P o ts h (.eptr id j k sz) h:=
  ae.same fun G a w hi hr=>by
    obtain ⟨b,o',e,hρ,hv⟩:=iK (hr.ev_of hx)
    exact ⟨.pointer (some ⟨b,o'+j*sz+k,none⟩),by simp only [execOp,ho,hv,Sem.run_pure],.eptr _ _ _ hρ⟩
theorem ae.nilCheckV {x:Operand}{m:Nat}{get:Nat→D}(ho:o.op = .nilCheck x)(hx:ax ts x = .vp m get):ae P o ts h (.vp m get) h:=
  ae.same fun G a w hi hr=>by
    obtain ⟨b,o',u,hv,hI,hR⟩:=nH (hr.ev_of hx)
    exact ⟨.pointer (some ⟨b,o',none⟩),by simp only [execOp,ho,hv,Sem.run_pure],.vp _ _ u hI hR⟩
theorem ae.nilCheckF {x:Operand}{f:FuncId}(ho:o.op = .nilCheck x)(hx:ax ts x = .d (.fn f)):ae P o ts h (.d (.fn f)) h:=
  ae.same fun G a w hi hr=>by
    have hv:=vj (hr.ev_of hx)
    exact ⟨.func (.func f) #[] #[],by simp only [execOp,ho,hv,Sem.run_pure],.d (.fn f)⟩
theorem ae.nilCheckC {x:Operand}{f:FuncId}{fs cs:List AV}(ho:o.op = .nilCheck x)(hx:ax ts x = .clo f fs cs):ae P o ts h (.clo f fs cs) h:=
  ae.same fun G a w hi hr=>by
    have h1:=hr.ev_of hx
    obtain ⟨vs,us,hv,_⟩:=qv h1
    exact ⟨a.eval x,by simp only [execOp,ho,hv,Sem.run_pure],h1⟩
theorem ae.index {t:TypeId}{x y:Operand}{n sz e:Nat}{g:Bool}{k:IntKind}{i:Int}{get:Nat→Nat→D}(ho:o.op = .indexAddr t x y)(hx:ax ts x = .d (.sl n sz get))(hy:ax ts y = .d (.int k i))(hs:cy P t=some (e,g,sz))
    (h0:0≤i) (h1:i < n):ae P o ts h (.vp sz (fun j=>get i.toNat j)) h:=
  ae.same fun G a w hi hr=>by
    obtain ⟨hu,he⟩:=fE hs
    have hyv:=dE (hr.ev_of hy)
    rcases nF (hr.ev_of hx) with ⟨rfl,_⟩ | ⟨b,o',c,u,hav,hc,hI,hO,hR⟩
    · exact absurd h1 (by simp; omega)
    · refine ⟨.pointer (some ⟨b,o'+i.toNat*sz,none⟩),?_,.vp _ _ (fun j=>u i.toNat j) (fun j hj=>hI _ (by omega) j hj) (fun j hj=>hR _ (by omega) j hj)⟩
      simp only [execOp,ho,hav,hyv,Instr.indexAt,asIntOf,run_underlying hu,Sem.run_bind,Sem.run_pure,Result.andThen_ok]
      simp [h0,h1,eD he,Addr.add_none]
theorem ae.indexO {t:TypeId}{x y:Operand}{id off n sz e:Nat}{g:Bool}{k:IntKind}{i:Int}(ho:o.op = .indexAddr t x y)(hx:ax ts x = .osl id off n sz)(hy:ax ts y = .d (.int k i))(hs:cy P t=some (e,g,sz))
    (h0:0≤i) (h1:i < n):ae P o ts h (.eptr id (off+i.toNat) 0 sz) h:=
  ae.same fun G a w hi hr=>by
    obtain ⟨hu,he⟩:=fE hs
    have hyv:=dE (hr.ev_of hy)
    obtain ⟨b,o',e',c,ad,hρ,hav,hc,hn,had⟩:=hD (hr.ev_of hx)
    have had:ad=some ⟨b,o'+off*sz,none⟩:=had.resolve_right (fun x=>by omega)
    subst had
    refine ⟨.pointer (some ⟨b,o'+(off+i.toNat)*sz+0,none⟩),?_,.eptr _ _ _ hρ⟩
    simp only [execOp,ho,hav,hyv,Instr.indexAt,asIntOf,run_underlying hu,Sem.run_bind,Sem.run_pure,Result.andThen_ok]
    simp [h0,h1,eD he,Addr.add_none]
    rw [Nat.add_mul]; omega
theorem ae.loadV {t:TypeId}{x:Operand}{m n:Nat}{get:Nat→D}(ho:o.op = .load t x)(hx:ax ts x = .vp m get)(ht:cf P t=some (false,n))(hm:Nat.blt 0 m=true):ae P o ts h (.d (get 0)) h:=
  ae.same fun G a w hi hr=>by
    obtain ⟨b,o',u,hv,hI,hR⟩:=nH (hr.ev_of hx)
    · have hm':0 < m:=by simpa using hm
      have hc:=hi.imm _ _ _ (hI 0 hm')
      rw [Nat.add_zero] at hc
      exact ⟨u 0,by simp only [execOp,ho,hv,Instr.loadAt,Instr.sureAddr,Sem.run_bind,Sem.run_pure,Result.andThen_ok,gg ht hc],.d (hR 0 hm')⟩
theorem ae.loadVA {t:TypeId}{x:Operand}{m n:Nat}{get:Nat→D}(ho:o.op = .load t x)(hx:ax ts x = .vp m get)(ht:cf P t=some (true,n))(hm:Nat.ble n m=true):ae P o ts h (.agg (ie get n 0)) h:=
  ae.same fun G a w hi hr=>by
    obtain ⟨b,o',u,hv,hI,hR⟩:=nH (hr.ev_of hx)
    · have hm':=Nat.le_of_ble_eq_true hm
      refine ⟨_,by simp only [execOp,ho,hv,Instr.loadAt,Instr.sureAddr,Sem.run_bind,Sem.run_pure,Result.andThen_ok,iy ht u (fun j hj=>hi.imm _ _ _ (hI j (by omega)))]; rfl,?_⟩
      refine .agg _ _ (by simp [fU]) fun i hlt=>?_
      rw [fU] at hlt
      simp [List.getD_eq_getElem?_getD,Array.getD_eq_getD_getElem?,lL get n 0 i hlt,hlt]
      exact .d (hR i (by omega))
theorem iG {G:Gh}{w:World}(hi:Inv G h w){id b o e sz n:Nat}{ex:Bool}{get:Nat→Nat→D}(hh:h[id]? = some (.live (.arr sz n ex get)))(hρ:G.ρ id=some (b,o,e)):bH G w (b,o,e) (.arr sz n ex get):=by
  obtain ⟨p,h1,h2⟩:=hi.obj id _ hh
  rw [hρ] at h1
  cases h1
  exact h2
theorem ae.loadE {t:TypeId}{x:Operand}{id i k sz m n:Nat}{ex:Bool}{get:Nat→Nat→D}(ho:o.op = .load t x)(hx:ax ts x = .eptr id i k sz)(ht:cf P t=some (false,m))(hh:h[id]? = some (.live (.arr sz n ex get)))(h1:i < n)(hk:Nat.blt k sz=true) :
    ae P o ts h (.d (get i k)) h:=
  ae.same fun G a w hi hr=>by
    obtain ⟨b,o',e,hρ,hv⟩:=iK (hr.ev_of hx)
    · obtain ⟨v,hc,_,hR⟩:=(iG hi hh hρ).2.1 i h1 k (by simpa using hk)
      exact ⟨v,by simp only [execOp,ho,hv,Instr.loadAt,Instr.sureAddr,Sem.run_bind,Sem.run_pure,Result.andThen_ok,gg ht hc],.d hR⟩
theorem ae.loadEA {t:TypeId}{x:Operand}{id i k sz m n:Nat}{ex:Bool}{get:Nat→Nat→D}(ho:o.op = .load t x)(hx:ax ts x = .eptr id i k sz)(ht:cf P t=some (true,m))(hh:h[id]? = some (.live (.arr sz n ex get)))(h1:i < n)(hk:Nat.ble (k+m) sz=true) :
    ae P o ts h (.agg (ie (fun j=>get i (k+j)) m 0)) h:=
  ae.same fun G a w hi hr=>by
    obtain ⟨b,o',e,hρ,hv⟩:=iK (hr.ev_of hx)
    · have hk':=Nat.le_of_ble_eq_true hk
      have hcell:∀ j,j < m→w.cell? ⟨b,o'+i*sz+k+j,none⟩=some ((w.cell? ⟨b,o'+i*sz+k+j,none⟩).getD undef)∧RD G.I ((w.cell? ⟨b,o'+i*sz+k+j,none⟩).getD undef) (get i (k+j)):=by
        intro j hj
        obtain ⟨v,hc,_,hR⟩:=(iG hi hh hρ).2.1 i h1 (k+j) (by omega)
        have hc':w.cell? ⟨b,o'+i*sz+k+j,none⟩=some v:=by rw [Nat.add_assoc (o'+i*sz)]; exact hc
        rw [hc']
        exact ⟨rfl,hR⟩
      refine ⟨_,by simp only [execOp,ho,hv,Instr.loadAt,Instr.sureAddr,Sem.run_bind,Sem.run_pure,Result.andThen_ok,iy ht _ (fun j hj=>(hcell j hj).1)]; rfl,?_⟩
      refine .agg _ _ (by simp [fU]) fun i' hlt=>?_
      rw [fU] at hlt
      have:=(hcell i' hlt).2
      simp [List.getD_eq_getElem?_getD,Array.getD_eq_getD_getElem?,lL _ m 0 i' hlt,hlt] at this ⊢
      exact .d this
noncomputable def xo (op:BinOp)(k:IntKind)(x:Int)(k':IntKind)(y:Int):Option D:=
  match op with
  | .shl=>if y < 0 then none else some (.int k (k.wrap (x*2 ^ (min y.toNat k.bits))))
  | .shr=>if y < 0 then none else some (.int k (x.fdiv (2 ^ (min y.toNat k.bits))))
  | .add=>if k=k' then some (.int k (k.wrap (x+y))) else none
  | .sub=>if k=k' then some (.int k (k.wrap (x - y))) else none
  | .mul=>if k=k' then some (.int k (k.wrap (x*y))) else none
  | .quo=>if k=k' then (if y=0 then none else some (.int k (k.wrap (x.tdiv y)))) else none
  | .rem=>if k=k' then (if y=0 then none else some (.int k (x.tmod y))) else none
  | .and=>if k=k' then some (.int k (k.wrap (BitVec.ofInt k.bits x &&& BitVec.ofInt k.bits y).toNat)) else none
  | .or=>if k=k' then some (.int k (k.wrap (BitVec.ofInt k.bits x ||| BitVec.ofInt k.bits y).toNat)) else none
  | .xor=>if k=k' then some (.int k (k.wrap (BitVec.ofInt k.bits x ^^^ BitVec.ofInt k.bits y).toNat)) else none
  | .andNot=>if k=k' then some (.int k (k.wrap (BitVec.ofInt k.bits x &&& ~~~ BitVec.ofInt k.bits y).toNat)) else none
  | .eql=>if k=k' then some (.bool (decide (x=y))) else none
  | .neq=>if k=k' then some (.bool (!decide (x=y))) else none
  | .lss=>if k=k' then some (.bool (decide (x < y))) else none
  | .leq=>if k=k' then some (.bool (decide (x≤y))) else none
  | .gtr=>if k=k' then some (.bool (decide (x > y))) else none
  | .geq=>if k=k' then some (.bool (decide (x≥y))) else none
theorem iZ {op:BinOp}{t:TypeId}{x y:Operand}{a b:Value}{w:World}(h:(match a with | .agg _ | .nilIface=>false | _=>true)=true):(eqGuard op t x y a b).run P w = .ok () w:=by
  cases a <;> first
    | (simp at h; done)
    | (cases op <;> first | rfl | (cases b <;> rfl))
theorem dt {α:Type}{c:Prop}[Decidable c]{x:Option α}{r:α}(h:(if c then x else none)=some r):c∧x=some r:=by
  by_cases hc:c
  · rw [if_pos hc] at h; exact ⟨hc,h⟩
  · rw [if_neg hc] at h; cases h
theorem lR {α:Type}{c:Prop}[Decidable c]{x:Option α}{r:α}(h:(if c then none else x)=some r):¬ c∧x=some r:=by
  by_cases hc:c
  · rw [if_pos hc] at h; cases h
  · rw [if_neg hc] at h; exact ⟨hc,h⟩
theorem xW {op:BinOp}{t:TypeId}{k k':IntKind}{x y:Int}{r:D}{w:World}(hr:xo op k x k' y=some r):∃ v,(binOp op t (.int k x) (.int k' y)).run P w = .ok v w∧∀ I,RD I v r:=by
  cases op with
  | shl=>
    obtain ⟨hy,e⟩:=lR hr
    cases e
    exact ⟨.int k _,by simp only [binOp,Op.shift,if_neg hy]; rfl,fun I=>.int _ _⟩
  | shr=>
    obtain ⟨hy,e⟩:=lR hr
    cases e
    exact ⟨.int k _,by simp only [binOp,Op.shift,if_neg hy]; rfl,fun I=>.int _ _⟩
  | quo=>
    obtain ⟨hk,e⟩:=dt hr
    obtain ⟨hy,e⟩:=lR e
    subst hk
    cases e
    exact ⟨.int k _,by simp only [binOp,ne_eq,not_true,if_false,Op.intDiv,if_neg hy]; rfl,fun I=>.int _ _⟩
  | rem=>
    obtain ⟨hk,e⟩:=dt hr
    obtain ⟨hy,e⟩:=lR e
    subst hk
    cases e
    exact ⟨.int k _,by simp only [binOp,ne_eq,not_true,if_false,Op.intDiv,if_neg hy]; rfl,fun I=>.int _ _⟩
  | add=>
    obtain ⟨hk,e⟩:=dt hr
    subst hk
    cases e
    exact ⟨.int k _,by simp only [binOp,ne_eq,not_true,if_false]; rfl,fun I=>.int _ _⟩
  | sub=>
    obtain ⟨hk,e⟩:=dt hr
    subst hk
    cases e
    exact ⟨.int k _,by simp only [binOp,ne_eq,not_true,if_false]; rfl,fun I=>.int _ _⟩
  | mul=>
    obtain ⟨hk,e⟩:=dt hr
    subst hk
    cases e
    exact ⟨.int k _,by simp only [binOp,ne_eq,not_true,if_false]; rfl,fun I=>.int _ _⟩
  | and=>
    obtain ⟨hk,e⟩:=dt hr
    subst hk
    cases e
    exact ⟨.int k _,by simp only [binOp,ne_eq,not_true,if_false]; rfl,fun I=>.int _ _⟩
  | or=>
    obtain ⟨hk,e⟩:=dt hr
    subst hk
    cases e
    exact ⟨.int k _,by simp only [binOp,ne_eq,not_true,if_false]; rfl,fun I=>.int _ _⟩
  | xor=>
    obtain ⟨hk,e⟩:=dt hr
    subst hk
    cases e
    exact ⟨.int k _,by simp only [binOp,ne_eq,not_true,if_false]; rfl,fun I=>.int _ _⟩
  | andNot=>
    obtain ⟨hk,e⟩:=dt hr
    subst hk
    cases e
    exact ⟨.int k _,by simp only [binOp,ne_eq,not_true,if_false]; rfl,fun I=>.int _ _⟩
  | lss=>
    obtain ⟨hk,e⟩:=dt hr
    subst hk
    cases e
    exact ⟨.bool _,by simp only [binOp,ne_eq,not_true,if_false]; rfl,fun I=>.bool _⟩
  | leq=>
    obtain ⟨hk,e⟩:=dt hr
    subst hk
    cases e
    exact ⟨.bool _,by simp only [binOp,ne_eq,not_true,if_false]; rfl,fun I=>.bool _⟩
  | gtr=>
    obtain ⟨hk,e⟩:=dt hr
    subst hk
    cases e
    exact ⟨.bool _,by simp only [binOp,ne_eq,not_true,if_false]; rfl,fun I=>.bool _⟩
  | geq=>
    obtain ⟨hk,e⟩:=dt hr
    subst hk
    cases e
    exact ⟨.bool _,by simp only [binOp,ne_eq,not_true,if_false]; rfl,fun I=>.bool _⟩
  | eql=>
    obtain ⟨hk,e⟩:=dt hr
    subst hk
    cases e
    have e:(x == y)=decide (x=y):=by rw [Bool.eq_iff_iff]; simp
    exact ⟨.bool (x == y),by simp only [binOp,ne_eq,not_true,if_false]; rfl,fun I=>e▸.bool _⟩
  | neq=>
    obtain ⟨hk,e⟩:=dt hr
    subst hk
    cases e
    have e:(x != y) = !decide (x=y):=by rw [Bool.eq_iff_iff]; simp
    exact ⟨.bool (x != y),by simp only [binOp,ne_eq,not_true,if_false]; rfl,fun I=>e▸.bool _⟩
theorem ae.intOp {op:BinOp}{t t':TypeId}{x y:Operand}{k k':IntKind}{m n:Int}{r:D}(ho:o.op = .binOp op t x y t')(hx:ax ts x = .d (.int k m))(hy:ax ts y = .d (.int k' n))(hr:xo op k m k' n=some r):ae P o ts h (.d r) h:=
  ae.same fun G a w hi hR=>by
    have h1:=dE (hR.ev_of hx)
    have h2:=dE (hR.ev_of hy)
    obtain ⟨v,hv,hrd⟩:=xW (P:=P) (t:=t) (w:=w) hr
    refine ⟨v,?_,.d (hrd _)⟩
    simp only [execOp,ho,h1,h2,Sem.run_bind,iZ (P:=P) (a:=.int k m) rfl,Result.andThen_ok,hv,Sem.run_pure]
theorem ae.addI {t t':TypeId}{x y:Operand}{k:IntKind}{m n:Int}(ho:o.op = .binOp .add t x y t')(hx:ax ts x = .d (.int k m))(hy:ax ts y = .d (.int k n)):ae P o ts h (.d (.int k (k.wrap (m+n)))) h:=ae.intOp ho hx hy (if_pos rfl)
theorem ae.subI {t t':TypeId}{x y:Operand}{k:IntKind}{m n:Int}(ho:o.op = .binOp .sub t x y t')(hx:ax ts x = .d (.int k m))(hy:ax ts y = .d (.int k n)):ae P o ts h (.d (.int k (k.wrap (m - n)))) h:=ae.intOp ho hx hy (if_pos rfl)
theorem ae.eqlI {t t':TypeId}{x y:Operand}{k:IntKind}{m n:Int}(ho:o.op = .binOp .eql t x y t')(hx:ax ts x = .d (.int k m))(hy:ax ts y = .d (.int k n)):ae P o ts h (.d (.bool (decide (m=n)))) h:=ae.intOp ho hx hy (if_pos rfl)
theorem ae.lssI {t t':TypeId}{x y:Operand}{k:IntKind}{m n:Int}(ho:o.op = .binOp .lss t x y t')(hx:ax ts x = .d (.int k m))(hy:ax ts y = .d (.int k n)):ae P o ts h (.d (.bool (decide (m < n)))) h:=ae.intOp ho hx hy (if_pos rfl)
theorem ae.leqI {t t':TypeId}{x y:Operand}{k:IntKind}{m n:Int}(ho:o.op = .binOp .leq t x y t')(hx:ax ts x = .d (.int k m))(hy:ax ts y = .d (.int k n)):ae P o ts h (.d (.bool (decide (m≤n)))) h:=ae.intOp ho hx hy (if_pos rfl)
theorem ae.gtrI {t t':TypeId}{x y:Operand}{k:IntKind}{m n:Int}(ho:o.op = .binOp .gtr t x y t')(hx:ax ts x = .d (.int k m))(hy:ax ts y = .d (.int k n)):ae P o ts h (.d (.bool (decide (m > n)))) h:=ae.intOp ho hx hy (if_pos rfl)
theorem ae.geqI {t t':TypeId}{x y:Operand}{k:IntKind}{m n:Int}(ho:o.op = .binOp .geq t x y t')(hx:ax ts x = .d (.int k m))(hy:ax ts y = .d (.int k n)):ae P o ts h (.d (.bool (decide (m≥n)))) h:=ae.intOp ho hx hy (if_pos rfl)
theorem ae.remI {t t':TypeId}{x y:Operand}{k:IntKind}{m n:Int}(ho:o.op = .binOp .rem t x y t')(hx:ax ts x = .d (.int k m))(hy:ax ts y = .d (.int k n))(hn:n≠0):ae P o ts h (.d (.int k (m.tmod n))) h:=ae.intOp ho hx hy ((if_pos rfl).trans (if_neg hn))
theorem ae.shlI {t t':TypeId}{x y:Operand}{k k':IntKind}{m n:Int}(ho:o.op = .binOp .shl t x y t')(hx:ax ts x = .d (.int k m))(hy:ax ts y = .d (.int k' n))(hn:¬ n < 0):ae P o ts h (.d (.int k (k.wrap (m*2 ^ (min n.toNat k.bits))))) h:=ae.intOp ho hx hy (if_neg hn)
theorem ae.shrI {t t':TypeId}{x y:Operand}{k k':IntKind}{m n:Int}(ho:o.op = .binOp .shr t x y t')(hx:ax ts x = .d (.int k m))(hy:ax ts y = .d (.int k' n))(hn:¬ n < 0):ae P o ts h (.d (.int k (m.fdiv (2 ^ (min n.toNat k.bits))))) h:=ae.intOp ho hx hy (if_neg hn)
noncomputable def u4 (op:BinOp)(x y:ByteArray):Option D:=
  match op with
  | .eql=>some (.bool (decide (x=y)))
  | .neq=>some (.bool (!decide (x=y)))
  | .lss=>some (.bool (Op.bytesLess x.toList y.toList))
  | .add=>if ((x.size+y.size:Nat):Int) > IntKind.i64.max then none else some (.str (x++y))
  | _=>none
theorem lK (x y:ByteArray):(x.toList == y.toList)=decide (x=y):=by
  rw [ByteArray.toList_eq,ByteArray.toList_eq,Bool.eq_iff_iff]
  simp only [beq_iff_eq,decide_eq_true_eq]
  constructor
  · intro e
    have:x.data=y.data:=Array.toList_inj.1 e
    cases x; cases y; simp at this; rw [this]
  · rintro rfl; rfl
theorem xX {op:BinOp}{t:TypeId}{x y:ByteArray}{r:D}{w:World}(hr:u4 op x y=some r):∃ v,(binOp op t (.string x) (.string y)).run P w = .ok v w∧∀ I,RD I v r:=by
  cases op <;> simp only [u4] at hr <;> first | (cases hr; done) | skip
  case eql=>cases hr; exact ⟨.bool (x.toList == y.toList),rfl,fun I=>by rw [lK]; exact .bool _⟩
  case neq=>cases hr; exact ⟨.bool (!(x.toList == y.toList)),rfl,fun I=>by rw [lK]; exact .bool _⟩
  case lss=>cases hr; exact ⟨.bool _,rfl,fun I=>.bool _⟩
  case add=>
    by_cases hlt:((x.size+y.size:Nat):Int) > IntKind.i64.max
    · rw [if_pos hlt] at hr; cases hr
    · rw [if_neg hlt] at hr; cases hr; exact ⟨.string (x++y),by simp only [binOp,Op.stringOp,if_neg hlt]; rfl,fun I=>.str _⟩
theorem ae.strOp {op:BinOp}{t t':TypeId}{x y:Operand}{m n:ByteArray}{r:D}(ho:o.op = .binOp op t x y t')(hx:ax ts x = .d (.str m))(hy:ax ts y = .d (.str n))(hr:u4 op m n=some r):ae P o ts h (.d r) h:=
  ae.same fun G a w hi hR=>by
    have h1:=nG (hR.ev_of hx)
    have h2:=nG (hR.ev_of hy)
    obtain ⟨v,hv,hrd⟩:=xX (P:=P) (t:=t) (w:=w) hr
    refine ⟨v,?_,.d (hrd _)⟩
    simp only [execOp,ho,h1,h2,Sem.run_bind,iZ (P:=P) (a:=.string m) rfl,Result.andThen_ok,hv,Sem.run_pure]
theorem ae.addS {t t':TypeId}{x y:Operand}{m n:ByteArray}(ho:o.op = .binOp .add t x y t')(hx:ax ts x = .d (.str m))(hy:ax ts y = .d (.str n))(hn:¬ ((m.size+n.size:Nat):Int) > IntKind.i64.max):ae P o ts h (.d (.str (m++n))) h:=ae.strOp ho hx hy (if_neg hn)
theorem ae.eqlB {t t':TypeId}{x y:Operand}{m n:Bool}(ho:o.op = .binOp .eql t x y t')(hx:ax ts x = .d (.bool m))(hy:ax ts y = .d (.bool n))(ht:P.underlying t=some .bool):ae P o ts h (.d (.bool (m == n))) h:=
  ae.same fun G a w hi hR=>by
    have h1:=gp (hR.ev_of hx)
    have h2:=gp (hR.ev_of hy)
    refine ⟨.bool (m == n),?_,.d (.bool _)⟩
    simp only [execOp,ho,h1,h2,Sem.run_bind,iZ (P:=P) (a:=.bool m) rfl,Result.andThen_ok,binOp,run_equal_bool w t m n ht,Sem.run_pure]
theorem ae.neqB {t t':TypeId}{x y:Operand}{m n:Bool}(ho:o.op = .binOp .neq t x y t')(hx:ax ts x = .d (.bool m))(hy:ax ts y = .d (.bool n))(ht:P.underlying t=some .bool):ae P o ts h (.d (.bool (!(m == n)))) h:=
  ae.same fun G a w hi hR=>by
    have h1:=gp (hR.ev_of hx)
    have h2:=gp (hR.ev_of hy)
    refine ⟨.bool (!(m == n)),?_,.d (.bool _)⟩
    simp only [execOp,ho,h1,h2,Sem.run_bind,iZ (P:=P) (a:=.bool m) rfl,Result.andThen_ok,binOp,run_equal_bool w t m n ht,Sem.run_pure]
theorem ae.not {t:TypeId}{x:Operand}{b:Bool}(ho:o.op = .unOp .not t x)(hx:ax ts x = .d (.bool b)):ae P o ts h (.d (.bool (!b))) h:=
  ae.same fun G a w hi hR=>⟨.bool (!b),by simp [execOp,ho,gp (hR.ev_of hx),Op.unary],.d (.bool _)⟩
theorem ae.neg {t:TypeId}{x:Operand}{k:IntKind}{n:Int}(ho:o.op = .unOp .neg t x)(hx:ax ts x = .d (.int k n)):ae P o ts h (.d (.int k (k.wrap (0 - n)))) h:=
  ae.same fun G a w hi hR=>⟨.int k (k.wrap (0 - n)),by simp [execOp,ho,dE (hR.ev_of hx),Op.unary,Op.intArith],.d (.int _ _)⟩
noncomputable def im (P:Program)(t:TypeId):Option IntKind:=match P.underlying t with | some (.int k)=>some k | _=>none
theorem ae.convI {s t:TypeId}{x:Operand}{k k':IntKind}{n:Int}(ho:o.op = .convert s t x)(hx:ax ts x = .d (.int k n))(hs:(P.underlying s).isSome=true)(ht:im P t=some k'):ae P o ts h (.d (.int k' (k'.wrap n))) h:=
  ae.same fun G a w hi hR=>by
    have ht':P.underlying t=some (.int k'):=by unfold im at ht; split at ht <;> simp_all
    obtain ⟨d,hd⟩:=Option.isSome_iff_exists.mp hs
    exact ⟨.int k' (k'.wrap n),by simp [execOp,ho,dE (hR.ev_of hx),convert,run_underlying hd,run_underlying ht',Conv.intToInt],.d (.int _ _)⟩
theorem ae.len {t:TypeId}{x:Operand}{n sz:Nat}{get:Nat→Nat→D}{e:Nat×Bool×Nat}(ho:o.op = .call { callee:=.builtin .len,args:=#[x],argTypes:=#[t] })(hx:ax ts x = .d (.sl n sz get))(hs:cy P t=some e):ae P o ts h (.d (.int .i64 n)) h:=
  ae.same fun G a w hi hR=>by
    obtain ⟨hu,_⟩:=fE hs
    obtain ⟨a',c,hav⟩:=zJ (hR.ev_of hx)
    exact ⟨.int .i64 n,by simp [execOp,ho,resolve,invoke,builtin,Builtin.len_,run_underlying hu,hav,goInt],.d (.int _ _)⟩
theorem ae.lenO {t:TypeId}{x:Operand}{id off n sz:Nat}{e:Nat×Bool×Nat}(ho:o.op = .call { callee:=.builtin .len,args:=#[x],argTypes:=#[t] })(hx:ax ts x = .osl id off n sz)(hs:cy P t=some e):ae P o ts h (.d (.int .i64 n)) h:=
  ae.same fun G a w hi hR=>by
    obtain ⟨hu,_⟩:=fE hs
    obtain ⟨b,o',e',c,ad,hρ,hav,hc,hn,had⟩:=hD (hR.ev_of hx)
    exact ⟨.int .i64 n,by simp [execOp,ho,resolve,invoke,builtin,Builtin.len_,run_underlying hu,hav,goInt],.d (.int _ _)⟩
theorem ae.lenN {t:TypeId}{x:Operand}{e:Nat×Bool×Nat}(ho:o.op = .call { callee:=.builtin .len,args:=#[x],argTypes:=#[t] })(hx:ax ts x = .nsl)(hs:cy P t=some e):ae P o ts h (.d (.int .i64 0)) h:=
  ae.same fun G a w hi hR=>by
    obtain ⟨hu,_⟩:=fE hs
    have hav:=jB (hR.ev_of hx)
    exact ⟨.int .i64 (0:Nat),by simp [execOp,ho,resolve,invoke,builtin,Builtin.len_,run_underlying hu,hav,goInt],.d (.int _ _)⟩
theorem ae.lenR {t:TypeId}{x:Operand}{es:List AV}{e:Nat×Bool×Nat}(ho:o.op = .call { callee:=.builtin .len,args:=#[x],argTypes:=#[t] })(hx:ax ts x = .rsl es)(hs:cy P t=some e):ae P o ts h (.d (.int .i64 es.length)) h:=
  ae.same fun G a w hi hR=>by
    obtain ⟨hu,_⟩:=fE hs
    obtain ⟨b,o',c,us,hav,_⟩:=uI (hR.ev_of hx)
    exact ⟨.int .i64 es.length,by simp [execOp,ho,resolve,invoke,builtin,Builtin.len_,run_underlying hu,hav,goInt],.d (.int _ _)⟩
theorem ae.lenS {t:TypeId}{x:Operand}{s:ByteArray}(ho:o.op = .call { callee:=.builtin .len,args:=#[x],argTypes:=#[t] })(hx:ax ts x = .d (.str s))(ht:P.underlying t=some .string):ae P o ts h (.d (.int .i64 s.size)) h:=
  ae.same fun G a w hi hR=>⟨.int .i64 s.size,by simp [execOp,ho,resolve,invoke,builtin,Builtin.len_,run_underlying ht,nG (hR.ev_of hx),goInt],.d (.int _ _)⟩
theorem ae.extract {x:Operand}{i:Nat}{vs:List AV}{v:AV}(ho:o.op = .extract x i)(hx:ax ts x = .tup vs)(hv:vs[i]? = some v):ae P o ts h v h:=
  ae.same fun G a w hi hR=>by
    obtain ⟨us,hav,hl,hr⟩:=zk (hR.ev_of hx)
    · have hlt:=(List.getElem?_eq_some_iff.1 hv).1
      have:=hr i hlt
      rw [List.getD_eq_getElem?_getD,hv] at this
      refine ⟨us.getD i undef,?_,this⟩
      simp [execOp,ho,hav,Instr.extract,Array.getD_eq_getD_getElem?,hl,hlt]
theorem ae.makeFunc {f:FuncId}{fs cs:Array Operand}(ho:o.op = .makeFunc (.func f) fs cs):ae P o ts h (.clo f (fs.toList.map (ax ts)) (cs.toList.map (ax ts))) h:=
  ae.same fun G a w hi hR=>by
    refine ⟨.func (.func f) (fs.map a.eval) (cs.map a.eval),by simp [execOp,ho,Instr.makeFunc],.clo f _ _ _ _ (by simp) (fun i hlt=>?_) (by simp) (fun i hlt=>?_)⟩
    · have hlt':i < fs.size:=by simpa using hlt
      simp [List.getD_eq_getElem?_getD,Array.getD_eq_getD_getElem?,hlt']
      exact hR.ev _
    · have hlt':i < cs.size:=by simpa using hlt
      simp [List.getD_eq_getElem?_getD,Array.getD_eq_getD_getElem?,hlt']
      exact hR.ev _
theorem ae.makeFunc0 {f:FuncId}(ho:o.op = .makeFunc (.func f) #[] #[]):ae P o ts h (.d (.fn f)) h:=
  ae.same fun G a w hi hR=>⟨.func (.func f) #[] #[],by simp [execOp,ho,Instr.makeFunc],.d (.fn f)⟩
end
end Go.Abs
namespace Go.Abs
mutual
noncomputable def AV.tr (τ:Nat→Option Nat):AV→AV
  | .d x=>.d x
  | .agg cs=>.agg (fk τ cs)
  | .tup cs=>.tup (fk τ cs)
  | .ptr id off=>match τ id with | some i=>.ptr i off | none=>.bad
  | .eptr id i k sz=>match τ id with | some j=>.eptr j i k sz | none=>.bad
  | .vp n get=>.vp n get
  | .osl id off n sz=>match τ id with | some i=>.osl i off n sz | none=>.bad
  | .mp id=>match τ id with | some i=>.mp i | none=>.bad
  | .clo f fs cs=>.clo f (fk τ fs) (fk τ cs)
  | .nsl=>.nsl
  | .rsl es=>.rsl (fk τ es)
  | .rp v=>.rp (v.tr τ)
  | .bad=>.bad
noncomputable def fk (τ:Nat→Option Nat):List AV→List AV
  | []=>[]
  | c::cs=>c.tr τ::fk τ cs
end
mutual
noncomputable def AV.okT (τ:Nat→Option Nat):AV→Bool
  | .d _=>true
  | .agg cs=>et τ cs
  | .tup cs=>et τ cs
  | .ptr id _=>(τ id).isSome
  | .eptr id _ _ _=>(τ id).isSome
  | .vp _ _=>true
  | .osl id _ _ _=>(τ id).isSome
  | .mp id=>(τ id).isSome
  | .clo _ fs cs=>et τ fs&&et τ cs
  | .nsl=>true
  | .rsl es=>et τ es
  | .rp v=>v.okT τ
  | .bad=>true
noncomputable def et (τ:Nat→Option Nat):List AV→Bool
  | []=>true
  | c::cs=>c.okT τ&&et τ cs
end
theorem aS (τ):∀ cs,(fk τ cs).length=cs.length
  | []=>rfl
  | c::cs=>by simp [fk,aS τ cs]
theorem dv (τ):∀ (cs:List AV) (i:Nat),i < cs.length→(fk τ cs).getD i default=(cs.getD i default).tr τ
  | [],i,h=>by simp at h
  | c::cs,0,h=>by simp [fk]
  | c::cs,i+1,h=>by simpa [fk] using dv τ cs i (by simpa using h)
theorem g9 (τ):∀ (cs:List AV) (i:Nat),et τ cs=true→i < cs.length→(cs.getD i default).okT τ=true
  | [],i,_,h=>by simp at h
  | c::cs,0,ho,h=>by simp [et] at ho; simpa using ho.1
  | c::cs,i+1,ho,h=>by
    simp [et] at ho
    simpa using g9 τ cs i ho.2 (by simpa using h)
theorem RV.tr_in {G Gc:Gh}{τ:Nat→Option Nat}(hI:Gc.I=G.I)(hρ:∀ j id p,τ j=some id→G.ρ id=some p→Gc.ρ j=some p){v:Value}{x:AV}(h:RV G v x):∀ y:AV,x=y.tr τ→y.okT τ=true→RV Gc v y:=by
  induction h with
  | d h=>
    intro y e ho
    cases y <;> simp only [AV.tr] at e <;> first | (cases e; exact .d (hI▸h)) | (cases e; done) | (split at e <;> cases e)
  | agg vs cs hl h ih=>
    intro y e ho
    cases y <;> simp only [AV.tr] at e <;> first | (cases e; done) | (split at e <;> cases e; done) | skip
    rename_i cs'
    cases e
    refine .agg vs cs' (by rw [hl,aS]) fun i hi=>ih i (by rw [aS]; exact hi) _ (dv τ cs' i hi) (g9 τ cs' i (by simpa [AV.okT] using ho) hi)
  | tup vs cs hl h ih=>
    intro y e ho
    cases y <;> simp only [AV.tr] at e <;> first | (cases e; done) | (split at e <;> cases e; done) | skip
    rename_i cs'
    cases e
    refine .tup vs cs' (by rw [hl,aS]) fun i hi=>ih i (by rw [aS]; exact hi) _ (dv τ cs' i hi) (g9 τ cs' i (by simpa [AV.okT] using ho) hi)
  | ptr off h=>
    intro y e ho
    cases y <;> simp only [AV.tr] at e <;> first | (cases e; done) | skip
    all_goals split at e <;> cases e
    rename_i hj
    exact .ptr _ (hρ _ _ _ hj h)
  | eptr i k sz h=>
    intro y e ho
    cases y <;> simp only [AV.tr] at e <;> first | (cases e; done) | skip
    all_goals split at e <;> cases e
    rename_i hj
    exact .eptr _ _ _ (hρ _ _ _ hj h)
  | vp b o u hI' hr=>
    intro y e ho
    cases y <;> simp only [AV.tr] at e <;> first | (cases e; done) | (split at e <;> cases e; done) | skip
    cases e
    exact .vp b o u (hI▸hI') (hI▸hr)
  | osl ad off n sz c h hc hn had=>
    intro y e ho
    cases y <;> simp only [AV.tr] at e <;> first | (cases e; done) | skip
    all_goals split at e <;> cases e
    rename_i hj
    exact .osl _ _ _ _ c (hρ _ _ _ hj h) hc hn had
  | mp h=>
    intro y e ho
    cases y <;> simp only [AV.tr] at e <;> first | (cases e; done) | skip
    all_goals split at e <;> cases e
    rename_i hj
    exact .mp (hρ _ _ _ hj h)
  | clo f vs us fs cs hl h hl' h' ih ih'=>
    intro y e ho
    cases y <;> simp only [AV.tr] at e <;> first | (cases e; done) | (split at e <;> cases e; done) | skip
    rename_i f' fs' cs'
    cases e
    simp [AV.okT] at ho
    exact .clo f vs us fs' cs' (by rw [hl,aS]) (fun i hi=>ih i (by rw [aS]; exact hi) _ (dv τ fs' i hi) (g9 τ fs' i ho.1 hi))
      (by rw [hl',aS]) (fun i hi=>ih' i (by rw [aS]; exact hi) _ (dv τ cs' i hi) (g9 τ cs' i ho.2 hi))
  | nsl=>
    intro y e ho
    cases y <;> simp only [AV.tr] at e <;> first | (cases e; done) | (split at e <;> cases e; done) | skip
    exact .nsl
  | rsl b o c us es hl hc hI' h ih=>
    intro y e ho
    cases y <;> simp only [AV.tr] at e <;> first | (cases e; done) | (split at e <;> cases e; done) | skip
    rename_i es'
    cases e
    rw [aS] at hl hc hI' ⊢
    exact .rsl b o c us es' hl hc (hI▸hI') (fun i hi=>ih i (by rw [aS]; exact hi) _ (dv τ es' i hi) (g9 τ es' i (by simpa [AV.okT] using ho) hi))
  | rp b o u hI' h ih=>
    intro y e ho
    cases y <;> simp only [AV.tr] at e <;> first | (cases e; done) | (split at e <;> cases e; done) | skip
    rename_i v'
    cases e
    exact .rp b o u (hI▸hI') (ih _ rfl (by simpa [AV.okT] using ho))
  | bad v=>
    intro y e ho
    cases y <;> simp only [AV.tr,AV.okT] at e ho <;> first | (cases e; done) | (exact .bad v) | skip
    all_goals (split at e <;> first | (cases e; done) | (rename_i hj; rw [hj] at ho; cases ho))
theorem RV.tr_out {G Gc:Gh}{τ:Nat→Option Nat}(hI:∀ b o v,Gc.I b o=some v→G.I b o=some v)(hρ:∀ j id p,τ j=some id→Gc.ρ j=some p→G.ρ id=some p){v:Value}{y:AV}(h:RV Gc v y):RV G v (y.tr τ):=by
  induction h with
  | d h=>exact .d (h.mono hI)
  | agg vs cs hl h ih=>exact .agg vs _ (by rw [hl,aS]) fun i hi=>by rw [aS] at hi; rw [dv τ cs i hi]; exact ih i hi
  | tup vs cs hl h ih=>exact .tup vs _ (by rw [hl,aS]) fun i hi=>by rw [aS] at hi; rw [dv τ cs i hi]; exact ih i hi
  | ptr off h=>
    simp only [AV.tr]
    split
    · rename_i hj; exact .ptr _ (hρ _ _ _ hj h)
    · exact .bad _
  | eptr i k sz h=>
    simp only [AV.tr]
    split
    · rename_i hj; exact .eptr _ _ _ (hρ _ _ _ hj h)
    · exact .bad _
  | vp b o u hI' hr=>exact .vp b o u (fun j hj=>hI _ _ _ (hI' j hj)) (fun j hj=>(hr j hj).mono hI)
  | osl ad off n sz c h hc hn had=>
    simp only [AV.tr]
    split
    · rename_i hj; exact .osl _ _ _ _ c (hρ _ _ _ hj h) hc hn had
    · exact .bad _
  | mp h=>
    simp only [AV.tr]
    split
    · rename_i hj; exact .mp (hρ _ _ _ hj h)
    · exact .bad _
  | clo f vs us fs cs hl h hl' h' ih ih'=>
    exact .clo f vs us _ _ (by rw [hl,aS]) (fun i hi=>by rw [aS] at hi; rw [dv τ fs i hi]; exact ih i hi) (by rw [hl',aS]) (fun i hi=>by rw [aS] at hi; rw [dv τ cs i hi]; exact ih' i hi)
  | nsl=>exact .nsl
  | rsl b o c us es hl hc hI' h ih=>
    have e:es.length=(fk τ es).length:=(aS τ es).symm
    simp only [AV.tr]
    rw [e]
    exact .rsl b o c us _ (by rw [hl,aS]) (by rw [aS]; exact hc) (fun i hi=>hI _ _ _ (hI' i (by rw [aS] at hi; exact hi))) (fun i hi=>by rw [aS] at hi; rw [dv τ es i hi]; exact ih i hi)
  | rp b o u hI' h ih=>exact .rp b o u (hI _ _ _ hI') ih
  | bad v=>exact .bad v
noncomputable def aQ.tr (τ:Nat→Option Nat):aQ→aQ
  | .var cs=>.var (fk τ cs)
  | ob=>ob
noncomputable def aQ.okT (τ:Nat→Option Nat):aQ→Bool
  | .var cs=>et τ cs
  | _=>true
noncomputable def ak.tr (τ:Nat→Option Nat):ak→ak
  | .live ob=>.live (ob.tr τ)
  | s=>s
theorem cF (τ)(p ob):bX p (aQ.tr τ ob)=bX p ob:=by
  cases ob <;> first | rfl | (funext b k; simp [aQ.tr,bX,aS])
theorem bH.tr_in {G Gc:Gh}{τ:Nat→Option Nat}(hI:Gc.I=G.I)(hρ:∀ j id p,τ j=some id→G.ρ id=some p→Gc.ρ j=some p){w:World}{p}{ob:aQ}(h:bH G w p (ob.tr τ))(ho:ob.okT τ=true):bH Gc w p ob:=by
  cases ob with
  | var cs=>
    obtain ⟨h1,h2⟩:=h
    refine ⟨h1,fun i hi=>?_⟩
    obtain ⟨v,c1,c2,c3⟩:=h2 i (by rw [aS]; exact hi)
    exact ⟨v,c1,c2,c3.tr_in hI hρ _ (dv τ cs i hi) (g9 τ cs i ho hi)⟩
  | arr sz n ex get=>simpa [aQ.tr,bH,hI] using h
  | mp es=>simpa [aQ.tr,bH,hI] using h
theorem bH.tr_out {G Gc:Gh}{τ:Nat→Option Nat}(hI:G.I=Gc.I)(hρ:∀ j id p,τ j=some id→Gc.ρ j=some p→G.ρ id=some p){w:World}{p}{ob:aQ}(h:bH Gc w p ob):bH G w p (ob.tr τ):=by
  cases ob with
  | var cs=>
    obtain ⟨h1,h2⟩:=h
    refine ⟨h1,fun i hi=>?_⟩
    rw [aS] at hi
    obtain ⟨v,c1,c2,c3⟩:=h2 i hi
    exact ⟨v,c1,c2,by rw [dv τ cs i hi]; exact c3.tr_out (fun b o v x=>by rw [hI]; exact x) hρ⟩
  | arr sz n ex get=>simpa [aQ.tr,bH,hI] using h
  | mp es=>simpa [aQ.tr,bH,hI] using h
noncomputable def d8:List ak→List Nat→List ak→List ak
  | h,id::σ,s::ss=>d8 (h.set id s) σ ss
  | h,_,_=>h
theorem dm:∀ (σ:List Nat) (ss h:List ak),(d8 h σ ss).length=h.length
  | [],ss,h=>by cases ss <;> rfl
  | id::σ,[],h=>rfl
  | id::σ,s::ss,h=>by simp [d8,dm σ ss]
theorem fD:∀ (σ:List Nat) (ss h:List ak) (id:Nat),id∉σ→(d8 h σ ss)[id]? = h[id]?
  | [],ss,h,id,_=>by cases ss <;> rfl
  | x::σ,[],h,id,_=>rfl
  | x::σ,s::ss,h,id,hn=>by
    simp only [List.mem_cons,not_or] at hn
    rw [d8,fD σ ss _ id hn.2,List.getElem?_set_ne (Ne.symm hn.1)]
theorem lb:∀ (σ:List Nat) (ss h:List ak) (j id:Nat) (s:ak),σ.Nodup→σ[j]? = some id→ss[j]? = some s→id < h.length→(d8 h σ ss)[id]? = some s
  | [],ss,h,j,id,s,_,h1,_,_=>by simp at h1
  | x::σ,[],h,j,id,s,_,_,h2,_=>by simp at h2
  | x::σ,t::ss,h,0,id,s,hn,h1,h2,hl=>by
    simp at h1 h2
    subst h1 h2
    rw [d8,fD σ ss _ x (List.nodup_cons.1 hn).1,List.getElem?_set_self hl]
  | x::σ,t::ss,h,j+1,id,s,hn,h1,h2,hl=>by
    rw [d8]
    exact lb σ ss _ j id s (List.nodup_cons.1 hn).2 (by simpa using h1) (by simpa using h2) (by simpa using hl)
noncomputable def names (σ:List Nat)(m base:Nat)(j:Nat):Option Nat:=if j < m then σ[j]? else some (base+(j - m))
noncomputable def ed (h:List ak)(σ:List Nat)(hc:List ak):List ak:=
  d8 h σ ((hc.take σ.length).map (ak.tr (names σ σ.length h.length)))++(hc.drop σ.length).map (ak.tr (names σ σ.length h.length))
end Go.Abs
namespace Go.Abs
theorem ms (h σ hc):(ed h σ hc).length=h.length+(hc.length - σ.length):=by
  simp [ed,dm]
theorem jS {h:List ak}{σ:List Nat}{hc:List ak}{id:Nat}(hl:id < h.length)(hn:id∉σ):(ed h σ hc)[id]? = h[id]?:=by
  unfold ed
  rw [List.getElem?_append_left (by rw [dm]; exact hl),fD σ _ h id hn]
theorem nd {h:List ak}{σ:List Nat}{hc:List ak}{j id:Nat}{s:ak}(hnd:σ.Nodup)(hj:σ[j]? = some id)(hs:hc[j]? = some s)(hl:id < h.length):(ed h σ hc)[id]? = some (s.tr (names σ σ.length h.length)):=by
  unfold ed
  have hjl:=(List.getElem?_eq_some_iff.1 hj).1
  rw [List.getElem?_append_left (by rw [dm]; exact hl)]
  refine lb σ _ h j id _ hnd hj ?_ hl
  rw [List.getElem?_map,List.getElem?_take_of_lt hjl,hs]
  rfl
theorem pE {h:List ak}{σ:List Nat}{hc:List ak}{id:Nat}(hl:h.length≤id):(ed h σ hc)[id]? = (hc[σ.length+(id - h.length)]?).map (ak.tr (names σ σ.length h.length)):=by
  unfold ed
  rw [List.getElem?_append_right (by rw [dm]; exact hl),dm,List.getElem?_map,List.getElem?_drop]
theorem SC.use {P:Program}{f:FuncId}{args:List AV}{hs:List aQ}{r:AV}{hc:List ak}(sc:SC P f args hs r hc){σ:List Nat}{h:List ak}(hnd:σ.Nodup)(hlen:σ.length=hs.length)(hcl:hs.length≤hc.length)
    (hm:∀ (j id:Nat) (ob:aQ),σ[j]? = some id→hs[j]? = some ob→h[id]? = some (.live (ob.tr (fun j=>σ[j]?)))∧ob.okT (fun j=>σ[j]?)=true)
    {G:Gh} {w:World} (hi:Inv G h w) {vs:Array Value} (hsz:vs.size=args.length)
    (hv:∀ i,i < args.length→RV G (vs.getD i undef) ((args.getD i default).tr (fun j=>σ[j]?))) (hok:et (fun j=>σ[j]?) args=true)
    (R:Ending→World→Prop) (hR:∀ v w' G',RV G' v (r.tr (names σ σ.length h.length))→Inv G' (ed h σ hc) w'→d5 G h w G' (ed h σ hc) w'→R (.returned v) w'):Calls P f vs w R:=by
  let τ:Nat→Option Nat:=fun j=>σ[j]?
  let τ':=names σ σ.length h.length
  let Gc:Gh:=⟨G.I,fun j=>(σ[j]?).bind G.ρ,G.tab⟩
  have hin:∀ j id p,τ j=some id→G.ρ id=some p→Gc.ρ j=some p:=fun j id p h1 h2=>by show (σ[j]?).bind G.ρ=some p; rw [show σ[j]? = some id from h1]; exact h2
  have hslot:∀ (j:Nat) (ob:aQ),(hs.map ak.live)[j]? = some (.live ob)→hs[j]? = some ob:=fun j ob h1=>by
    rw [List.getElem?_map] at h1
    obtain ⟨x,h2,h3⟩:=Option.map_eq_some_iff.1 h1
    cases h3
    exact h2
  have hσ:∀ (j:Nat) (ob:aQ),hs[j]? = some ob→∃ id,σ[j]? = some id∧h[id]? = some (.live (ob.tr τ)):=fun j ob h1=>by
    have hj:j < σ.length:=by rw [hlen]; exact (List.getElem?_eq_some_iff.1 h1).1
    have h2:=List.getElem?_eq_getElem hj
    exact ⟨_,h2,(hm j _ ob h2 h1).1⟩
  have hρc:∀ j p,Gc.ρ j=some p→∃ id,σ[j]? = some id∧G.ρ id=some p:=fun j p h1=>by
    obtain ⟨id,h2,h3⟩:=Option.bind_eq_some_iff.1 h1
    exact ⟨id,h2,h3⟩
  have hcinv:Inv Gc (hs.map .live) w:=by
    refine ⟨hi.imm,fun j ob h1=>?_,fun j hj=>?_,fun j h1=>?_,?_,?_⟩
    · have h2:=hslot j ob h1
      obtain ⟨id,h3,h4⟩:=hσ j ob h2
      obtain ⟨p,h5,h6⟩:=hi.obj id _ h4
      exact ⟨p,hin j id p h3 h5,bH.tr_in (G:=G) (Gc:=Gc) rfl hin h6 (hm j id ob h3 h2).2⟩
    · show (σ[j]?).bind G.ρ=none
      rw [List.getElem?_eq_none (by simp at hj; omega)]
      rfl
    · rw [List.getElem?_map] at h1
      obtain ⟨x,_,h3⟩:=Option.map_eq_some_iff.1 h1
      cases h3
    · intro j ob p j' ob' p' hne h1 h2 h3 h4 b k f1 f2
      obtain ⟨id,g1,g2⟩:=hσ j ob (hslot j ob h1)
      obtain ⟨id',g3,g4⟩:=hσ j' ob' (hslot j' ob' h3)
      obtain ⟨i1,e1,e2⟩:=hρc j p h2
      obtain ⟨i2,e3,e4⟩:=hρc j' p' h4
      rw [g1] at e1; cases e1
      rw [g3] at e3; cases e3
      have hid:id≠id':=by
        rintro rfl
        have l1:=(List.getElem?_eq_some_iff.1 g1).1
        have l2:=(List.getElem?_eq_some_iff.1 g3).1
        exact hne ((List.getElem?_inj l1 hnd).1 (g1.trans g3.symm))
      exact hi.disj id _ p id' _ p' hid g2 e2 g4 e4 b k (by rw [cF]; exact f1) (by rw [cF]; exact f2)
    · intro j ob p h1 h2 b k f1
      obtain ⟨id,g1,g2⟩:=hσ j ob (hslot j ob h1)
      obtain ⟨i1,e1,e2⟩:=hρc j p h2
      rw [g1] at e1; cases e1
      exact hi.free id _ p g2 e2 b k (by rw [cF]; exact f1)
  have hfc:∀ b k,cN Gc (hs.map .live) b k→∃ (j id:Nat) (ob:aQ) (p:Nat×Nat×Nat),σ[j]? = some id∧hs[j]? = some ob∧h[id]? = some (.live (ob.tr τ))∧G.ρ id=some p∧bX p (ob.tr τ) b k:=by
    rintro b k ⟨j,ob,p,h1,h2,h3⟩
    obtain ⟨id,g1,g2⟩:=hσ j ob (hslot j ob h1)
    obtain ⟨i1,e1,e2⟩:=hρc j p h2
    rw [g1] at e1; cases e1
    exact ⟨j,id,ob,p,g1,hslot j ob h1,g2,e2,by rw [cF]; exact h3⟩
  have hfcH:∀ b k,cN Gc (hs.map .live) b k→cN G h b k:=fun b k x=>by
    obtain ⟨j,id,ob,p,_,_,h3,h4,h5⟩:=hfc b k x
    exact ⟨id,_,p,h3,h4,h5⟩
  refine sc.calls Gc w vs hcinv hsz (fun i hlt=>RV.tr_in (G:=G) (Gc:=Gc) rfl hin (hv i hlt) _ rfl (g9 _ args i hok hlt)) R fun v w' Gc' hrv hi' he=>?_
  have hmI:(hs.map ak.live).length=σ.length:=by rw [List.length_map,hlen]
  let G':Gh:=⟨Gc'.I,fun id=>if id < h.length then G.ρ id else Gc'.ρ (σ.length+(id - h.length)),Gc'.tab⟩
  have hG'old:∀ id,id < h.length→G'.ρ id=G.ρ id:=fun id hl=>by simp [G',hl]
  have hG'new:∀ id,h.length≤id→G'.ρ id=Gc'.ρ (σ.length+(id - h.length)):=fun id hl=>by simp [G',Nat.not_lt.2 hl]
  have hle:G.Le G':=⟨fun b o v x=>he.imono b o v x,fun id p x=>by
    have hl:id < h.length:=by
      rcases Nat.lt_or_ge id h.length with h1 | h1
      · exact h1
      · rw [hi.fresh id h1] at x; cases x
    rw [hG'old id hl]; exact x⟩
  have hσlt:∀ j id,σ[j]? = some id→id < h.length:=fun j id h1=>by
    have hj:j < hs.length:=by rw [← hlen]; exact (List.getElem?_eq_some_iff.1 h1).1
    obtain ⟨id',h2,h3⟩:=hσ j _ (List.getElem?_eq_getElem hj)
    rw [h1] at h2; cases h2
    exact eV h3
  have hkeep:∀ j id p,σ[j]? = some id→Gc'.ρ j=some p→G.ρ id=some p:=fun j id p h1 h2=>by
    have hj:j < hs.length:=by rw [← hlen]; exact (List.getElem?_eq_some_iff.1 h1).1
    obtain ⟨id',h3,h4⟩:=hσ j _ (List.getElem?_eq_getElem hj)
    rw [h1] at h3; cases h3
    obtain ⟨p',h5,_⟩:=hi.obj id _ h4
    have:=he.rmono j p' hj (hin j id p' h1 h5)
    rw [h2] at this; cases this
    exact h5
  have hout:∀ j id p,τ' j=some id→Gc'.ρ j=some p→G'.ρ id=some p:=by
    intro j id p h1 h2
    by_cases hj:j < σ.length
    · have h1':σ[j]? = some id:=by simpa [τ',names,hj] using h1
      rw [hG'old id (hσlt j id h1')]
      exact hkeep j id p h1' h2
    · have h1':h.length+(j - σ.length)=id:=by simpa [τ',names,hj] using h1
      rw [hG'new id (by omega)]
      rw [show σ.length+(id - h.length)=j by omega]
      exact h2
  have hsplit:∀ id ob,(ed h σ hc)[id]? = some (.live ob)→(id < h.length∧id∉σ∧h[id]? = some (.live ob))∨∃ j ob0,τ' j=some id∧hc[j]? = some (.live ob0)∧ob=ob0.tr τ':=by
    intro id ob h1
    rcases Nat.lt_or_ge id h.length with hl | hl
    · by_cases hmem:id∈σ
      · obtain ⟨j,hj⟩:=List.mem_iff_getElem?.1 hmem
        have hjl:j < σ.length:=(List.getElem?_eq_some_iff.1 hj).1
        have hcj:j < hc.length:=by omega
        rw [nd hnd hj (List.getElem?_eq_getElem hcj) hl] at h1
        cases hx:hc[j] with
        | live ob0=>
          rw [hx] at h1
          simp only [ak.tr,Option.some.injEq,ak.live.injEq] at h1
          exact .inr ⟨j,ob0,by show names _ _ _ j=_; unfold names; rw [if_pos hjl]; exact hj,by rw [List.getElem?_eq_getElem hcj,hx],h1.symm⟩
        | freed=>rw [hx] at h1; simp [ak.tr] at h1
        | resv=>rw [hx] at h1; simp [ak.tr] at h1
      · rw [jS hl hmem] at h1
        exact .inl ⟨hl,hmem,h1⟩
    · rw [pE hl] at h1
      obtain ⟨s,hs1,hs2⟩:=Option.map_eq_some_iff.1 h1
      cases s with
      | live ob0=>
        simp only [ak.tr,ak.live.injEq] at hs2
        exact .inr ⟨σ.length+(id - h.length),ob0,by simp [τ',names]; omega,hs1,hs2.symm⟩
      | freed=>simp [ak.tr] at hs2
      | resv=>simp [ak.tr] at hs2
  have hapart:∀ id ob p,id∉σ→h[id]? = some (.live ob)→G.ρ id=some p→∀ b k,bX p ob b k→¬ cN Gc (hs.map .live) b k:=by
    intro id ob p hn h1 h2 b k f1 f2
    obtain ⟨j,id',ob',p',g1,_,g3,g4,g5⟩:=hfc b k f2
    exact hi.disj id ob p id' _ p' (fun e=>hn (e▸List.mem_of_getElem? g1)) h1 h2 g3 g4 b k f1 g5
  have hcfoot:∀ j ob p,hc[j]? = some (.live ob)→Gc'.ρ j=some p→∀ b k,bX p ob b k→cN Gc (hs.map .live) b k∨w.heap.size≤b:=fun j ob p h1 h2 b k h3=>he.fnew b k ⟨j,ob,p,h1,h2,h3⟩
  have hcρ:∀ j id p,τ' j=some id→hc[j]?.isSome=true→G'.ρ id=some p→Gc'.ρ j=some p:=by
    intro j id p h1 h0 h2
    by_cases hj:j < σ.length
    · have h1':σ[j]? = some id:=by simpa [τ',names,hj] using h1
      rw [hG'old id (hσlt j id h1')] at h2
      exact he.rmono j p (by rw [hlen] at hj; exact hj) (hin j id p h1' h2)
    · have h1':h.length+(j - σ.length)=id:=by simpa [τ',names,hj] using h1
      rw [hG'new id (by omega)] at h2
      rw [show σ.length+(id - h.length)=j by omega] at h2
      exact h2
  have hinj:∀ j j' id,τ' j=some id→τ' j'=some id→j=j':=by
    intro j j' id h1 h2
    by_cases hj:j < σ.length <;> by_cases hj':j' < σ.length
    · have e1:σ[j]? = some id:=by simpa [τ',names,hj] using h1
      have e2:σ[j']? = some id:=by simpa [τ',names,hj'] using h2
      exact (List.getElem?_inj hj hnd).1 (e1.trans e2.symm)
    · have e1:σ[j]? = some id:=by simpa [τ',names,hj] using h1
      have e2:h.length+(j' - σ.length)=id:=by simpa [τ',names,hj'] using h2
      have:=hσlt j id e1
      omega
    · have e1:h.length+(j - σ.length)=id:=by simpa [τ',names,hj] using h1
      have e2:σ[j']? = some id:=by simpa [τ',names,hj'] using h2
      have:=hσlt j' id e2
      omega
    · have e1:h.length+(j - σ.length)=id:=by simpa [τ',names,hj] using h1
      have e2:h.length+(j' - σ.length)=id:=by simpa [τ',names,hj'] using h2
      omega
  have hinv:Inv G' (ed h σ hc) w':=by
    refine ⟨hi'.imm,fun id ob h1=>?_,fun id hl=>?_,fun id h1=>?_,?_,?_⟩
    · rcases hsplit id ob h1 with ⟨hl,hn,h2⟩ | ⟨j,ob0,h2,h3,rfl⟩
      · obtain ⟨p,h3,h4⟩:=hi.obj id ob h2
        exact ⟨p,by rw [hG'old id hl]; exact h3,h4.frame he.pres hle (hapart id ob p hn h2 h3)⟩
      · obtain ⟨p,h4,h5⟩:=hi'.obj j ob0 h3
        exact ⟨p,hout j id p h2 h4,bH.tr_out (G:=G') (Gc:=Gc') rfl hout h5⟩
    · rw [ms] at hl
      rw [hG'new id (by omega)]
      exact hi'.fresh _ (by omega)
    · rcases Nat.lt_or_ge id h.length with hl | hl
      · by_cases hmem:id∈σ
        · obtain ⟨j,hj⟩:=List.mem_iff_getElem?.1 hmem
          have hjl:j < σ.length:=(List.getElem?_eq_some_iff.1 hj).1
          have hcj:j < hc.length:=by omega
          rw [nd hnd hj (List.getElem?_eq_getElem hcj) hl] at h1
          cases hx:hc[j] with
          | live ob0=>rw [hx] at h1; simp [ak.tr] at h1
          | freed=>rw [hx] at h1; simp [ak.tr] at h1
          | resv=>
            have h2:=hi'.resv j (by rw [List.getElem?_eq_getElem hcj,hx])
            rw [hG'old id hl]
            cases hρ:G.ρ id with
            | none=>rfl
            | some p=>
              have:=he.rmono j p (by rw [← hlen]; exact hjl) (hin j id p hj hρ)
              rw [h2] at this; cases this
        · rw [jS hl hmem] at h1
          rw [hG'old id hl]
          exact hi.resv id h1
      · rw [pE hl] at h1
        obtain ⟨s,hs1,hs2⟩:=Option.map_eq_some_iff.1 h1
        cases s with
        | live ob0=>simp [ak.tr] at hs2
        | freed=>simp [ak.tr] at hs2
        | resv=>
          rw [hG'new id hl]
          exact hi'.resv _ hs1
    · intro i1 o1 p1 i2 o2 p2 hne h1 h2 h3 h4 b k f1 f2
      rcases hsplit i1 o1 h1 with ⟨l1,n1,a1⟩ | ⟨j1,ob1,t1,a1,rfl⟩
      · rw [hG'old i1 l1] at h2
        rcases hsplit i2 o2 h3 with ⟨l2,n2,a2⟩ | ⟨j2,ob2,t2,a2,rfl⟩
        · rw [hG'old i2 l2] at h4
          exact hi.disj i1 o1 p1 i2 o2 p2 hne a1 h2 a2 h4 b k f1 f2
        · have e:=hcρ j2 i2 p2 t2 (by rw [a2]; rfl) h4
          rw [cF] at f2
          rcases hcfoot j2 ob2 p2 a2 e b k f2 with x | x
          · exact hapart i1 o1 p1 n1 a1 h2 b k f1 x
          · have:=hi.blk a1 h2 f1
            have:=fJ f1
            omega
      · have e1:=hcρ j1 i1 p1 t1 (by rw [a1]; rfl) h2
        rw [cF] at f1
        rcases hsplit i2 o2 h3 with ⟨l2,n2,a2⟩ | ⟨j2,ob2,t2,a2,rfl⟩
        · rw [hG'old i2 l2] at h4
          rcases hcfoot j1 ob1 p1 a1 e1 b k f1 with x | x
          · exact hapart i2 o2 p2 n2 a2 h4 b k f2 x
          · have:=hi.blk a2 h4 f2
            have:=fJ f2
            omega
        · have e2:=hcρ j2 i2 p2 t2 (by rw [a2]; rfl) h4
          rw [cF] at f2
          refine hi'.disj j1 ob1 p1 j2 ob2 p2 (fun e=>hne ?_) a1 e1 a2 e2 b k f1 f2
          subst e
          rw [t1] at t2; cases t2; rfl
    · intro i1 o1 p1 h1 h2 b k f1
      rcases hsplit i1 o1 h1 with ⟨l1,n1,a1⟩ | ⟨j1,ob1,t1,a1,rfl⟩
      · rw [hG'old i1 l1] at h2
        show Gc'.I b k=none
        cases hx:Gc'.I b k with
        | none=>rfl
        | some v=>
          rcases he.inew b k v hx with y | y | y
          · have:G.I b k=some v:=y
            rw [hi.free i1 o1 p1 a1 h2 b k f1] at this; cases this
          · exact absurd y (hapart i1 o1 p1 n1 a1 h2 b k f1)
          · have:=hi.blk a1 h2 f1
            have:=fJ f1
            omega
      · have e1:=hcρ j1 i1 p1 t1 (by rw [a1]; rfl) h2
        rw [cF] at f1
        exact hi'.free j1 ob1 p1 a1 e1 b k f1
  refine hR v w' G' (RV.tr_out (G:=G') (Gc:=Gc') (fun b o v x=>x) hout hrv) hinv ⟨hle,he.pres.imp hfcH,fun b o v x=>?_,?_⟩
  · rcases he.inew b o v x with y | y | y
    · exact .inl y
    · exact .inr (.inl (hfcH _ _ y))
    · exact .inr (.inr y)
  · rintro b k ⟨id,ob,p,h1,h2,h3⟩
    rcases hsplit id ob h1 with ⟨l1,n1,a1⟩ | ⟨j1,ob1,t1,a1,rfl⟩
    · rw [hG'old id l1] at h2
      exact .inl ⟨id,ob,p,a1,h2,h3⟩
    · have e1:=hcρ j1 id p t1 (by rw [a1]; rfl) h2
      rw [cF] at h3
      rcases hcfoot j1 ob1 p a1 e1 b k h3 with y | y
      · exact .inl (hfcH _ _ y)
      · exact .inr y
noncomputable def pu:AV→List AV→Option (FuncId×List AV)
  | .d (.fn f),az9=>some (f,az9)
  | .clo f fs cs,az9=>some (f,fs++az9++cs)
  | _,_=>none
noncomputable def gB (τ:Nat→Option Nat)(h:List ak):List Nat→List aQ→Prop
  | id::σ,ob::hs=>(h[id]? = some (.live (ob.tr τ))∧ob.okT τ=true)∧gB τ h σ hs
  | [],[]=>True
  | _,_=>False
theorem gB.len {τ h}:∀ {σ hs},gB τ h σ hs→σ.length=hs.length
  | [],[],_=>rfl
  | [],_::_,x=>x.elim
  | _::_,[],x=>x.elim
  | _::σ,_::hs,x=>by simp [gB.len (σ:=σ) (hs:=hs) x.2]
theorem gB.at_ {τ h}:∀ {σ hs},gB τ h σ hs→∀ (j id:Nat) (ob:aQ),σ[j]? = some id→hs[j]? = some ob→h[id]? = some (.live (ob.tr τ))∧ob.okT τ=true
  | [],_,_,j,id,ob,h1,_=>by simp at h1
  | _::_,[],x,_,_,_,_,_=>x.elim
  | i::σ,o::hs,x,0,id,ob,h1,h2=>by simp at h1 h2; subst h1 h2; exact x.1
  | i::σ,o::hs,x,j+1,id,ob,h1,h2=>gB.at_ (σ:=σ) (hs:=hs) x.2 j id ob (by simpa using h1) (by simpa using h2)
theorem ae.call {P:Program}{o:Oper}{ts:List (Nat×AV)}{h:List ak}{fo:Operand}{args:Array Operand}{tys:Array TypeId}{f:FuncId}{cargs:List AV}{hs:List aQ}{r:AV}{hc:List ak}
    (σ:List Nat) (sc:SC P f cargs hs r hc) (ho:o.op = .call { callee:=.value fo,args:=args,argTypes:=tys }) (hf:pu (ax ts fo) (args.toList.map (ax ts))=some (f,fk (fun j=>σ[j]?) cargs))
    (hnd:σ.Nodup) (hok:et (fun j=>σ[j]?) cargs=true) (hcl:Nat.ble hs.length hc.length=true) (hm:gB (fun j=>σ[j]?) h σ hs) :
    ae P o ts h (r.tr (names σ σ.length h.length)) (ed h σ hc):=by
  intro G a w hi hr next Q hn
  obtain ⟨fn,e1,e2,e3⟩:=sc.enters
  have hcall:∀ (vs:Array Value),callFunc f vs=callFunc f vs:=fun _=>rfl
  have hrun:∀ vs:Array Value,(callFunc f vs).run P w = .ok (.enter f vs) w:=fun vs=>by
    unfold callFunc
    simp only [Sem.run_bind,run_program,Result.andThen_ok,e1,e2,e3,Bool.false_eq_true,if_false,Sem.run_pure]
  have key:∃ vs:Array Value,(execOp a.eval o).run P w = .ok (.enter f vs) w∧vs.size=cargs.length∧∀ i,i < cargs.length→RV G (vs.getD i undef) ((cargs.getD i default).tr (fun j=>σ[j]?)):=by
    have hargs:∀ i,i < args.size→RV G ((args.map a.eval).getD i undef) ((args.toList.map (ax ts)).getD i default):=fun i hlt=>by
      simp [List.getD_eq_getElem?_getD,Array.getD_eq_getD_getElem?,hlt]
      exact hr.ev _
    have hfo:=hr.ev fo
    generalize ax ts fo=fv at hf hfo
    unfold pu at hf
    split at hf
    · simp only [Option.some.injEq,Prod.mk.injEq] at hf
      obtain ⟨rfl,hl⟩:=hf
      have hv:=vj hfo
      refine ⟨args.map a.eval,?_,?_,fun i hlt=>?_⟩
      · simp [execOp,ho,resolve,hv,Deferred.ofValue,invoke,hrun]
      · have:=congrArg List.length hl
        rw [aS] at this
        simpa using this
      · have h1:i < args.size:=by
          have:=congrArg List.length hl
          rw [aS] at this
          simp at this
          omega
        have h2:=hargs i h1
        rw [hl,dv _ cargs i hlt] at h2
        exact h2
    · rename_i f' fs cs
      simp only [Option.some.injEq,Prod.mk.injEq] at hf
      obtain ⟨rfl,hl⟩:=hf
      obtain ⟨vs,us,hv,s1,g1,s2,g2⟩:=qv hfo
      have hlen:fs.length+args.size+cs.length=cargs.length:=by
        have:=congrArg List.length hl
        rw [aS] at this
        simp at this
        omega
      refine ⟨vs++args.map a.eval++us,?_,by simp [s1,s2]; omega,fun i hlt=>?_⟩
      · simp [execOp,ho,resolve,hv,Deferred.ofValue,invoke,hrun]
      · rw [← dv _ cargs i hlt,← hl]
        rcases Nat.lt_or_ge i fs.length with c1 | c1
        · have:=g1 i c1
          simp only [List.getD_eq_getElem?_getD,Array.getD_eq_getD_getElem?] at this ⊢
          rw [Array.getElem?_append_left (by simp; omega),Array.getElem?_append_left (by omega),List.getElem?_append_left (by simp; omega),List.getElem?_append_left c1]
          exact this
        · rcases Nat.lt_or_ge i (fs.length+args.size) with c2 | c2
          · have:=hargs (i - fs.length) (by omega)
            simp only [List.getD_eq_getElem?_getD,Array.getD_eq_getD_getElem?] at this ⊢
            rw [Array.getElem?_append_left (by simp; omega),Array.getElem?_append_right (by omega),List.getElem?_append_left (by simp; omega),List.getElem?_append_right c1,s1]
            exact this
          · have:=g2 (i - (fs.length+args.size)) (by omega)
            simp only [List.getD_eq_getElem?_getD,Array.getD_eq_getD_getElem?] at this ⊢
            rw [Array.getElem?_append_right (by simp; omega),List.getElem?_append_right (by simp; omega)]
            simpa [s1] using this
    · cases hf
  obtain ⟨vs,hexec,hsz,hv⟩:=key
  unfold Oper.wp
  rw [hexec]
  exact sc.use hnd hm.len (Nat.le_of_ble_eq_true hcl) hm.at_ hi hsz hv hok _ fun v w' G' h1 h2 h3=>hn v w' G' h1 h2 h3
end Go.Abs
namespace Go.Abs
noncomputable def dz (P:Program)(t:TypeId):Option (Nat×Nat):=(P.info? t).bind fun i=>i.zero.bind fun z=>if z.cells.size=i.size then some (i.size,i.bytes) else none
noncomputable def cj (P:Program)(t:TypeId):Bool:=match P.underlying t with | some (.int _)=>false | some _=>true | none=>false
noncomputable def lc (w:World)(b o:Nat)(vs:List Value):Prop:=∀ j v,vs[j]? = some v→w.cell? ⟨b,o+j,none⟩=some v
theorem Inv.swap {G:Gh}{h:List ak}{w w':World}(hi:Inv G h w){id:Nat}{ob new:aQ}{p q:Nat×Nat×Nat}(hh:h[id]? = some (.live ob))(hρ:G.ρ id=some p)
    (hq:∀ b k,bX q new b k→bX p ob b k∨w.heap.size≤b) (hp:bd (bX p ob) w w')
    (hob:∀ G':Gh,G.Le G'→bH G' w' q new) :
    ∃ G',G.Le G'∧G'.ρ h.length=some q∧Inv G' (h.set id .freed++[.live new]) w'∧d5 G h w G' (h.set id .freed++[.live new]) w':=by
  have hlt:=eV hh
  let G':Gh:=⟨G.I,fun i=>if i=h.length then some q else G.ρ i,G.tab⟩
  have hle:G.Le G':=⟨fun _ _ _ x=>x,fun i p x=>by
    have:i≠h.length:=by rintro rfl; rw [hi.fresh _ (Nat.le_refl _)] at x; cases x
    simp [G',this,x]⟩
  have hnew:G'.ρ h.length=some q:=by simp [G']
  have hold:∀ i,i < h.length→G'.ρ i=G.ρ i:=fun i hl=>by simp [G',Nat.ne_of_lt hl]
  have hsplit:∀ i o',(h.set id .freed++[ak.live new])[i]? = some (.live o')→(i < h.length∧i≠id∧h[i]? = some (.live o'))∨(i=h.length∧o'=new):=by
    intro i o' hx
    rcases Nat.lt_trichotomy i h.length with h1 | h1 | h1
    · rw [List.getElem?_append_left (by simpa using h1)] at hx
      by_cases e:i=id
      · subst e; rw [List.getElem?_set_self hlt] at hx; cases hx
      · rw [List.getElem?_set_ne (Ne.symm e)] at hx; exact .inl ⟨h1,e,hx⟩
    · subst h1
      rw [List.getElem?_append_right (by simp)] at hx
      simp at hx
      exact .inr ⟨rfl,hx.symm⟩
    · rw [List.getElem?_eq_none (by simp; omega)] at hx; cases hx
  have hap:∀ i o1 p1,i≠id→h[i]? = some (.live o1)→G.ρ i=some p1→∀ b k,bX p1 o1 b k→¬ bX q new b k:=by
    intro i o1 p1 hne h1 h2 b k f1 f2
    rcases hq b k f2 with x | x
    · exact hi.disj i o1 p1 id ob p hne h1 h2 hh hρ b k f1 x
    · have:=hi.blk h1 h2 f1
      have:=fJ f1
      omega
  refine ⟨G',hle,hnew,⟨fun b k v x=>?_,fun i o' hx=>?_,fun i hl=>?_,fun i hx=>?_,?_,?_⟩,⟨hle,hp.imp (fun b k x=>⟨id,ob,p,hh,hρ,x⟩),fun b k v x=>.inl x,?_⟩⟩
  · exact hp.cell b k v (fun hx=>by have:=hi.free id ob p hh hρ b k hx; have x':G.I b k=some v:=x; rw [this] at x'; cases x') (hi.imm b k v x)
  · rcases hsplit i o' hx with ⟨h1,hne,h2⟩ | ⟨rfl,rfl⟩
    · obtain ⟨p1,h3,h4⟩:=hi.obj i o' h2
      exact ⟨p1,by rw [hold i h1]; exact h3,h4.frame hp hle (fun b k x y=>hi.disj i o' p1 id ob p hne h2 h3 hh hρ b k x y)⟩
    · exact ⟨q,hnew,hob G' hle⟩
  · simp at hl
    rw [show G'.ρ i=G.ρ i by simp [G']; omega]
    exact hi.fresh i (by omega)
  · rcases Nat.lt_trichotomy i h.length with h1 | h1 | h1
    · rw [List.getElem?_append_left (by simpa using h1)] at hx
      by_cases e:i=id
      · subst e; rw [List.getElem?_set_self hlt] at hx; cases hx
      · rw [List.getElem?_set_ne (Ne.symm e)] at hx
        rw [hold i h1]; exact hi.resv i hx
    · subst h1
      rw [List.getElem?_append_right (by simp)] at hx
      simp at hx
    · rw [List.getElem?_eq_none (by simp; omega)] at hx; cases hx
  · intro i1 o1 p1 i2 o2 p2 hne h1 h2 h3 h4 b k f1 f2
    rcases hsplit i1 o1 h1 with ⟨l1,n1,g1⟩ | ⟨rfl,rfl⟩
    · rw [hold i1 l1] at h2
      rcases hsplit i2 o2 h3 with ⟨l2,n2,g2⟩ | ⟨rfl,rfl⟩
      · rw [hold i2 l2] at h4
        exact hi.disj i1 o1 p1 i2 o2 p2 hne g1 h2 g2 h4 b k f1 f2
      · rw [hnew] at h4; cases h4
        exact hap i1 o1 p1 n1 g1 h2 b k f1 f2
    · rw [hnew] at h2; cases h2
      rcases hsplit i2 o2 h3 with ⟨l2,n2,g2⟩ | ⟨rfl,_⟩
      · rw [hold i2 l2] at h4
        exact hap i2 o2 p2 n2 g2 h4 b k f2 f1
      · exact hne rfl
  · intro i1 o1 p1 h1 h2 b k f1
    rcases hsplit i1 o1 h1 with ⟨l1,n1,g1⟩ | ⟨rfl,rfl⟩
    · rw [hold i1 l1] at h2
      exact hi.free i1 o1 p1 g1 h2 b k f1
    · rw [hnew] at h2; cases h2
      show G.I b k=none
      rcases hq b k f1 with x | x
      · exact hi.free id ob p hh hρ b k x
      · cases hx:G.I b k with
        | none=>rfl
        | some v=>have:=dw (hi.imm b k v hx); omega
  · rintro b k ⟨i1,o1,p1,h1,h2,f1⟩
    rcases hsplit i1 o1 h1 with ⟨l1,n1,g1⟩ | ⟨rfl,rfl⟩
    · rw [hold i1 l1] at h2
      exact .inl ⟨i1,o1,p1,g1,h2,f1⟩
    · rw [hnew] at h2; cases h2
      rcases hq b k f1 with x | x
      · exact .inl ⟨id,ob,p,hh,hρ,x⟩
      · exact .inr x
theorem jr {P:Program}{b o:Nat}:∀ (vs:List Value) (i:Nat) (w:World),(∀ v∈vs,v.oneCell'=true)→(∀ j,j < vs.length→∃ u,w.cell? ⟨b,o+i+j,none⟩=some u∧w.frozen? ⟨b,o+i+j,none⟩=false)→
    ∃ w',(storeCells ⟨b,o,none⟩ vs i).run P w = .ok () w'∧lc w' b (o+i) vs∧bd (fun b' k=>b'=b∧o+i≤k∧k < o+i+vs.length) w w'∧w'.heap.size=w.heap.size∧(∀ k u,w.cell? ⟨b,k,none⟩=some u→∃ u',w'.cell? ⟨b,k,none⟩=some u'∧w'.frozen? ⟨b,k,none⟩=w.frozen? ⟨b,k,none⟩)
  | [],i,w,_,_=>⟨w,rfl,fun j v h=>by simp at h,bd.refl _ _,rfl,fun k u h=>⟨u,h,rfl⟩⟩
  | v::vs,i,w,h1,hc=>by
    obtain ⟨u,c1,c2⟩:=hc 0 (by simp)
    rw [Nat.add_zero] at c1 c2
    have hv:=h1 v (List.mem_cons_self ..)
    let w1:=w.setCell ⟨b,o+i,none⟩ v
    have hcell:∀ k u,w.cell? ⟨b,k,none⟩=some u→∃ u',w1.cell? ⟨b,k,none⟩=some u':=by
      intro k u hk
      by_cases e:k=o+i
      · subst e; exact ⟨v,jl hk⟩
      · exact ⟨u,by rw [show w1=w.setCell ⟨b,o+i,none⟩ v from rfl,iH (by omega)]; exact hk⟩
    obtain ⟨w',r1,r2,r3,r4,r5⟩:=jr (P:=P) (b:=b) (o:=o) vs (i+1) w1 (fun x hx=>h1 x (List.mem_cons_of_mem _ hx)) (fun j hj=>by
      obtain ⟨u,d1,d2⟩:=hc (j+1) (by simp; omega)
      rw [show o+i+(j+1)=o+(i+1)+j by omega] at d1 d2
      obtain ⟨u',d3⟩:=hcell _ u d1
      exact ⟨u',d3,by rw [show w1=w.setCell ⟨b,o+i,none⟩ v from rfl,il]; exact d2⟩)
    have hset:bd (fun b' k=>b'=b∧o+i≤k∧k < o+i+(v::vs).length) w w1:=bd.set w v ⟨rfl,Nat.le_refl _,by simp⟩
    refine ⟨w',?_,?_,?_,by rw [r4]; exact ph w _ v,fun k u hk=>?_⟩
    · simp only [storeCells,Sem.run_bind,Addr.add_none,run_store P w _ v .plain hv,c1,c2,Bool.false_eq_true,if_false,Result.andThen_ok]
      exact r1
    · intro j x hx
      cases j with
      | zero=>
        simp at hx
        subst hx
        rw [Nat.add_zero]
        exact r3.cell b (o+i) v (by omega) (jl c1)
      | succ j=>
        rw [show o+i+(j+1)=o+(i+1)+j by omega]
        exact r2 j x (by simpa using hx)
    · exact hset.trans (r3.imp (F':=fun b' k=>b'=b∧o+i≤k∧k < o+i+(v::vs).length) (fun b' k x=>⟨x.1,by omega,by simp; omega⟩)) (fun b' k x=>.inl x)
    · obtain ⟨u1,e1⟩:=hcell k u hk
      obtain ⟨u2,e2,e3⟩:=r5 k u1 e1
      exact ⟨u2,e2,by rw [e3,show w1=w.setCell ⟨b,o+i,none⟩ v from rfl,il]⟩
section
variable {P:Program}{w:World}
theorem kq {t:TypeId}{size bytes:Nat}(h:dz P t=some (size,bytes)):∃ i z,P.info? t=some i∧i.zero=some z∧z.cells.size=size∧i.size=size∧i.bytes=bytes:=by
  unfold dz at h
  obtain ⟨i,h1,h2⟩:=Option.bind_eq_some_iff.1 h
  obtain ⟨z,h3,h4⟩:=Option.bind_eq_some_iff.1 h2
  split at h4
  · rename_i e
    simp only [Option.some.injEq,Prod.mk.injEq] at h4
    exact ⟨i,z,h1,h3,by omega,h4.1,h4.2⟩
  · cases h4
structure Src (P:Program)(w:World)(t:TypeId)(size:Nat)(x:Value)(m:Nat)(news:List Value):Prop where
  ty:cj P t=true
  len:news.length=m*size
  lenOf:∀ w',(Builtin.lenOf x).run P w' = .ok m w'
  cells:(Builtin.firstCells size m x).run P w = .ok news.toArray w
  drew:(Builtin.firstCells size m x).run P w.drew = .ok news.toArray w.drew
  one:∀ v∈news,v.oneCell'=true
theorem pe {t t2 ty e:TypeId}{size bytes:Nat}(ht:P.underlying t=some (.slice e))(hin:dz P e=some (size,bytes)){b k n c:Nat}{x:Value}{m:Nat}{news:List Value}(hs:Src P w t2 size x m news)(hroom:n+m≤c)
    {w':World} (hst:(storeCells ⟨b,k+n*size,none⟩ news).run P w = .ok () w') :
    (Builtin.append_ #[t,t2] ty #[.slice (some ⟨b,k,none⟩) n c,x]).run P w = .ok (.slice (some ⟨b,k,none⟩) (n+m) c) w':=by
  obtain ⟨i,z,h1,h2,h3,h4,h5⟩:=kq hin
  subst h4
  have hni:=hs.ty
  unfold cj at hni
  cases hu:P.underlying t2 with
  | none=>rw [hu] at hni; cases hni
  | some d=>
    rw [hu] at hni
    have hz:(match d with | .int _=>true | _=>false)=false:=by cases d <;> first | rfl | (simp at hni)
    unfold Builtin.append_
    simp only [List.getElem?_toArray,List.getElem?_cons_zero,List.getElem?_cons_succ,Sem.run_bind,run_underlying ht,Result.andThen_ok,sizeOf,typeInfo,run_program,h1,Sem.run_pure,run_underlying hu]
    cases d <;> simp at hni <;> simp [hs.lenOf,hroom,hs.cells,Addr.add_none,hst]
theorem run_append_nil {t t2 ty e:TypeId}{size bytes:Nat}(ht:P.underlying t=some (.slice e))(hin:dz P e=some (size,bytes)){x:Value}(hs:Src P w t2 size x 0 []) :
    (Builtin.append_ #[t,t2] ty #[.slice none 0 0,x]).run P w = .ok (.slice none 0 0) w:=by
  obtain ⟨i,z,h1,h2,h3,h4,h5⟩:=kq hin
  subst h4
  have hni:=hs.ty
  unfold cj at hni
  cases hu:P.underlying t2 with
  | none=>rw [hu] at hni; cases hni
  | some d=>
    rw [hu] at hni
    unfold Builtin.append_
    simp only [List.getElem?_toArray,List.getElem?_cons_zero,List.getElem?_cons_succ,Sem.run_bind,run_underlying ht,Result.andThen_ok,sizeOf,typeInfo,run_program,h1,Sem.run_pure,run_underlying hu]
    have hc:=hs.cells
    cases d <;> simp at hni <;> simp [hs.lenOf,hc]
theorem qK {t t2 ty e:TypeId}{size bytes:Nat}(ht:P.underlying t=some (.slice e))(hin:dz P e=some (size,bytes)){ad:Option Addr}{n c:Nat}{olds:List Value}(hol:olds.length=n*size)
    (hold:(Builtin.firstCells size n (.slice ad n c)).run P w.drew = .ok olds.toArray w.drew)
    {x:Value} {m:Nat} {news:List Value} (hs:Src P w t2 size x m news) (hroom:c < n+m) (hb:(n+m)*bytes≤140737488355328) (hb0:0 < bytes) :
    ∃ cap,n+m≤cap∧∃ rest:List Value,rest.length=(cap - (n+m))*size∧(Builtin.append_ #[t,t2] ty #[.slice ad n c,x]).run P w =
      .ok (.slice (some ⟨w.heap.size,0,none⟩) (n+m) cap) (w.drew.alloc (.cells (olds++news++rest).toArray e)):=by
  obtain ⟨i,z,h1,h2,h3,h4,h5⟩:=kq hin
  subst h4 h5
  have hni:=hs.ty
  have hn:¬ (n+m≤c):=by omega
  have hle:n+m≤140737488355328:=Nat.le_trans (Nat.le_mul_of_pos_right _ hb0) hb
  have h63':¬ (9223372036854775807 < ((n:Int)+(m:Int))):=by omega
  have h48':¬ (281474976710656 < Builtin.nextslicecap (n+m) c*i.bytes):=by have:=growslice_fits (bytes:=i.bytes) (show c < n+m by omega) hb; omega
  refine ⟨grownCap w (n+m) c e,by simp [grownCap,Question.cut],(Builtin.zeroCells z.cells (grownCap w (n+m) c e - (n+m))).toList,by simp [Builtin.zeroCells,h3],?_⟩
  unfold cj at hni
  cases hu:P.underlying t2 with
  | none=>rw [hu] at hni; cases hni
  | some d=>
    rw [hu] at hni
    have hfd:=hs.drew
    unfold Builtin.append_
    simp only [List.getElem?_toArray,List.getElem?_cons_zero,List.getElem?_cons_succ,Sem.run_bind,run_underlying ht,Result.andThen_ok,sizeOf,typeInfo,run_program,h1,Sem.run_pure,run_underlying hu]
    cases d <;> simp at hni <;> simp [hs.lenOf,hn,h63',h48',Question.forced,hold,hfd,newRow,grownCap,zeroValue,typeInfo,h1,h2] <;> (congr 2; apply Array.ext'; simp)
end
end Go.Abs
namespace Go.Abs
theorem ja {i j n sz:Nat}(hi:i < n)(hj:j < sz):i*sz+j < n*sz:=by
  have:(i+1)*sz≤n*sz:=Nat.mul_le_mul_right _ hi
  rw [Nat.add_mul] at this
  omega
theorem uf {i j sz:Nat}(hj:j < sz):(i*sz+j) / sz=i:=by
  rw [Nat.mul_comm,Nat.mul_add_div (by omega),Nat.div_eq_of_lt hj]; rfl
theorem qz {i j sz:Nat}(hj:j < sz):(i*sz+j) % sz=j:=by
  rw [Nat.mul_comm,Nat.mul_add_mod,Nat.mod_eq_of_lt hj]
noncomputable def bQ (u:Nat→Nat→Value)(m sz:Nat):List Value:=(List.range (m*sz)).map fun k=>u (k / sz) (k % sz)
theorem bo (u m sz):(bQ u m sz).length=m*sz:=by simp [bQ]
theorem ij {u m sz i j}(hi:i < m)(hj:j < sz):(bQ u m sz)[i*sz+j]? = some (u i j):=by
  unfold bQ
  rw [List.getElem?_map,List.getElem?_range (ja hi hj)]
  simp [uf hj,qz hj]
theorem ga {u m sz k v}(hz:0 < sz)(h:(bQ u m sz)[k]? = some v):k / sz < m∧k % sz < sz∧v=u (k / sz) (k % sz):=by
  have hk:=(List.getElem?_eq_some_iff.1 h).1
  rw [bo] at hk
  have h1:k / sz < m:=by rw [Nat.div_lt_iff_lt_mul hz]; exact hk
  have h2:=Nat.mod_lt k hz
  refine ⟨h1,h2,?_⟩
  have:=ij (u:=u) h1 h2
  rw [Nat.div_add_mod' k sz,h] at this
  exact Option.some.inj this
noncomputable def ld (G:Gh)(news:List Value)(m sz:Nat)(gy:Nat→Nat→D):Prop:=∀ i,i < m→∀ j,j < sz→∃ v,news[i*sz+j]? = some v∧RD G.I v (gy i j)
section
variable {P:Program}{w:World}{G:Gh}{h:List ak}
theorem i8 {sz m:Nat}{b o c n':Nat}{vs:List Value}(hl:vs.length=m*sz)(hc:lc w b o vs):(Builtin.firstCells sz m (.slice (some ⟨b,o,none⟩) n' c)).run P w = .ok vs.toArray w:=
  run_firstCells_some w sz m ⟨b,o,none⟩ n' c vs hl (fun j v hj=>by rw [Addr.add_none]; exact hc j v hj)
theorem qh (hi:Inv G h w){t2:TypeId}(ht:cj P t2=true){m sz:Nat}(hz:0 < sz){gy:Nat→Nat→D}{x:Value}(hr:RV G x (.d (.sl m sz gy))):∃ news,Src P w t2 sz x m news∧ld G news m sz gy:=by
  rcases nF hr with ⟨rfl,a,c,rfl⟩ | ⟨b,o,c,u,rfl,hc,hI,hO,hR⟩
  · refine ⟨[],⟨ht,by simp,fun _=>rfl,?_,?_,by simp⟩,fun i hi=>by omega⟩
    · cases a <;> simp [Builtin.firstCells,loadCells,loadCellsFrom]
    · cases a <;> simp [Builtin.firstCells,loadCells,loadCellsFrom]
  · have hcells:lc w b o (bQ u m sz):=fun k v hk=>by
      obtain ⟨h1,h2,rfl⟩:=ga hz hk
      have:=hi.imm _ _ _ (hI _ h1 _ h2)
      rwa [Nat.add_assoc,Nat.div_add_mod' k sz] at this
    refine ⟨bQ u m sz,⟨ht,bo _ _ _,fun _=>rfl,i8 (bo _ _ _) hcells,i8 (bo _ _ _) hcells,fun v hv=>?_⟩,fun i hi j hj=>⟨_,ij hi hj,hR i hi j hj⟩⟩
    obtain ⟨k,hk⟩:=List.mem_iff_getElem?.1 hv
    obtain ⟨h1,h2,rfl⟩:=ga hz hk
    exact hO _ h1 _ h2
theorem zc (hi:Inv G h w){t2:TypeId}(ht:cj P t2=true){id off m sz N:Nat}{ex:Bool}{get:Nat→Nat→D}{x:Value}(hr:RV G x (.osl id off m sz))(hh:h[id]? = some (.live (.arr sz N ex get)))(hN:off+m≤N) :
    ∃ news,Src P w t2 sz x m news∧ld G news m sz (fun i j=>get (off+i) j):=by
  obtain ⟨b,o,e,c,ad,hρ,rfl,_,hmc,had⟩:=hD hr
  obtain ⟨hb,hc,hk,hle,hex,hz⟩:=iG hi hh hρ
  rcases had with rfl | ⟨rfl,rfl⟩
  case inr=>
    obtain rfl:m=0:=by omega
    exact ⟨[],⟨ht,by simp,fun _=>rfl,by simp [Builtin.firstCells],by simp [Builtin.firstCells],by simp⟩,fun i hi=>by omega⟩
  let u:Nat→Nat→Value:=fun i j=>(w.cell? ⟨b,o+(off+i)*sz+j,none⟩).getD undef
  have hu:∀ i,i < m→∀ j,j < sz→w.cell? ⟨b,o+(off+i)*sz+j,none⟩=some (u i j)∧(u i j).oneCell'=true∧RD G.I (u i j) (get (off+i) j):=fun i hi' j hj=>by
    obtain ⟨v,h1,h2,h3⟩:=hc (off+i) (by omega) j hj
    have h1':w.cell? ⟨b,o+(off+i)*sz+j,none⟩=some v:=h1
    simp only [u,h1',Option.getD_some]
    exact ⟨trivial,h2,h3⟩
  have hcells:lc w b (o+off*sz) (bQ u m sz):=fun k v hk=>by
    obtain ⟨h1,h2,rfl⟩:=ga hz hk
    have:=(hu _ h1 _ h2).1
    rwa [Nat.add_mul,← Nat.add_assoc,Nat.add_assoc (o+off*sz),Nat.div_add_mod' k sz] at this
  refine ⟨bQ u m sz,⟨ht,bo _ _ _,fun _=>rfl,i8 (bo _ _ _) hcells,i8 (bo _ _ _) hcells,fun v hv=>?_⟩,fun i hi j hj=>⟨_,ij hi hj,(hu i hi j hj).2.2⟩⟩
  obtain ⟨k,hk⟩:=List.mem_iff_getElem?.1 hv
  obtain ⟨h1,h2,rfl⟩:=ga hz hk
  exact (hu _ h1 _ h2).2.1
theorem zd {t2:TypeId}(ht:cj P t2=true){s:ByteArray}{x:Value}(hr:RV G x (.d (.str s))):∃ news,Src P w t2 1 x s.size news∧ld G news s.size 1 (fun i _=>.int .u8 ((s.data.toList.getD i 0).toNat:Int)):=by
  rw [nG hr]
  have e:s.extract 0 s.size=s:=by
    apply ByteArray.ext
    simp [ByteArray.data_extract]
  have hl:s.data.toList.length=s.size:=by rw [Array.length_toList]; rfl
  refine ⟨s.data.toList.map fun b=>.int .u8 b.toNat,⟨ht,by simp [hl],fun _=>rfl,?_,?_,?_⟩,fun i hi j hj=>?_⟩
  · simp [Builtin.firstCells,e]
    apply Array.ext'; simp
  · simp [Builtin.firstCells,e]
    apply Array.ext'; simp
  · intro v hv
    obtain ⟨b,_,rfl⟩:=List.mem_map.1 hv
    rfl
  · obtain rfl:j=0:=by omega
    have hi':i < s.data.toList.length:=by rw [hl]; exact hi
    refine ⟨_,by rw [Nat.mul_one,Nat.add_zero,List.getElem?_map,List.getElem?_eq_getElem hi']; rfl,?_⟩
    have e2:s.data.toList.getD i 0=s.data.toList[i]:=by rw [List.getD_eq_getElem?_getD,List.getElem?_eq_getElem hi']; rfl
    show RD G.I (.int .u8 _) (.int .u8 ((s.data.toList.getD i 0).toNat:Int))
    rw [e2]
    exact .int _ _
end
section
variable {P:Program}{o:Oper}{ts:List (Nat×AV)}{h:List ak}
theorem iW {t t2 ty e:TypeId}{g ex:Bool}{id off n sz N m bytes:Nat}{get gy gn:Nat→Nat→D}{G:Gh}{w:World}(hi:Inv G h w){x y:Value}(hx:RV G x (.osl id off n sz))(hh:h[id]? = some (.live (.arr sz N ex get)))(hN:off+n≤N)
    (hs:cy P t=some (e,g,sz)) (hin:dz P e=some (sz,bytes)) {news:List Value} (hy:Src P w t2 sz y m news) (hny:ld G news m sz gy) (hb:(n+m)*bytes≤140737488355328) (hb0:0 < bytes)
    (hg1:∀ i,i < n→∀ j,j < sz→get (off+i) j=gn i j) (hg2:∀ i,i < m→∀ j,j < sz→gy i j=gn (n+i) j) :
    ∃ val w' G',(Builtin.append_ #[t,t2] ty #[x,y]).run P w = .ok val w'∧RV G' val (.osl h.length 0 (n+m) sz)∧Inv G' (h.set id .freed++[.live (.arr sz (n+m) false gn)]) w'∧d5 G h w G' (h.set id .freed++[.live (.arr sz (n+m) false gn)]) w':=by
  obtain ⟨b,o',e',c,ad,hρ,rfl,hcap,hnc,had⟩:=hD hx
  obtain ⟨hu,he⟩:=fE hs
  obtain ⟨hb',hc,hk,hle,hex,hz⟩:=iG hi hh hρ
  have hold:∀ i,i < n→∀ j,j < sz→∃ v,w.cell? ⟨b,o'+off*sz+i*sz+j,none⟩=some v∧v.oneCell'=true∧RD G.I v (gn i j):=fun i hi' j hj=>by
    obtain ⟨v,h1,h2,h3⟩:=hc (off+i) (by omega) j hj
    rw [hg1 i hi' j hj] at h3
    have h1':w.cell? ⟨b,o'+(off+i)*sz+j,none⟩=some v:=h1
    rw [Nat.add_mul,← Nat.add_assoc] at h1'
    exact ⟨v,h1',h2,h3⟩
  rcases Nat.lt_or_ge c (n+m) with hroom | hroom
  · let u:Nat→Nat→Value:=fun i j=>(w.cell? ⟨b,o'+off*sz+i*sz+j,none⟩).getD undef
    have hu':∀ i,i < n→∀ j,j < sz→w.cell? ⟨b,o'+off*sz+i*sz+j,none⟩=some (u i j)∧(u i j).oneCell'=true∧RD G.I (u i j) (gn i j):=fun i hi' j hj=>by
      obtain ⟨v,h1,h2,h3⟩:=hold i hi' j hj
      simp only [u,h1,Option.getD_some]
      exact ⟨trivial,h2,h3⟩
    have hcells:lc w.drew b (o'+off*sz) (bQ u n sz):=fun k v hk=>by
      obtain ⟨h1,h2,rfl⟩:=ga hz hk
      have:=(hu' _ h1 _ h2).1
      rw [Nat.add_assoc (o'+off*sz),Nat.div_add_mod' k sz] at this
      exact this
    have hfc:(Builtin.firstCells sz n (.slice ad n c)).run P w.drew = .ok (bQ u n sz).toArray w.drew:=by
      rcases had with rfl | ⟨rfl,rfl⟩
      · exact i8 (n':=n) (c:=c) (bo _ _ _) hcells
      · obtain rfl:n=0:=by omega
        simp [Builtin.firstCells,bQ]
    obtain ⟨cap,hcap',rest,hrest,hrun⟩:=qK (P:=P) (w:=w) (ty:=ty) hu hin (olds:=bQ u n sz) (bo _ _ _) hfc hy hroom hb hb0
    have hlen:(bQ u n sz++news++rest).length=cap*sz:=by
      simp only [List.length_append,bo,hy.len,hrest,← Nat.add_mul]
      congr 1; omega
    have hdr:bd (fun _ _=>False) w w.drew:=⟨Nat.le_refl _,fun _ _ _=>rfl,fun _ _ _ _ h=>h,fun _ _ _ _ _=>rfl,rfl,rfl,rfl⟩
    have hpr:bd (bX (b,o',e') (.arr sz N ex get)) w (w.drew.alloc (.cells (bQ u n sz++news++rest).toArray e)):=(hdr.trans (bd.alloc (fun _ _=>False) w.drew _) (fun _ _ x=>x.elim)).imp (fun _ _ x=>x.elim)
    have hcnew:∀ k v,(bQ u n sz++news++rest)[k]? = some v→(w.drew.alloc (.cells (bQ u n sz++news++rest).toArray e)).cell? ⟨w.heap.size,k,none⟩=some v:=fun k v hk=>by
      have:=gP (w:=w.drew) (cs:=(bQ u n sz++news++rest).toArray) (e:=e) (fr:=(0,0)) k
      rw [show w.drew.heap.size=w.heap.size from rfl] at this
      rw [this]
      simpa using hk
    obtain ⟨G',hle',hρ',h1,h2⟩:=hi.swap (w':=w.drew.alloc (.cells (bQ u n sz++news++rest).toArray e)) (new:=.arr sz (n+m) false gn) (q:=(w.heap.size,0,cap*sz)) hh hρ (fun b' k x=>.inr (by rw [x.1]; exact Nat.le_refl _)) hpr (fun G' hG=>by
      refine ⟨by simp [fu],fun i hi' j hj=>?_,fun k _ hk2=>?_,by simp only [Nat.zero_add]; exact Nat.mul_le_mul_right _ hcap',(fun x=>by cases x),hz⟩
      · simp only [Nat.zero_add]
        rcases Nat.lt_or_ge i n with c1 | c1
        · refine ⟨u i j,hcnew _ _ ?_,(hu' i c1 j hj).2.1,(hu' i c1 j hj).2.2.mono hG.I⟩
          rw [List.append_assoc,List.getElem?_append_left (by rw [bo]; exact ja c1 hj)]
          exact ij c1 hj
        · obtain ⟨v,hv1,hv2⟩:=hny (i - n) (by omega) j hj
          have hvm:=List.mem_of_getElem? hv1
          refine ⟨v,hcnew _ _ ?_,hy.one v hvm,?_⟩
          · have e1:i*sz+j=n*sz+((i - n)*sz+j):=by rw [← Nat.add_assoc,← Nat.add_mul]; congr 2; omega
            rw [List.append_assoc,e1,List.getElem?_append_right (by rw [bo]; omega),bo,Nat.add_sub_cancel_left,List.getElem?_append_left ((List.getElem?_eq_some_iff.1 hv1).1)]
            exact hv1
          · have:=hv2.mono hG.I
            rw [hg2 (i - n) (by omega) j hj,show n+(i - n)=i by omega] at this
            exact this
      · have hk2':k < (bQ u n sz++news++rest).length:=by rw [hlen]; exact hk2
        exact ⟨_,hcnew k _ (List.getElem?_eq_getElem hk2'),jv (w:=w.drew) k⟩)
    refine ⟨_,_,G',hrun,?_,h1,h2⟩
    exact RV.osl (G:=G') (id:=h.length) _ 0 (n+m) sz cap hρ' (by simp) hcap' (.inl (by simp))
  · have hbound:(off+(n+m))*sz≤(off+c)*sz:=Nat.mul_le_mul_right _ (by omega)
    have hexp:(off+(n+m))*sz=off*sz+n*sz+m*sz:=by rw [Nat.add_mul,Nat.add_mul]; omega
    obtain ⟨w',hst,hat,hpr,hsz,hkeep⟩:=jr (P:=P) (b:=b) (o:=o'+off*sz+n*sz) news 0 w hy.one (fun j hj=>by
      rw [hy.len] at hj
      exact hk _ (by simp; omega) (by simp; omega))
    have hrun:(Builtin.append_ #[t,t2] ty #[.slice ad n c,y]).run P w = .ok (.slice ad (n+m) c) w':=by
      rcases had with rfl | ⟨rfl,rfl⟩
      · exact pe (P:=P) (w:=w) (ty:=ty) hu hin (b:=b) (k:=o'+off*sz) (n:=n) (c:=c) hy hroom hst
      · obtain rfl:n=0:=by omega
        obtain rfl:m=0:=by omega
        have hnil:news=[]:=List.eq_nil_of_length_eq_zero (by rw [hy.len]; simp)
        subst hnil
        cases hst
        exact run_append_nil (P:=P) (w:=w) (ty:=ty) hu hin hy
    rw [Nat.add_zero] at hat hpr
    obtain ⟨G',hle',hρ',h1,h2⟩:=hi.swap (w':=w') (new:=.arr sz (n+m) false gn) (q:=(b,o'+off*sz,e')) hh hρ (fun b' k x=>.inl ⟨x.1,by have:=x.2; simp at this ⊢; omega⟩)
      (hpr.imp fun b' k x=>⟨x.1,by have:=x.2; rw [hy.len] at this; simp; omega⟩) (fun G' hG=>by
      refine ⟨by rw [hsz]; exact hb'.imp (fun y=>y) (fun x=>by
        have h1:e'=o':=x
        have h2:o'+N*sz≤e':=hle
        have h3:off*sz≤N*sz:=Nat.mul_le_mul_right _ (by omega)
        show e'=o'+off*sz
        omega),fun i hi' j hj=>?_,fun k hk1 hk2=>?_,by simp; rw [Nat.add_mul n m]; omega,(fun x=>by cases x),hz⟩
      · rcases Nat.lt_or_ge i n with c1 | c1
        · obtain ⟨v,a1,a2,a3⟩:=hold i c1 j hj
          refine ⟨v,hpr.cell _ _ _ (fun x=>?_) a1,a2,a3.mono hG.I⟩
          have:=ja c1 hj
          have x1:o'+off*sz+n*sz≤o'+off*sz+i*sz+j:=x.2.1
          omega
        · obtain ⟨v,hv1,hv2⟩:=hny (i - n) (by omega) j hj
          refine ⟨v,?_,hy.one v (List.mem_of_getElem? hv1),?_⟩
          · have:=hat _ _ hv1
            have e1:o'+off*sz+n*sz+((i - n)*sz+j)=o'+off*sz+i*sz+j:=by
              have e0:n*sz+(i - n)*sz=i*sz:=by rw [← Nat.add_mul]; congr 1; omega
              rw [← e0]; omega
            rw [e1] at this
            exact this
          · have:=hv2.mono hG.I
            rw [hg2 (i - n) (by omega) j hj,show n+(i - n)=i by omega] at this
            exact this
      · obtain ⟨u,a1,a2⟩:=hk k (by simp at hk1 ⊢; omega) hk2
        obtain ⟨u',b1,b2⟩:=hkeep k u a1
        exact ⟨u',b1,by rw [b2]; exact a2⟩)
    refine ⟨_,w',G',hrun,?_,h1,h2⟩
    exact RV.osl (G:=G') (id:=h.length) ad 0 (n+m) sz c hρ' (by rw [Nat.zero_add]; rw [← hcap,Nat.add_mul]; omega) hroom (by simpa using had)
theorem eZ {x y:Operand}{t t2:TypeId}{a:Act}{w:World}{val:Value}{w':World}(ho:o.op = .call { callee:=.builtin .append,args:=#[x,y],argTypes:=#[t,t2] })
    (hr:(Builtin.append_ #[t,t2] o.type #[a.eval x,a.eval y]).run P w = .ok val w'):(execOp a.eval o).run P w = .ok (.value val) w':=by
  simp [execOp,ho,resolve,invoke,builtin,hr]
theorem ae.append {x y:Operand}{t t2 e:TypeId}{g ex:Bool}{id off n sz N m bytes:Nat}{get gy:Nat→Nat→D}(gn:Nat→Nat→D)(ho:o.op = .call { callee:=.builtin .append,args:=#[x,y],argTypes:=#[t,t2] })
    (hx:ax ts x = .osl id off n sz) (hh:h[id]? = some (.live (.arr sz N ex get))) (hN:off+n≤N) (hy:ax ts y = .d (.sl m sz gy)) (hs:cy P t=some (e,g,sz)) (hin:dz P e=some (sz,bytes)) (ht2:cj P t2=true)
    (hb:(n+m)*bytes≤140737488355328) (hb0:Nat.blt 0 bytes=true) (hg1:∀ i,i < n→∀ j,j < sz→get (off+i) j=gn i j) (hg2:∀ i,i < m→∀ j,j < sz→gy i j=gn (n+i) j) :
    ae P o ts h (.osl h.length 0 (n+m) sz) (h.set id .freed++[.live (.arr sz (n+m) false gn)]):=
  ae.value fun G a w hi hr=>by
    have hx':=hr.ev_of hx
    obtain ⟨b,o',e',c,ad,hρ,_⟩:=hD hx'
    have hz:=(iG hi hh hρ).2.2.2.2.2
    obtain ⟨news,h1,h2⟩:=qh hi ht2 hz (hr.ev_of hy)
    obtain ⟨val,w',G',hrun,r1,r2,r3⟩:=iW (ty:=o.type) hi hx' hh hN hs hin h1 h2 hb (by simpa using hb0) hg1 hg2
    exact ⟨val,w',G',eZ ho hrun,r1,r2,r3⟩
end
end Go.Abs
namespace Go.Abs
theorem foldl_set (off:Nat):∀ (l:List Value) (s:Nat) (cells:Array Value),((l.zipIdx s).foldl (fun cs (x:Value×Nat)=>cs.setIfInBounds (off+x.2) x.1) cells).size=cells.size∧
    ∀ k,((l.zipIdx s).foldl (fun cs (x:Value×Nat)=>cs.setIfInBounds (off+x.2) x.1) cells).getD k undef=if off+s≤k∧k < off+s+l.length∧k < cells.size then l.getD (k - (off+s)) undef else cells.getD k undef
  | [],s,cells=>by simp; intro k h1 h2; omega
  | v::l,s,cells=>by
    obtain ⟨h1,h2⟩:=foldl_set off l (s+1) (cells.setIfInBounds (off+s) v)
    simp only [List.zipIdx_cons,List.foldl_cons]
    refine ⟨by rw [h1]; simp,fun k=>?_⟩
    rw [h2 k]
    simp only [Array.size_setIfInBounds,List.length_cons]
    by_cases c1:off+s=k
    · subst c1
      rw [if_neg (by omega)]
      by_cases c2:off+s < cells.size
      · rw [if_pos ⟨Nat.le_refl _,by omega,c2⟩]
        simp [Array.getD_eq_getD_getElem?,Array.getElem?_setIfInBounds,c2]
      · rw [if_neg (by omega)]
        simp [Array.getD_eq_getD_getElem?,Array.getElem?_setIfInBounds,c2]
    · have e:(cells.setIfInBounds (off+s) v).getD k undef=cells.getD k undef:=by simp [Array.getD_eq_getD_getElem?,Array.getElem?_setIfInBounds,c1]
      rw [e]
      by_cases c2:off+(s+1)≤k∧k < off+(s+1)+l.length∧k < cells.size
      · rw [if_pos c2,if_pos ⟨by omega,by omega,c2.2.2⟩]
        rw [show k - (off+s)=(k - (off+(s+1)))+1 by omega]
        simp
      · rw [if_neg c2,if_neg (by omega)]
theorem i4:∀ (xs cs:List AV) (k j:Nat),k+xs.length≤cs.length→(dV cs k xs).getD j default=if k≤j∧j < k+xs.length then xs.getD (j - k) default else cs.getD j default
  | [],cs,k,j,_=>by simp [dV]; intro h1 h2; omega
  | x::xs,cs,k,j,hl=>by
    simp only [List.length_cons] at hl
    rw [dV,i4 xs (cs.set k x) (k+1) j (by simp; omega),lO]
    simp only [List.length_cons]
    by_cases c1:k=j
    · subst c1
      rw [if_neg (by omega),if_pos ⟨rfl,by omega⟩,if_pos ⟨Nat.le_refl _,by omega⟩]
      simp
    · by_cases c2:k+1≤j∧j < k+1+xs.length
      · rw [if_pos c2,if_pos ⟨by omega,by omega⟩,show j - k=(j - (k+1))+1 by omega]
        simp
      · rw [if_neg c2,if_neg (fun x=>c1 x.1),if_neg (by omega)]
noncomputable def f6 (place:Nat→Option (Nat×Nat))(zero:List AV):List (Nat×AV)→Option (List AV)
  | []=>some zero
  | (i,v)::rest=>
    match place i with
    | none=>none
    | some (off,size)=>bif v.boxable&&(cellsOf v).length.beq size&&Nat.ble (off+size) zero.length then f6 place (dV zero off (cellsOf v)) rest else none
theorem nS {G:Gh}{place:Nat→Option (Nat×Nat)}:∀ (ps:List (Nat×AV)) (vs:List (Nat×Value)) (zero:List AV) (cells:Array Value) (r:List AV),f6 place zero ps=some r→cells.size=zero.length→(∀ i,i < zero.length→RV G (cells.getD i undef) (zero.getD i default))→
    vs.length=ps.length→(∀ (j:Nat) (p:Nat×AV),ps[j]? = some p→∃ u,vs[j]? = some (p.1,u)∧RV G u p.2)→∃ out,Instr.fill place cells vs=some out∧out.size=r.length∧∀ i,i < r.length→RV G (out.getD i undef) (r.getD i default)
  | [],vs,zero,cells,r,hf,hs,hr,hl,hp=>by
    simp [f6] at hf
    subst hf
    have:vs=[]:=List.eq_nil_of_length_eq_zero (by simpa using hl)
    subst this
    exact ⟨cells,rfl,hs,hr⟩
  | (i,v)::ps,[],zero,cells,r,hf,hs,hr,hl,hp=>by simp at hl
  | (i,v)::ps,(i',u)::vs,zero,cells,r,hf,hs,hr,hl,hp=>by
    obtain ⟨u',h1,h2⟩:=hp 0 (i,v) rfl
    simp at h1
    obtain ⟨rfl,rfl⟩:=h1
    simp only [f6] at hf
    cases hpl:place i' with
    | none=>rw [hpl] at hf; cases hf
    | some x=>
      obtain ⟨off,size⟩:=x
      rw [hpl] at hf
      simp only [] at hf
      cases hb:(v.boxable&&(cellsOf v).length.beq size&&Nat.ble (off+size) zero.length) with
      | false=>rw [hb] at hf; cases hf
      | true=>
        rw [hb] at hf
        simp only [cond_true] at hf
        simp only [Bool.and_eq_true] at hb
        obtain ⟨⟨b1,b2⟩,b3⟩:=hb
        have b2':=Nat.eq_of_beq_eq_true b2
        have b3':=Nat.le_of_ble_eq_true b3
        obtain ⟨c1,c2⟩:=RV.cells (x:=v) h2 (AV.boxable_out b1)
        obtain ⟨f1,f2⟩:=foldl_set off u.cells.toList 0 cells
        have e1:u.cells.zipIdx.foldl (fun cs (x:Value×Nat)=>cs.setIfInBounds (off+x.2) x.1) cells=(u.cells.toList.zipIdx 0).foldl (fun cs (x:Value×Nat)=>cs.setIfInBounds (off+x.2) x.1) cells:=by
          rw [← Array.foldl_toList,Array.toList_zipIdx]
        obtain ⟨out,o1,o2,o3⟩:=nS ps vs _ (u.cells.zipIdx.foldl (fun cs (x:Value×Nat)=>cs.setIfInBounds (off+x.2) x.1) cells) r hf (by rw [e1,f1,hs,gM]) (fun k hk=>by
            rw [gM] at hk
            rw [e1,f2 k,i4 _ _ _ _ (by omega)]
            simp only [Nat.add_zero,Array.length_toList,c1]
            by_cases c:off≤k∧k < off+(cellsOf v).length
            · rw [if_pos ⟨c.1,c.2,by omega⟩,if_pos c]
              have:=c2 (k - off) (by omega)
              simpa [List.getD_eq_getElem?_getD,Array.getD_eq_getD_getElem?] using this
            · rw [if_neg (by omega),if_neg c]
              exact hr k hk) (by simpa using hl) (fun j p hj=>by simpa using hp (j+1) p (by simpa using hj))
        refine ⟨out,?_,o2,o3⟩
        unfold Instr.fill
        rw [hpl]
        simp only []
        rw [if_neg (by
          simp only [Bool.or_eq_true,decide_eq_true_eq,not_or,bne_iff_ne,ne_eq]
          refine ⟨by rw [c1,b2']; simp,by rw [c1]; omega⟩)]
        exact o1
section
variable {P:Program}{o:Oper}{ts:List (Nat×AV)}{h:List ak}{w:World}
theorem run_places {t:TypeId}{l:List (Nat×Bool×Nat)}(hs:gz P t=some l):∃ fs:Array Field,P.underlying t=some (.struct fs)∧(fs.mapM (fun f=>do pure (f.offset,← sizeOf f.type)):Sem (Array (Nat×Nat))).run P w = .ok (l.map fun x=>(x.1,x.2.2)).toArray w:=by
  unfold gz at hs
  split at hs
  · rename_i fs hfs
    refine ⟨fs,hfs,?_⟩
    have key:∀ (l':List Field) (r:List (Nat×Bool×Nat)),l'.mapM (fun f=>(cf P f.type).map fun x=>(f.offset,x.1,x.2))=some r→
        (l'.mapM (fun f=>do pure (f.offset,← sizeOf f.type)):Sem (List (Nat×Nat))).run P w = .ok (r.map fun x=>(x.1,x.2.2)) w:=by
      intro l'
      induction l' with
      | nil=>intro r hr; simp at hr; subst hr; simp
      | cons f l' ih=>
        intro r hr
        simp only [List.mapM_cons,Option.pure_def,Option.bind_eq_bind,Option.bind_eq_some_iff,Option.some.injEq] at hr
        obtain ⟨b,hb,r',hr',rfl⟩:=hr
        obtain ⟨x,hx,rfl⟩:=Option.map_eq_some_iff.1 hb
        have hx':cf P f.type=some (x.1,x.2):=hx
        have ih':=ih r' hr'
        simp only [List.mapM_cons,Sem.run_bind,eD hx',Result.andThen_ok,Sem.run_pure,ih',List.map_cons]
    have h1:=key fs.toList l hs
    rw [← Array.toList_mapM] at h1
    have h2:∀ (x:Sem (Array (Nat×Nat))) (r:List (Nat×Nat)),(Array.toList <$> x).run P w = .ok r w→x.run P w = .ok r.toArray w:=by
      intro x r hx
      simp only [Sem.run_map] at hx
      cases hy:x.run P w with
      | ok a w'=>
        rw [hy] at hx
        simp only [Result.andThen_ok,Result.ok.injEq] at hx
        obtain ⟨h3,h4⟩:=hx
        subst h3 h4
        simp
      | halt hh w'=>rw [hy] at hx; simp at hx
    exact h2 _ _ h1
  · cases hs
theorem ae.build {t:TypeId}{parts:Array (Nat×Operand)}{l:List (Nat×Bool×Nat)}{z r:List AV}(ho:o.op = .build t parts)(hs:gz P t=some l)(hz:cd P t=some z)
    (hf:f6 (fun i=>(l[i]?).map fun x=>(x.1,x.2.2)) z (parts.toList.map fun p=>(p.1,ax ts p.2))=some r):ae P o ts h (.agg r) h:=
  ae.same fun G a w hi hr=>by
    obtain ⟨z0,hrun,hsz,hv⟩:=j8 (w:=w) hz
    obtain ⟨fs,hu,hpl⟩:=run_places (w:=w) hs
    obtain ⟨out,o1,o2,o3⟩:=nS (G:=G) _ (parts.toList.map fun p=>(p.1,a.eval p.2)) z z0.cells r hf hsz (hv G) (by simp) (fun j p hj=>by
      rw [List.getElem?_map] at hj
      obtain ⟨q,hq,rfl⟩:=Option.map_eq_some_iff.1 hj
      exact ⟨a.eval q.2,by rw [List.getElem?_map,hq]; rfl,hr.ev q.2⟩)
    refine ⟨.agg out,?_,.agg out r o2 o3⟩
    have e:(fun (i:Nat)=>((l.map fun (x:Nat×Bool×Nat)=>(x.1,x.2.2)).toArray[i]? : Option (Nat×Nat)))=fun (i:Nat)=>(l[i]?).map fun (x:Nat×Bool×Nat)=>(x.1,x.2.2):=by funext i; simp
    have e2:(parts.map fun (x:Nat×Operand)=>(x.1,a.eval x.2)).toList=parts.toList.map fun p=>(p.1,a.eval p.2):=by simp
    rw [← e2,← e] at o1
    simp only [execOp,ho,Instr.build,Sem.run_bind,hrun,run_underlying hu,Result.andThen_ok,hpl]
    simp only [o1,Sem.run_pure,Result.andThen_ok]
end
end Go.Abs
namespace Go.Abs
noncomputable def bR (ts:List (Nat×AV)):List Nat→List (Nat×AV)
  | []=>[]
  | k::ks=>(k,(look ts k).getD .bad)::bR ts ks
theorem kr (ts):∀ (ks:List Nat) (i:Nat) (v:AV),look (bR ts ks) i=some v→v=(look ts i).getD .bad
  | [],i,v,h=>by simp [bR,look] at h
  | k::ks,i,v,h=>by
    simp only [bR,look] at h
    cases hb:k.beq i with
    | true=>
      rw [hb] at h
      obtain rfl:k=i:=Nat.eq_of_beq_eq_true hb
      simp at h
      exact h.symm
    | false=>
      rw [hb] at h
      exact kr ts ks i v (by simpa using h)
theorem RT.lookup {G:Gh}{a:Act}{ts:List (Nat×AV)}(h:RT G a ts)(i:Nat):RV G (a.tmps.getD i undef) ((look ts i).getD .bad):=by
  cases hl:look ts i with
  | none=>exact .bad _
  | some v=>exact h i v hl
theorem GStep.keep {m:Nat}{s:St}(ks:List Nat):GStep m s ⟨bR s.ts ks,s.h⟩:=
  fun G a w hi hr=>⟨G,hi,fun i v hl=>by rw [kr _ _ _ _ hl]; exact hr.lookup i,.refl _ _ _ _⟩
noncomputable def dl:List Nat→Nat→Nat→Option Nat
  | [],_,_=>none
  | x::π,j,id=>bif x.beq id then some j else dl π (j+1) id
theorem hP:∀ (π:List Nat) (k id j:Nat),dl π k id=some j→k≤j∧π[j - k]? = some id
  | [],k,id,j,h=>by simp [dl] at h
  | x::π,k,id,j,h=>by
    simp only [dl] at h
    cases hb:x.beq id with
    | true=>
      rw [hb] at h
      simp at h
      subst h
      obtain rfl:x=id:=Nat.eq_of_beq_eq_true hb
      simp
    | false=>
      rw [hb] at h
      obtain ⟨h1,h2⟩:=hP π (k+1) id j (by simpa using h)
      refine ⟨by omega,?_⟩
      rw [show j - k=(j - (k+1))+1 by omega,List.getElem?_cons_succ]
      exact h2
noncomputable def ma (τ:Nat→Option Nat):List (Nat×AV)→List (Nat×AV)
  | []=>[]
  | (i,v)::ts=>(i,v.tr τ)::ma τ ts
noncomputable def g6 (τ:Nat→Option Nat)(h:List ak):List Nat→List ak
  | []=>[]
  | id::π=>((h[id]?).getD .freed).tr τ::g6 τ h π
theorem lS (τ):∀ (ts:List (Nat×AV)) (i:Nat) (v:AV),look (ma τ ts) i=some v→∃ u,look ts i=some u∧v=u.tr τ
  | [],i,v,h=>by simp [ma,look] at h
  | (k,u)::ts,i,v,h=>by
    simp only [ma,look] at h ⊢
    cases hb:k.beq i with
    | true=>rw [hb] at h; simp at h; exact ⟨u,by simp,h.symm⟩
    | false=>rw [hb] at h; simpa using lS τ ts i v (by simpa using h)
theorem k9 (τ h):∀ π,(g6 τ h π).length=π.length
  | []=>rfl
  | id::π=>by simp [g6,k9 τ h π]
theorem l9 (τ h):∀ (π:List Nat) (j:Nat),(g6 τ h π)[j]? = (π[j]?).map fun id=>((h[id]?).getD .freed).tr τ
  | [],j=>by simp [g6]
  | id::π,0=>by simp [g6]
  | id::π,j+1=>by simpa [g6] using l9 τ h π j
theorem GStep.ren {m:Nat}{s:St}(π:List Nat)(hnd:π.Nodup)(hlt:π.all (fun id=>Nat.blt id s.h.length)=true)(hm:π.take m=List.range m):GStep m s ⟨ma (dl π 0) s.ts,g6 (dl π 0) s.h π⟩:=by
  intro G a w hi hr
  let τ:=dl π 0
  have hτ:∀ id j,τ id=some j→π[j]? = some id:=fun id j h=>by
    have:=(hP π 0 id j h).2
    simpa using this
  let G':Gh:=⟨G.I,fun j=>(π[j]?).bind G.ρ,G.tab⟩
  have hout:∀ id j p,τ id=some j→G.ρ id=some p→G'.ρ j=some p:=fun id j p h1 h2=>by
    show (π[j]?).bind G.ρ=some p
    rw [hτ id j h1]; exact h2
  have hlt':∀ j id,π[j]? = some id→id < s.h.length:=fun j id h=>by
    have:=List.all_eq_true.1 hlt id (List.mem_of_getElem? h)
    simpa using this
  have hslot:∀ (j:Nat) (ob:aQ),(g6 τ s.h π)[j]? = some (.live ob)→∃ (id:Nat) (ob0:aQ),π[j]? = some id∧s.h[id]? = some (.live ob0)∧ob=ob0.tr τ:=by
    intro j ob h
    rw [l9] at h
    obtain ⟨id,h1,h2⟩:=Option.map_eq_some_iff.1 h
    have h3:=hlt' j id h1
    rw [List.getElem?_eq_getElem h3] at h2
    simp only [Option.getD_some] at h2
    cases hx:s.h[id] with
    | live ob0=>
      rw [hx] at h2
      simp only [ak.tr,ak.live.injEq] at h2
      exact ⟨id,ob0,h1,by rw [List.getElem?_eq_getElem h3,hx],h2.symm⟩
    | freed=>rw [hx] at h2; simp [ak.tr] at h2
    | resv=>rw [hx] at h2; simp [ak.tr] at h2
  have hρ':∀ j id p,π[j]? = some id→G'.ρ j=some p→G.ρ id=some p:=fun j id p h1 h2=>by
    have h2':(π[j]?).bind G.ρ=some p:=h2
    rw [h1] at h2'; exact h2'
  refine ⟨G',⟨hi.imm,fun j ob h=>?_,fun j hl=>?_,fun j h=>?_,?_,?_⟩,fun i v hl=>?_,⟨bd.refl _ _,fun _ _ _ x=>x,fun _ _ _ x=>.inl x,?_,fun id p hid x=>?_⟩⟩
  · obtain ⟨id,ob0,h1,h2,rfl⟩:=hslot j ob h
    obtain ⟨p,h3,h4⟩:=hi.obj id ob0 h2
    refine ⟨p,?_,bH.tr_out (G:=G') (Gc:=G) rfl hout h4⟩
    show (π[j]?).bind G.ρ=some p
    rw [h1]; exact h3
  · rw [k9] at hl
    show (π[j]?).bind G.ρ=none
    rw [List.getElem?_eq_none hl]; rfl
  · rw [l9] at h
    obtain ⟨id,h1,h2⟩:=Option.map_eq_some_iff.1 h
    have h3:=hlt' j id h1
    rw [List.getElem?_eq_getElem h3] at h2
    simp only [Option.getD_some] at h2
    show (π[j]?).bind G.ρ=none
    rw [h1]
    cases hx:s.h[id] with
    | live ob0=>rw [hx] at h2; simp [ak.tr] at h2
    | freed=>rw [hx] at h2; simp [ak.tr] at h2
    | resv=>exact hi.resv id (by rw [List.getElem?_eq_getElem h3,hx])
  · intro j ob p j' ob' p' hne h1 h2 h3 h4 b k f1 f2
    obtain ⟨id,ob0,a1,a2,rfl⟩:=hslot j ob h1
    obtain ⟨id',ob0',b1,b2,rfl⟩:=hslot j' ob' h3
    rw [cF] at f1 f2
    refine hi.disj id ob0 p id' ob0' p' (fun e=>hne ?_) a2 (hρ' j id p a1 h2) b2 (hρ' j' id' p' b1 h4) b k f1 f2
    subst e
    exact (List.getElem?_inj (List.getElem?_eq_some_iff.1 a1).1 hnd).1 (a1.trans b1.symm)
  · intro j ob p h1 h2 b k f1
    obtain ⟨id,ob0,a1,a2,rfl⟩:=hslot j ob h1
    rw [cF] at f1
    exact hi.free id ob0 p a2 (hρ' j id p a1 h2) b k f1
  · obtain ⟨u,h1,rfl⟩:=lS _ _ _ _ hl
    exact RV.tr_out (G:=G') (Gc:=G) (fun _ _ _ x=>x) hout (hr i u h1)
  · rintro b k ⟨j,ob,p,h1,h2,f1⟩
    obtain ⟨id,ob0,a1,a2,rfl⟩:=hslot j ob h1
    rw [cF] at f1
    exact .inl ⟨id,ob0,p,a2,hρ' j id p a1 h2,f1⟩
  · have h1:π[id]? = some id:=by
      have:=congrArg (fun l=>l[id]?) hm
      simp only [List.getElem?_take_of_lt hid,List.getElem?_range hid] at this
      exact this
    show (π[id]?).bind G.ρ=some p
    rw [h1]; exact x
noncomputable def lB:Nat→(Nat→Nat→D)→Nat→Nat→D
  | 0,get=>get
  | o+1,get=>fun i j=>get (o+1+i) j
theorem rH (off get):lB off get=fun i j=>get (off+i) j:=by
  cases off with
  | zero=>funext i j; simp [lB]
  | succ k=>rfl
end Go.Abs
namespace Go.Abs
theorem aB.tmp {P:Program}{s:St}{t:Tmp}{r:AV}(h:look s.ts t=some r):aB P #[.tmp t] s r:=by
  intro G a w hi hr
  exact ⟨a.tmps.getD t undef,by simp [kw,wN],hr t r h⟩
theorem aB.none {P:Program}{s:St}:aB P #[] s (.tup []):=fun G a w hi hr=>⟨.tuple #[],by simp [kw],.tup #[] [] rfl (fun i h=>by simp at h)⟩
inductive fS (P:Program)(s:St):ResultVar→AV→Prop
  | tmp {t r} (h:look s.ts t=some r):fS P s (.tmp t) r
  | cell {x t id off n cs v} (h:look s.ts x=some (.ptr id off)) (ht:cf P t=some (false,n)) (hh:s.h[id]? = some (.live (.var cs))) (hc:cs[off]? = some v):fS P s (.cell x t) v
  | cellA {x t id off n cs} (h:look s.ts x=some (.ptr id off)) (ht:cf P t=some (true,n)) (hh:s.h[id]? = some (.live (.var cs))) (hc:Nat.ble (off+n) cs.length=true):fS P s (.cell x t) (.agg ((cs.drop off).take n))
theorem fS.run {P:Program}{s:St}{rv:ResultVar}{r:AV}(h:fS P s rv r){G:Gh}{a:Act}{w:World}(hi:Inv G s.h w)(hr:RT G a s.ts) :
    ∃ v,(wN a.tmps rv).run P w = .ok v w∧RV G v r:=by
  cases h with
  | tmp h=>exact ⟨_,rfl,hr _ _ h⟩
  | cell h ht hh hc=>
    rename_i x t id off n cs
    obtain ⟨b,o',e,hρ,hv⟩:=hE (hr _ _ h)
    have hlt:=(List.getElem?_eq_some_iff.1 hc).1
    obtain ⟨u,h1,_,h2⟩:=kf hi hh hρ hlt
    refine ⟨u,?_,by rw [List.getD_eq_getElem?_getD,hc] at h2; exact h2⟩
    simp only [wN,hv,asAddr,Sem.run_bind,Sem.run_pure,Result.andThen_ok,gg ht h1]
  | cellA h ht hh hc=>
    rename_i x t id off n cs
    obtain ⟨b,o',e,hρ,hv⟩:=hE (hr _ _ h)
    have hle:=Nat.le_of_ble_eq_true hc
    have hcell:∀ j,j < n→w.cell? ⟨b,o'+off+j,none⟩=some ((w.cell? ⟨b,o'+off+j,none⟩).getD undef)∧RV G ((w.cell? ⟨b,o'+off+j,none⟩).getD undef) (cs.getD (off+j) default):=by
      intro j hj
      obtain ⟨u,h1,_,h2⟩:=kf hi hh hρ (i:=off+j) (by omega)
      rw [← Nat.add_assoc] at h1
      rw [h1]
      exact ⟨rfl,h2⟩
    refine ⟨_,?_,RV.agg ((List.range n).map fun j=>(w.cell? ⟨b,o'+off+j,none⟩).getD undef).toArray _ ?_ ?_⟩
    · simp only [wN,hv,asAddr,Sem.run_bind,Sem.run_pure,Result.andThen_ok,iy ht _ (fun j hj=>(hcell j hj).1)]
    · simp; omega
    · intro i hlt
      have hlt':i < n:=by simp at hlt; omega
      have:=(hcell i hlt').2
      simp [List.getD_eq_getElem?_getD,Array.getD_eq_getD_getElem?,List.getElem?_take,List.getElem?_drop,hlt',List.getElem?_range] at this ⊢
      exact this
theorem aB.one {P:Program}{s:St}{rv:ResultVar}{r:AV}(h:fS P s rv r):aB P #[rv] s r:=by
  intro G a w hi hr
  obtain ⟨v,h1,h2⟩:=h.run hi hr
  refine ⟨v,?_,h2⟩
  simp only [kw,List.mapM_toArray,List.mapM_cons,List.mapM_nil,Sem.run_bind,Sem.run_map,Sem.run_pure]
  rw [h1]
  rfl
theorem aB.two {P:Program}{s:St}{r1 r2:ResultVar}{v1 v2:AV}(h1:fS P s r1 v1)(h2:fS P s r2 v2):aB P #[r1,r2] s (.tup [v1,v2]):=by
  intro G a w hi hr
  obtain ⟨u1,a1,b1⟩:=h1.run hi hr
  obtain ⟨u2,a2,b2⟩:=h2.run hi hr
  refine ⟨.tuple #[u1,u2],?_,.tup #[u1,u2] [v1,v2] rfl (fun i hi=>?_)⟩
  · simp only [kw,List.mapM_toArray,List.mapM_cons,List.mapM_nil,Sem.run_bind,Sem.run_map,Sem.run_pure]
    rw [a1]
    simp only [Result.andThen_ok]
    rw [a2]
    rfl
  · match i,hi with
    | 0,_=>exact b1
    | 1,_=>exact b2
theorem aB.three {P:Program}{s:St}{r1 r2 r3:ResultVar}{v1 v2 v3:AV}(h1:fS P s r1 v1)(h2:fS P s r2 v2)(h3:fS P s r3 v3):aB P #[r1,r2,r3] s (.tup [v1,v2,v3]):=by
  intro G a w hi hr
  obtain ⟨u1,a1,b1⟩:=h1.run hi hr
  obtain ⟨u2,a2,b2⟩:=h2.run hi hr
  obtain ⟨u3,a3,b3⟩:=h3.run hi hr
  refine ⟨.tuple #[u1,u2,u3],?_,.tup #[u1,u2,u3] [v1,v2,v3] rfl (fun i hi=>?_)⟩
  · simp only [kw,List.mapM_toArray,List.mapM_cons,List.mapM_nil,Sem.run_bind,Sem.run_map,Sem.run_pure]
    rw [a1]
    simp only [Result.andThen_ok]
    rw [a2]
    simp only [Result.andThen_ok]
    rw [a3]
    rfl
  · match i,hi with
    | 0,_=>exact b1
    | 1,_=>exact b2
    | 2,_=>exact b3
theorem yT {m:Nat}{h:List ak}{r:AV}(π:List Nat)(hnd:π.Nodup)(hlt:π.all (fun id=>Nat.blt id h.length)=true)(hm:π.take m=List.range m) :
    ∀ (G:Gh) (v:Value) (w:World),Inv G h w→RV G v r→∃ G',Inv G' (g6 (dl π 0) h π) w∧RV G' v (r.tr (dl π 0))∧jE m G h w G' (g6 (dl π 0) h π) w:=by
  intro G v w hi hv
  have hr:RT G ⟨#[v],[]⟩ [(0,r)]:=by
    intro i u hl
    simp only [look] at hl
    cases hb:(0:Nat).beq i with
    | true=>
      rw [hb] at hl
      simp at hl
      subst hl
      obtain rfl:0=i:=Nat.eq_of_beq_eq_true hb
      exact hv
    | false=>rw [hb] at hl; simp at hl
  obtain ⟨G',h1,h2,h3⟩:=GStep.ren (m:=m) (s:=⟨[(0,r)],h⟩) π hnd hlt hm G _ w hi hr
  exact ⟨G',h1,h2 0 _ rfl,h3⟩
section
variable {P:Program}{o:Oper}{ts:List (Nat×AV)}{h:List ak}
noncomputable def bM (s:ByteArray)(i:Nat):Int:=((s.data.toList.getD i 0).toNat:Int)
theorem ae.indexS {t:TypeId}{x y:Operand}{s:ByteArray}{k:IntKind}{i:Int}(ho:o.op = .index t x y)(hx:ax ts x = .d (.str s))(hy:ax ts y = .d (.int k i))(ht:P.underlying t=some .string)(h0:0≤i)(h1:i < s.size):ae P o ts h (.d (.int .u8 (bM s i.toNat))) h:=
  ae.same fun G a w hi hr=>by
    refine ⟨.int .u8 (bM s i.toNat),?_,.d (.int _ _)⟩
    have h2:i.toNat < s.size:=by omega
    have h3:i.toNat < s.data.toList.length:=by rw [Array.length_toList]; exact h2
    have e:((s[i.toNat]'h2).toNat:Int)=bM s i.toNat:=by
      unfold bM
      rw [List.getD_eq_getElem?_getD,List.getElem?_eq_getElem h3]
      rfl
    simp only [execOp,ho,nG (hr.ev_of hx),dE (hr.ev_of hy),Sem.run_bind,run_index_string w t s k i ht,dif_pos (show 0≤i∧i < (s.size:Int) from ⟨h0,h1⟩),Result.andThen_ok,Sem.run_pure,e]
theorem zI {G:Gh}{n sz:Nat}{get gn:Nat→Nat→D}{v:Value}(hr:RV G v (.d (.sl n sz get))){l h':Nat}(h1:l≤h')(h2:h'≤n)(hg:∀ i,i < h' - l→∀ j,j < sz→get (l+i) j=gn i j) :
    ∃ ad c,v = .slice ad n c∧h'≤c∧RV G (sliced ad l h' c sz) (.d (.sl (h' - l) sz gn)):=by
  rcases nF hr with ⟨rfl,ad,c,rfl⟩ | ⟨b,o,c,u,rfl,hc,hI,hO,hR⟩
  · have:h'=0:=by omega
    subst this
    refine ⟨ad,c,rfl,by omega,?_⟩
    rw [show 0 - l=0 by omega]
    simp only [sliced,show 0 - l=0 by omega]
    exact .d (.sl0 _ _ _ _)
  · refine ⟨_,c,rfl,by omega,?_⟩
    rcases Nat.eq_or_lt_of_le h1 with e | e
    · subst e
      simp only [sliced,Nat.sub_self]
      exact .d (.sl0 _ _ _ _)
    · have hne:¬ c=l:=by omega
      simp only [sliced,if_neg hne,Option.map_some,Addr.add_none]
      refine .d (.sl b (o+l*sz) (h' - l) (c - l) sz gn (fun i j=>u (l+i) j) (by omega) (fun i hi j hj=>?_) (fun i hi j hj=>hO _ (by omega) j hj) (fun i hi j hj=>?_))
      · have:=hI (l+i) (by omega) j hj
        rw [Nat.add_mul] at this
        rw [← this]; congr 1; omega
      · rw [← hg i hi j hj]; exact hR _ (by omega) j hj
theorem yS {t e:TypeId}(hu:P.underlying t=some (.slice e)):P.elem t=e∧P.underlying t=some (.slice (P.elem t)):=by
  have:P.elem t=e:=by simp [Program.elem,hu]
  exact ⟨this,by rw [this]; exact hu⟩
theorem ae.sliceH {t e:TypeId}{g:Bool}{x z:Operand}{n sz:Nat}{get:Nat→Nat→D}{k':IntKind}{h':Int}(ho:o.op = .slice t x none (some z) none)(hx:ax ts x = .d (.sl n sz get))(hz:ax ts z = .d (.int k' h'))(hs:cy P t=some (e,g,sz))
    (h1:0≤h') (h2:h'≤n):ae P o ts h (.d (.sl h'.toNat sz get)) h:=
  ae.same fun G a w hi hr=>by
    obtain ⟨hu,he⟩:=fE hs
    obtain ⟨e1,e2⟩:=yS hu
    obtain ⟨ad,c,hv,hc,hR⟩:=zI (gn:=get) (hr.ev_of hx) (l:=0) (h':=h'.toNat) (by omega) (by omega) (fun i hi j hj=>by rw [Nat.zero_add])
    refine ⟨_,?_,hR⟩
    simp only [execOp,ho,hv,Option.map_some,Option.map_none,dE (hr.ev_of hz),Sem.run_bind,run_sliceAt_slice w t _ _ _ _ e2,run_slice_h w t ad n c e2 k' h' h1 (by omega),e1,eD he,Result.andThen_ok,Sem.run_pure]
end
end Go.Abs
namespace Go.Abs
noncomputable def aF:AV→AV→Prop
  | .nsl,.d (.sl 0 _ _)=>True
  | .agg cs,.d (.agg ds)=>cs=ds.map .d
  | .d (.agg ds),.agg cs=>cs=ds.map .d
  | x,y=>x=y
noncomputable def dH:List AV→List AV→Prop
  | [],[]=>True
  | x::xs,y::ys=>aF x y∧dH xs ys
  | _,_=>False
theorem aF.refl (x:AV):aF x x:=by
  cases x <;> first | rfl | skip
  rename_i d; cases d <;> rfl
theorem dH.refl:∀ xs,dH xs xs
  | []=>trivial
  | x::xs=>⟨aF.refl x,dH.refl xs⟩
theorem dH.len:∀ {xs ys},dH xs ys→xs.length=ys.length
  | [],[],_=>rfl
  | [],_::_,h=>h.elim
  | _::_,[],h=>h.elim
  | _::xs,_::ys,h=>by simp [dH.len h.2]
theorem dH.get:∀ {xs ys} (i:Nat),dH xs ys→i < xs.length→aF (xs.getD i default) (ys.getD i default)
  | [],[],i,_,h=>by simp at h
  | [],_::_,i,h,_=>h.elim
  | _::_,[],i,h,_=>h.elim
  | x::xs,y::ys,0,h,_=>h.1
  | x::xs,y::ys,i+1,h,hl=>by
    have:=dH.get (xs:=xs) (ys:=ys) i h.2 (by simpa using hl)
    simpa using this
theorem gu {G:Gh}{v:Value}{x:D}(h:RV G v (.d x)):RD G.I v x:=by cases h with | d h=>exact h
theorem RV.sub {G:Gh}{v:Value}{x y:AV}(h:RV G v x)(hs:aF x y):RV G v y:=by
  unfold aF at hs
  split at hs
  · cases h; exact .d (.sl0 _ _ _ _)
  · subst hs
    cases h with
    | agg vs _ hl h=>
      refine .d (.agg vs _ (by simpa using hl) fun i hi=>?_)
      have:=h i (by simpa using hi)
      rw [List.getD_eq_getElem?_getD,List.getElem?_map,List.getElem?_eq_getElem hi] at this
      rw [List.getD_eq_getElem?_getD,List.getElem?_eq_getElem hi]
      exact gu this
  · subst hs
    cases gu h with
    | agg vs _ hl h=>
      refine .agg vs _ (by simpa using hl) fun i hi=>?_
      rw [List.length_map] at hi
      have hi':=hi
      have:=h i hi'
      rw [List.getD_eq_getElem?_getD,List.getElem?_eq_getElem hi'] at this
      rw [List.getD_eq_getElem?_getD,List.getElem?_map,List.getElem?_eq_getElem hi']
      exact .d this
  · exact hs▸h
noncomputable def pj:List (Nat×AV)→List (Nat×AV)→Prop
  | [],[]=>True
  | (i,x)::xs,(j,y)::ys=>(i=j∧aF x y)∧pj xs ys
  | _,_=>False
noncomputable def qo:ak→ak→Prop
  | .live (.var cs),.live (.var ds)=>dH cs ds
  | x,y=>x=y
noncomputable def jG:List ak→List ak→Prop
  | [],[]=>True
  | x::xs,y::ys=>qo x y∧jG xs ys
  | _,_=>False
theorem pj.look:∀ {ts ts':List (Nat×AV)} {i:Nat} {v:AV},pj ts ts'→look ts' i=some v→∃ u,look ts i=some u∧aF u v
  | [],[],i,v,_,h=>by simp [Go.Abs.look] at h
  | [],_::_,_,_,h,_=>h.elim
  | _::_,[],_,_,h,_=>h.elim
  | (k,x)::xs,(k',y)::ys,i,v,h,hl=>by
    obtain ⟨⟨rfl,h1⟩,h2⟩:=h
    simp only [Go.Abs.look] at hl ⊢
    cases hb:k.beq i with
    | true=>rw [hb] at hl; simp at hl; subst hl; exact ⟨x,by simp,h1⟩
    | false=>rw [hb] at hl; simpa using pj.look h2 (by simpa using hl)
theorem qo.refl (x:ak):qo x x:=by
  cases x <;> first | rfl | skip
  rename_i o; cases o <;> first | rfl | exact dH.refl _
theorem jG.refl:∀ xs,jG xs xs
  | []=>trivial
  | x::xs=>⟨qo.refl x,jG.refl xs⟩
theorem jG.len:∀ {xs ys},jG xs ys→xs.length=ys.length
  | [],[],_=>rfl
  | [],_::_,h=>h.elim
  | _::_,[],h=>h.elim
  | _::xs,_::ys,h=>by simp [jG.len h.2]
theorem jG.get:∀ {xs ys} {i:Nat} {y:ak},jG xs ys→ys[i]? = some y→∃ x,xs[i]? = some x∧qo x y
  | [],[],i,y,_,h=>by simp at h
  | [],_::_,_,_,h,_=>h.elim
  | _::_,[],_,_,h,_=>h.elim
  | x::xs,z::ys,0,y,h,hl=>by simp at hl; subst hl; exact ⟨x,rfl,h.1⟩
  | x::xs,z::ys,i+1,y,h,hl=>by simpa using jG.get (xs:=xs) (ys:=ys) h.2 (by simpa using hl)
theorem wW {x:ak}{ob:aQ}(h:qo x (.live ob)):∃ ob0,x = .live ob0∧(ob0=ob∨∃ cs ds,ob0 = .var cs∧ob = .var ds∧dH cs ds):=by
  cases x with
  | live o=>
    refine ⟨o,rfl,?_⟩
    cases o with
    | var cs=>cases ob with
      | var ds=>exact .inr ⟨cs,ds,rfl,rfl,h⟩
      | _=>cases h
    | arr=>cases h; exact .inl rfl
    | mp=>cases h; exact .inl rfl
  | freed=>cases h
  | resv=>cases h
theorem GStep.sub {m:Nat}{s s':St}(h1:pj s.ts s'.ts)(h2:jG s.h s'.h):GStep m s s':=by
  intro G a w hi hr
  have hfoot:∀ (i:Nat) (ob:aQ),s'.h[i]? = some (ak.live ob)→∃ ob0,s.h[i]? = some (ak.live ob0)∧(∀ p,bX p ob=bX p ob0)∧∀ p,bH G w p ob0→bH G w p ob:=by
    intro i ob hx
    obtain ⟨x,a1,a2⟩:=h2.get hx
    obtain ⟨ob0,rfl,a3⟩:=wW a2
    refine ⟨ob0,a1,?_⟩
    rcases a3 with rfl | ⟨cs,ds,rfl,rfl,a4⟩
    · exact ⟨fun _=>rfl,fun _ x=>x⟩
    · refine ⟨fun p=>by funext b k; simp [bX,a4.len],fun p x=>⟨x.1,fun i hi'=>?_⟩⟩
      obtain ⟨v,b1,b2,b3⟩:=x.2 i (by rw [a4.len]; exact hi')
      exact ⟨v,b1,b2,b3.sub (a4.get i (by rw [a4.len]; exact hi'))⟩
  have hfn:∀ b k,cN G s'.h b k→cN G s.h b k:=by
    rintro b k ⟨i,ob,p,b1,b2,b3⟩
    obtain ⟨ob0,c1,c2,_⟩:=hfoot i ob b1
    exact ⟨i,ob0,p,c1,b2,by rw [← c2]; exact b3⟩
  refine ⟨G,⟨hi.imm,fun i ob hx=>?_,fun i hl=>hi.fresh i (by rw [h2.len]; exact hl),fun i hx=>?_,?_,?_⟩,fun i v hl=>?_,⟨bd.refl _ _,fun _ _ _ x=>x,fun _ _ _ x=>.inl x,fun b k x=>.inl (hfn b k x),fun _ _ _ x=>x⟩⟩
  · obtain ⟨ob0,c1,_,c3⟩:=hfoot i ob hx
    obtain ⟨p,d1,d2⟩:=hi.obj i ob0 c1
    exact ⟨p,d1,c3 p d2⟩
  · obtain ⟨x,a1,a2⟩:=h2.get hx
    cases x with
    | live o=>cases o <;> cases a2
    | freed=>cases a2
    | resv=>exact hi.resv i a1
  · intro i1 o1 p1 i2 o2 p2 hne g1 g2 g3 g4 b k f1 f2
    obtain ⟨q1,c1,c2,_⟩:=hfoot i1 o1 g1
    obtain ⟨q2,d1,d2,_⟩:=hfoot i2 o2 g3
    exact hi.disj i1 q1 p1 i2 q2 p2 hne c1 g2 d1 g4 b k (by rw [← c2]; exact f1) (by rw [← d2]; exact f2)
  · intro i1 o1 p1 g1 g2 b k f1
    obtain ⟨q1,c1,c2,_⟩:=hfoot i1 o1 g1
    exact hi.free i1 q1 p1 c1 g2 b k (by rw [← c2]; exact f1)
  · obtain ⟨u,c1,c2⟩:=h1.look hl
    exact (hr i u c1).sub c2
end Go.Abs
namespace Go.Abs
noncomputable def row {α:Type}[Inhabited α](enc:α→List D)(xs:List α):Nat→Nat→D:=fun i j=>(enc (xs.getD i default)).getD j default
noncomputable def af {α:Type}[Inhabited α](sz:Nat)(enc:α→List D)(xs:List α):D:=.sl xs.length sz (row enc xs)
section
variable {α:Type}[Inhabited α]{enc:α→List D}
theorem xU {xs ys:List α}{i j:Nat}(h:i < xs.length):row enc (xs++ys) i j=row enc xs i j:=by
  simp [row,List.getD_eq_getElem?_getD,List.getElem?_append_left h]
theorem wP {xs ys:List α}{i j:Nat}:row enc (xs++ys) (xs.length+i) j=row enc ys i j:=by
  simp [row,List.getD_eq_getElem?_getD,List.getElem?_append_right]
theorem uH {xs:List α}{x:α}{i k j:Nat}(h:i < xs.length):row enc (xs.set i x) k j=if k=i then (enc x).getD j default else row enc xs k j:=by
  simp only [row,List.getD_eq_getElem?_getD,List.getElem?_set]
  by_cases e:k=i
  · subst e; simp [h]
  · simp [e,Ne.symm e]
theorem uG {x:α}{n k j:Nat}(h:k < n):row enc (List.replicate n x) k j=(enc x).getD j default:=by
  simp [row,List.getD_eq_getElem?_getD,List.getElem?_replicate,h]
end
section
variable {P:Program}{o:Oper}{ts:List (Nat×AV)}{h:List ak}
theorem ae.appT {α:Type}[Inhabited α](enc:α→List D)(xs ys:List α){x y:Operand}{t t2 e:TypeId}{g ex:Bool}{id sz bytes:Nat}(ho:o.op = .call { callee:=.builtin .append,args:=#[x,y],argTypes:=#[t,t2] })
    (hx:ax ts x = .osl id 0 xs.length sz) (hh:h[id]? = some (.live (.arr sz xs.length ex (row enc xs)))) (hy:ax ts y = .d (af sz enc ys)) (hs:cy P t=some (e,g,sz)) (hin:dz P e=some (sz,bytes)) (ht2:cj P t2=true)
    (hb0:Nat.blt 0 bytes=true) (hb:(xs.length+ys.length)*bytes≤140737488355328) :
    ae P o ts h (.osl h.length 0 (xs++ys).length sz) (h.set id .freed++[.live (.arr sz (xs++ys).length false (row enc (xs++ys)))]):=by
  have:=ae.append (row enc (xs++ys)) ho hx hh (by simp) hy hs hin ht2 hb hb0 (fun i hi j hj=>by rw [xU hi,Nat.zero_add]) (fun i hi j hj=>wP.symm)
  rwa [← List.length_append] at this
theorem Inv.pushI {G:Gh}{w:World}(hi:Inv G h w)(cs:Array Value)(e:TypeId) :
    ∃ G',G.Le G'∧(∀ k v,cs[k]? = some v→G'.I w.heap.size k=some v)∧Inv G' h (w.alloc (.cells cs e))∧d5 G h w G' h (w.alloc (.cells cs e)):=by
  let G':Gh:=⟨fun b k=>if b=w.heap.size then cs[k]? else G.I b k,G.ρ,fun b k v ht=>by
    show (if _ then _ else _)=_
    have hc:=hi.imm _ _ _ (G.tab _ _ _ ht)
    rw [if_neg (Nat.ne_of_lt (dw hc))]
    exact G.tab _ _ _ ht⟩
  have hnone:∀ k,G.I w.heap.size k=none:=fun k=>by
    cases hx:G.I w.heap.size k with
    | none=>rfl
    | some v=>have:=dw (hi.imm _ _ _ hx); omega
  have hle:G.Le G':=⟨fun b k v x=>by
    show (if _ then _ else _)=_
    by_cases hb:b=w.heap.size
    · subst hb; rw [hnone k] at x; cases x
    · rw [if_neg hb]; exact x,fun _ _ x=>x⟩
  have hnew:∀ k v,cs[k]? = some v→G'.I w.heap.size k=some v:=fun k v x=>by simp [G',x]
  refine ⟨G',hle,hnew,⟨fun b k v x=>?_,fun i ob hx=>?_,hi.fresh,hi.resv,hi.disj,fun i ob p h1 h2 b k f1=>?_⟩,⟨hle,bd.alloc _ w _,fun b k v x=>?_,fun b k x=>.inl x⟩⟩
  · have x':(if b=w.heap.size then cs[k]? else G.I b k)=some v:=x
    by_cases hb:b=w.heap.size
    · rw [if_pos hb] at x'; subst hb; rw [gP]; exact x'
    · rw [if_neg hb] at x'; exact mL (hi.imm b k v x')
  · obtain ⟨p,h1,h2⟩:=hi.obj i ob hx
    exact ⟨p,h1,h2.frame (F:=fun _ _=>False) (bd.alloc _ w _) hle (fun _ _ _ x=>x)⟩
  · have:=hi.blk h1 h2 f1
    have:=fJ f1
    show (if b=w.heap.size then cs[k]? else G.I b k)=none
    rw [if_neg (by omega)]
    exact hi.free i ob p h1 h2 b k f1
  · have x':(if b=w.heap.size then cs[k]? else G.I b k)=some v:=x
    by_cases hb:b=w.heap.size
    · exact .inr (.inr (by omega))
    · rw [if_neg hb] at x'; exact .inl x'
noncomputable def js (z:List AV)(n:Nat):List AV:=(List.range n).map fun k=>z.getD (k % z.length) default
noncomputable def fi (get:Nat→Nat→D)(len sz:Nat):List AV:=(List.range (len*sz)).map fun k=>.d (get (k / sz) (k % sz))
theorem mb {G:Gh}{w:World}{a:Act}(hr:RT G a ts){t e:TypeId}{g:Bool}{sz len:Nat}{parts:Array (Nat×Operand)}{z r:List AV}(hs:cy P t=some (e,g,sz))(hz:cd P e=some z)(hzl:z.length=sz)(hle:Nat.ble (len*sz) 16777216=true)
    (hf:f6 (fun i=>some (i*sz,sz)) (js z (len*sz)) (parts.toList.map fun p=>(p.1,ax ts p.2))=some r) :
    ∃ cells:Array Value,(Instr.buildSlice t len (parts.map fun (i,x)=>(i,a.eval x))).run P w = .ok (.slice (some ⟨w.heap.size,0,none⟩) len len) (w.alloc (.cells cells e))∧cells.size=r.length∧∀ i,i < r.length→RV G (cells.getD i undef) (r.getD i default):=by
  obtain ⟨hu,he⟩:=fE hs
  obtain ⟨z0,hrun,hsz,hv⟩:=j8 (w:=w) hz
  have hle':len*sz≤16777216:=Nat.le_of_ble_eq_true hle
  let base:Array Value:=if len*sz=0 then #[] else madeCells z0.cells (len*sz)
  have hb1:base.size=(js z (len*sz)).length:=by
    by_cases hc:len*sz=0
    · simp [base,js,hc]
    · simp [base,hc,madeCells,js]
  obtain ⟨out,o1,o2,o3⟩:=nS (G:=G) _ (parts.toList.map fun p=>(p.1,a.eval p.2)) _ base r hf hb1 (fun i hi=>by
      simp [js] at hi
      have hc:¬ len*sz=0:=by omega
      have hzp:0 < z.length:=by
          rw [hzl]; rcases Nat.eq_zero_or_pos sz with x | x; · subst x; simp at hi
          · exact x
      have hm:i % z.length < z.length:=Nat.mod_lt _ hzp
      have:=hv G (i % z.length) hm
      simp only [base,if_neg hc,madeCells,js]
      rw [List.getD_eq_getElem?_getD,List.getElem?_map,List.getElem?_range hi]
      simp only [Array.getD_eq_getD_getElem?,Array.getElem?_map,Array.getElem?_range,hi,if_true,Option.map_some,Option.getD_some]
      rw [hsz]
      have hm':i % z.length < z0.cells.size:=by rw [hsz]; exact hm
      rw [getElem!_pos z0.cells _ hm']
      simpa [Array.getD_eq_getD_getElem?,hm'] using this) (by simp) (fun j p hj=>by
      rw [List.getElem?_map] at hj
      obtain ⟨q,hq,rfl⟩:=Option.map_eq_some_iff.1 hj
      exact ⟨a.eval q.2,by rw [List.getElem?_map,hq]; rfl,hr.ev q.2⟩)
  refine ⟨out,?_,o2,o3⟩
  have hn:¬ (2 ^ 24 < len*sz):=by omega
  by_cases hc:len*sz=0
  · simp only [base,if_pos hc] at o1
    simp [Instr.buildSlice,run_underlying hu,eD he,hc,o1,newRow,Array.range_zero']
  · simp only [base,if_neg hc,madeCells] at o1
    simp [Instr.buildSlice,run_underlying hu,eD he,hn,hc,hrun,o1,newRow]
end
end Go.Abs
namespace Go.Abs
section
variable {P:Program}{o:Oper}{ts:List (Nat×AV)}{h:List ak}
theorem tz {get:Nat→Nat→D}{len sz i j:Nat}(hi:i < len)(hj:j < sz):(fi get len sz).getD (i*sz+j) default = .d (get i j):=by
  simp only [fi,List.getD_eq_getElem?_getD,List.getElem?_map,List.getElem?_range (ja hi hj),Option.map_some,Option.getD_some,uf hj,qz hj]
theorem kz (get:Nat→Nat→D)(len sz:Nat):(fi get len sz).length=len*sz:=by simp [fi]
theorem qT {G:Gh}{cells:Array Value}{r:List AV}{get:Nat→Nat→D}{len sz:Nat}(hr:dH r (fi get len sz))(hfl:r.all AV.flat=true)(hs:cells.size=r.length)(hv:∀ i,i < r.length→RV G (cells.getD i undef) (r.getD i default))
    {i j:Nat} (hi:i < len) (hj:j < sz):∃ v,cells[i*sz+j]? = some v∧v.oneCell'=true∧RD G.I v (get i j):=by
  have hlt:i*sz+j < r.length:=by rw [hr.len,kz]; exact ja hi hj
  have h1:=hv _ hlt
  have h3:i*sz+j < cells.size:=by omega
  have h4:cells.getD (i*sz+j) undef=cells[i*sz+j]:=by simp [Array.getD_eq_getD_getElem?,h3]
  rw [h4] at h1
  have hf:AV.flat (r.getD (i*sz+j) default)=true:=by
    have hm:r.getD (i*sz+j) default∈r:=by
      rw [List.getD_eq_getElem?_getD,List.getElem?_eq_getElem hlt]; exact List.getElem_mem hlt
    exact (List.all_eq_true.1 hfl) _ hm
  have h5:=h1.sub (hr.get _ hlt)
  rw [tz hi hj] at h5
  exact ⟨_,Array.getElem?_eq_getElem h3,(RV.flat_cells h1 hf).2,gu h5⟩
theorem ae.bslice {t e:TypeId}{g:Bool}{sz len:Nat}{parts:Array (Nat×Operand)}{z r:List AV}(get:Nat→Nat→D)(ho:o.op = .buildSlice t len parts)(hs:cy P t=some (e,g,sz))(hz:cd P e=some z)(hzl:z.length=sz)(hle:Nat.ble (len*sz) 16777216=true)
    (hf:f6 (fun i=>some (i*sz,sz)) (js z (len*sz)) (parts.toList.map fun p=>(p.1,ax ts p.2))=some r) (hr:dH r (fi get len sz)) (hfl:r.all AV.flat=true) (hz0:Nat.blt 0 sz=true) :
    ae P o ts h (.osl h.length 0 len sz) (h++[.live (.arr sz len true get)]):=
  ae.value fun G a w hi hR=>by
    obtain ⟨cells,hrun,h1,h2⟩:=mb (w:=w) hR hs hz hzl hle hf
    have hl:r.length=len*sz:=by rw [hr.len,kz]
    obtain ⟨G',hG,hρ,h3,h4⟩:=hi.push (.cells cells e) (.arr sz len true get) (len*sz) (fun G' hG=>by
      refine ⟨by simp [fu],fun i hi' j hj=>?_,fun k _ hk=>?_,by simp,(fun _=>by simp),by simpa using hz0⟩
      · obtain ⟨v,c1,c2,c3⟩:=qT hr hfl h1 (fun i hi=>h2 i hi) hi' hj
        refine ⟨v,?_,c2,c3.mono hG.I⟩
        show (w.alloc (.cells cells e)).cell? ⟨w.heap.size,0+i*sz+j,none⟩=_
        rw [Nat.zero_add,gP]; exact c1
      · have hk':k < cells.size:=by rw [h1,hl]; exact hk
        exact ⟨_,by rw [gP]; exact Array.getElem?_eq_getElem hk',jv k⟩)
    refine ⟨.slice (some ⟨w.heap.size,0,none⟩) len len,_,G',?_,RV.osl _ 0 len sz len hρ (by simp) (Nat.le_refl _) (.inl (by simp)),h3,h4⟩
    simp only [execOp,ho,Sem.run_bind,hrun,Result.andThen_ok,Sem.run_pure]
theorem ae.bsliceV {t e:TypeId}{g:Bool}{sz len:Nat}{parts:Array (Nat×Operand)}{z r:List AV}(get:Nat→Nat→D)(ho:o.op = .buildSlice t len parts)(hs:cy P t=some (e,g,sz))(hz:cd P e=some z)(hzl:z.length=sz)(hle:Nat.ble (len*sz) 16777216=true)
    (hf:f6 (fun i=>some (i*sz,sz)) (js z (len*sz)) (parts.toList.map fun p=>(p.1,ax ts p.2))=some r) (hr:dH r (fi get len sz)) (hfl:r.all AV.flat=true) :
    ae P o ts h (.d (.sl len sz get)) h:=
  ae.value fun G a w hi hR=>by
    obtain ⟨cells,hrun,h1,h2⟩:=mb (w:=w) hR hs hz hzl hle hf
    obtain ⟨G',hG,hI,h3,h4⟩:=hi.pushI cells e
    have hc:∀ i,i < len→∀ j,j < sz→∃ v,cells[i*sz+j]? = some v∧v.oneCell'=true∧RD G.I v (get i j):=fun i hi' j hj=>qT hr hfl h1 h2 hi' hj
    refine ⟨_,_,G',?_,.d (.sl w.heap.size 0 len len sz get (fun i j=>cells.getD (i*sz+j) undef) (Nat.le_refl _) (fun i hi' j hj=>?_) (fun i hi' j hj=>?_) (fun i hi' j hj=>?_)),h3,h4⟩
    · simp only [execOp,ho,Sem.run_bind,hrun,Result.andThen_ok,Sem.run_pure]
    · obtain ⟨v,c1,c2,c3⟩:=hc i hi' j hj
      rw [Nat.zero_add,hI _ _ c1]; simp [Array.getD_eq_getD_getElem?,c1]
    · obtain ⟨v,c1,c2,c3⟩:=hc i hi' j hj
      simpa [Array.getD_eq_getD_getElem?,c1] using c2
    · obtain ⟨v,c1,c2,c3⟩:=hc i hi' j hj
      simpa [Array.getD_eq_getD_getElem?,c1] using c3.mono hG.I
theorem ae.bsliceR {t e:TypeId}{g:Bool}{len:Nat}{parts:Array (Nat×Operand)}{z r:List AV}(ho:o.op = .buildSlice t len parts)(hs:cy P t=some (e,g,1))(hz:cd P e=some z)(hzl:z.length=1)(hle:Nat.ble (len*1) 16777216=true)
    (hf:f6 (fun i=>some (i*1,1)) (js z (len*1)) (parts.toList.map fun p=>(p.1,ax ts p.2))=some r) (hrl:r.length=len) :
    ae P o ts h (.rsl r) h:=
  ae.value fun G a w hi hR=>by
    obtain ⟨cells,hrun,h1,h2⟩:=mb (w:=w) hR hs hz hzl hle hf
    obtain ⟨G',hG,hI,h3,h4⟩:=hi.pushI cells e
    refine ⟨.slice (some ⟨w.heap.size,0,none⟩) r.length r.length,_,G',?_,.rsl w.heap.size 0 r.length cells r h1 (Nat.le_refl _) (fun i hi'=>?_) (fun i hi'=>(h2 i hi').mono hG),h3,h4⟩
    · simp only [execOp,ho,Sem.run_bind,hrun,Result.andThen_ok,Sem.run_pure,hrl]
    · have hk:i < cells.size:=by omega
      rw [Nat.zero_add,hI i _ (Array.getElem?_eq_getElem hk)]
      simp [Array.getD_eq_getD_getElem?,hk]
theorem ae.bsliceX {t e:TypeId}{g:Bool}{sz len:Nat}{parts:Array (Nat×Operand)}{z:List AV}(r:List AV)(ds:List AV)(get:Nat→Nat→D)(ho:o.op = .buildSlice t len parts)(hs:cy P t=some (e,g,sz))(hz:cd P e=some z)(hzl:z.length=sz)(hle:Nat.ble (len*sz) 16777216=true)
    (hf:f6 (fun i=>some (i*sz,sz)) (js z (len*sz)) (parts.toList.map fun p=>(p.1,ax ts p.2))=some r) (hr:dH r ds) (hrow:fi get len sz=ds) (hfl:r.all AV.flat=true) :
    ae P o ts h (.d (.sl len sz get)) h:=ae.bsliceV get ho hs hz hzl hle hf (hrow▸hr) hfl
theorem ae.bsliceOX {t e:TypeId}{g:Bool}{sz len:Nat}{parts:Array (Nat×Operand)}{z:List AV}(r:List AV)(ds:List AV)(get:Nat→Nat→D)(ho:o.op = .buildSlice t len parts)(hs:cy P t=some (e,g,sz))(hz:cd P e=some z)(hzl:z.length=sz)(hle:Nat.ble (len*sz) 16777216=true)
    (hf:f6 (fun i=>some (i*sz,sz)) (js z (len*sz)) (parts.toList.map fun p=>(p.1,ax ts p.2))=some r) (hr:dH r ds) (hrow:fi get len sz=ds) (hfl:r.all AV.flat=true) (hz0:Nat.blt 0 sz=true) :
    ae P o ts h (.osl h.length 0 len sz) (h++[.live (.arr sz len true get)]):=ae.bslice get ho hs hz hzl hle hf (hrow▸hr) hfl hz0
theorem ae.indexR {t:TypeId}{x y:Operand}{es:List AV}{e:TypeId}{g:Bool}{k:IntKind}{i:Nat}{v:AV}(ho:o.op = .indexAddr t x y)(hx:ax ts x = .rsl es)(hy:ax ts y = .d (.int k i))(hs:cy P t=some (e,g,1))(hv:es[i]? = some v):ae P o ts h (.rp v) h:=
  ae.same fun G a w hi hr=>by
    obtain ⟨hu,he⟩:=fE hs
    have hyv:=dE (hr.ev_of hy)
    obtain ⟨b,o',c,us,hav,hsz,hI,hR⟩:=uI (hr.ev_of hx)
    have hlt:i < es.length:=(List.getElem?_eq_some_iff.1 hv).1
    have e1:es.getD i default=v:=by rw [List.getD_eq_getElem?_getD,hv]; rfl
    refine ⟨.pointer (some ⟨b,o'+i,none⟩),?_,.rp b (o'+i) _ (hI i hlt) (e1▸hR i hlt)⟩
    have h0:(0:Int)≤(i:Int):=by omega
    have h1:(i:Int) < (es.length:Int):=by omega
    simp only [execOp,ho,hav,hyv,Instr.indexAt,asIntOf,run_underlying hu,Sem.run_bind,Sem.run_pure,Result.andThen_ok]
    simp [h0,h1,eD he,Addr.add_none]
theorem zG {G:Gh}{v:Value}{x:AV}(h:RV G v (.rp x)):∃ b o u,v = .pointer (some ⟨b,o,none⟩)∧G.I b o=some u∧RV G u x:=by
  cases h with
  | rp b o u hI h=>exact ⟨b,o,u,rfl,hI,h⟩
theorem ae.loadR {t:TypeId}{x:Operand}{n:Nat}{v:AV}(ho:o.op = .load t x)(hx:ax ts x = .rp v)(ht:cf P t=some (false,n)):ae P o ts h v h:=
  ae.same fun G a w hi hr=>by
    obtain ⟨b,o',u,hv,hI,hR⟩:=zG (hr.ev_of hx)
    refine ⟨u,?_,hR⟩
    simp only [execOp,ho,hv,Instr.loadAt,Instr.sureAddr,Sem.run_bind,Sem.run_pure,Result.andThen_ok,gg ht (hi.imm _ _ _ hI)]
end
end Go.Abs
namespace Go.Abs
section
variable {P:Program}{o:Oper}{ts:List (Nat×AV)}{h:List ak}
theorem ae.storeE {t:TypeId}{x y:Operand}{id i k sz n N:Nat}{g ex:Bool}{get get':Nat→Nat→D}{v:AV}(ho:o.op = .store t x y)(hx:ax ts x = .eptr id i k sz)(hy:ax ts y=v)(ht:cf P t=some (g,n))(hh:h[id]? = some (.live (.arr sz N ex get)))
    (hb:v.boxable=true) (hf:(cellsOf v).all AV.flat=true) (hn:(cellsOf v).length=n) (hi:i < N) (hk:Nat.ble (k+n) sz=true)
    (hnew:∀ j,j < n→aF ((cellsOf v).getD j default) (.d (get' i (k+j)))) (hold:∀ i' j,i' < N→j < sz→¬ (i'=i∧k≤j∧j < k+n)→get' i' j=get i' j) :
    ae P o ts h .bad (h.set id (.live (.arr sz N ex get'))):=
  ae.skip fun G a w hi' hr=>by
    obtain ⟨b,o',e,hρ,hv⟩:=iK (hr.ev_of hx)
    have hy':=hr.ev_of hy
    obtain ⟨hs,hc⟩:=hy'.cells (AV.boxable_out hb)
    have h1:=tj hy' hb (List.all_eq_true.1 hf)
    have hk':=Nat.le_of_ble_eq_true hk
    obtain ⟨hb',hcell,hroom,hle,hex,hz⟩:=iG hi' hh hρ
    simp only at hb' hroom hle hex
    have hin:i*sz+k+n≤N*sz:=by
      have:(i+1)*sz≤N*sz:=Nat.mul_le_mul_right _ hi
      rw [Nat.add_mul] at this
      omega
    have hlen:(a.eval y).cells.toList.length=n:=by rw [Array.length_toList,hs,hn]
    obtain ⟨w',hrun,hat,hpr,hsz,hkeep⟩:=jr (P:=P) (b:=b) (o:=o'+i*sz+k) (a.eval y).cells.toList 0 w h1 (fun j hj=>hroom _ (by omega) (by rw [hlen] at hj; omega))
    rw [Nat.add_zero] at hat hpr
    rw [hlen] at hpr
    have hnewobj:bH G w' (b,o',e) (.arr sz N ex get'):=by
      refine ⟨by rw [hsz]; exact hb',fun i' hi2 j hj=>?_,fun k' hk1 hk2=>?_,hle,hex,hz⟩
      · by_cases hc1:i'=i∧k≤j∧j < k+n
        · obtain ⟨rfl,g1,g2⟩:=hc1
          have hj':j - k < (cellsOf v).length:=by omega
          have r1:=(hc (j - k) hj').sub (hnew (j - k) (by omega))
          rw [show k+(j - k)=j by omega] at r1
          have hlt:j - k < (a.eval y).cells.toList.length:=by rw [hlen]; omega
          have hlt2:j - k < (a.eval y).cells.size:=by simpa using hlt
          have r2:=hat (j - k) _ (List.getElem?_eq_getElem hlt)
          refine ⟨(a.eval y).cells.toList[j - k],?_,h1 _ (List.getElem_mem hlt),?_⟩
          · rw [show o'+i'*sz+j=o'+i'*sz+k+(j - k) by omega]; exact r2
          · have:=gu r1
            simpa [Array.getD_eq_getD_getElem?,hlt2] using this
        · rw [hold i' j hi2 hj hc1]
          obtain ⟨u,u1,u2,u3⟩:=hcell i' hi2 j hj
          refine ⟨u,hpr.cell _ _ _ (fun x=>hc1 ?_) u1,u2,u3⟩
          have x2:=x.2
          simp only at x2
          have hii:i'=i:=by
            rcases Nat.lt_trichotomy i' i with c | c | c
            · have:(i'+1)*sz≤i*sz:=Nat.mul_le_mul_right _ c
              rw [Nat.add_mul] at this; omega
            · exact c
            · have:(i+1)*sz≤i'*sz:=Nat.mul_le_mul_right _ c
              rw [Nat.add_mul] at this; omega
          subst hii
          exact ⟨rfl,by omega,by omega⟩
      · obtain ⟨u,a1,a2⟩:=hroom k' hk1 hk2
        obtain ⟨u',b1,b2⟩:=hkeep k' u a1
        exact ⟨u',b1,by rw [b2]; exact a2⟩
    obtain ⟨i2,e2⟩:=hi'.change (ob':=.arr sz N ex get') hh hρ (fun _ _ x=>x) (hpr.imp fun b' k' x=>⟨x.1,by show o'≤k'; omega,by show k' < e; omega⟩) hnewobj
    refine ⟨w',G,?_,i2,e2⟩
    simp [execOp,ho,hv,Instr.storeAt,Instr.sureAddr,storeVar,Sem.run_bind,Sem.run_pure,Result.andThen_ok,eD ht,hs,hn,hrun]
theorem vD:∀ (xs cs:List AV) (k j:Nat),j < xs.length→k+xs.length≤cs.length→(dV cs k xs).getD (k+j) default=xs.getD j default:=fun xs cs k j hj hl=>by
  rw [i4 xs cs k (k+j) hl,if_pos ⟨by omega,by omega⟩,Nat.add_sub_cancel_left]
theorem ae.storeT {α:Type}[Inhabited α](enc:α→List D)(xs:List α)(x':α){t:TypeId}{x y:Operand}{id i k sz n:Nat}{g ex:Bool}{v:AV}(ho:o.op = .store t x y)(hx:ax ts x = .eptr id i k sz)(hy:ax ts y=v)(ht:cf P t=some (g,n))(hh:h[id]? = some (.live (.arr sz xs.length ex (row enc xs))))
    (hi:i < xs.length) (hb:v.boxable=true) (hf:(cellsOf v).all AV.flat=true) (hn:(cellsOf v).length=n) (hk:Nat.ble (k+n) sz=true) (hl:(enc (xs.getD i default)).length=sz) (hl':(enc x').length=sz)
    (hnew:dH (dV ((enc (xs.getD i default)).map .d) k (cellsOf v)) ((enc x').map .d)) :
    ae P o ts h .bad (h.set id (.live (.arr sz (xs.set i x').length ex (row enc (xs.set i x'))))):=by
  rw [List.length_set]
  have hk':=Nat.le_of_ble_eq_true hk
  have hset:(dV ((enc (xs.getD i default)).map .d) k (cellsOf v)).length=sz:=by rw [gM,List.length_map,hl]
  have hd:∀ (l:List D) (j:Nat),j < l.length→(l.map AV.d).getD j default = .d (l.getD j default):=fun l j hj=>by
    simp [List.getD_eq_getElem?_getD,hj]
  refine ae.storeE ho hx hy ht hh hb hf hn hi hk (fun j hj=>?_) (fun i' j hi2 hj hne=>?_)
  · have:=hnew.get (k+j) (by rw [hset]; omega)
    rw [vD _ _ _ _ (by omega) (by rw [List.length_map,hl]; omega),hd _ _ (by omega)] at this
    rw [uH hi,if_pos rfl]
    exact this
  · rw [uH hi]
    split
    · rename_i e
      subst e
      have:=hnew.get j (by rw [hset]; omega)
      rw [i4 _ _ _ _ (by rw [List.length_map,hl]; omega),if_neg (fun c=>hne ⟨rfl,c.1,by omega⟩),hd _ _ (by omega),hd _ _ (by omega)] at this
      have e2:(enc (xs.getD i' default)).getD j default=(enc x').getD j default:=by
        generalize (enc (xs.getD i' default)).getD j default=p at this
        generalize (enc x').getD j default=q at this
        unfold aF at this
        split at this <;> first | (rename_i h1 h2; cases h1; done) | skip
        all_goals first | (rename_i h2; cases h2; done) | skip
        · injection this
      exact e2.symm
    · rfl
theorem ae.makeT {α:Type}[Inhabited α](enc:α→List D)(x0:α){t e:TypeId}{x y:Operand}{k k':IntKind}{n:Int}{g:Bool}{sz bytes:Nat}{z:List AV}(ho:o.op = .makeSlice t x y)(hx:ax ts x = .d (.int k n))(hy:ax ts y = .d (.int k' n))(hs:cy P t=some (e,g,sz))(hin:dz P e=some (sz,bytes))(hz:cd P e=some z)
    (hb0:Nat.blt 0 bytes=true) (hz0:Nat.blt 0 sz=true) (hfl:z.all AV.flat=true) (hzl:z.length=sz) (hsub:dH z ((enc x0).map .d)) (h0:0≤n) (hb:n.toNat*bytes≤140737488355328) :
    ae P o ts h (.osl h.length 0 (List.replicate n.toNat x0).length sz) (h++[.live (.arr sz (List.replicate n.toNat x0).length true (row enc (List.replicate n.toNat x0)))]):=
  ae.value fun G a w hi hR=>by
    obtain ⟨hu,he⟩:=fE hs
    obtain ⟨i,z0,h1,h2,h3,h4,h5⟩:=kq hin
    obtain ⟨m,rfl⟩:∃ m:Nat,n=(m:Int):=⟨n.toNat,by omega⟩
    simp only [Int.toNat_natCast,List.length_replicate] at hb ⊢
    have hb0':0 < bytes:=by simpa using hb0
    have hz0':0 < sz:=by simpa using hz0
    have hle:m≤140737488355328:=Nat.le_trans (Nat.le_mul_of_pos_right _ hb0') hb
    have hrun:=run_make (P:=P) w t e i z0 hu h1 h2 k k' (m:Int) (m:Int) (by omega) (Int.le_refl _) (by
      rw [h5]
      have:((m*bytes:Nat):Int)≤140737488355328:=by omega
      rw [Int.natCast_mul,Int.mul_comm] at this
      omega) (by omega)
    rw [h4] at hrun
    simp only [Int.toNat_natCast] at hrun
    obtain ⟨z1,hrz,hzs,hzv⟩:=j8 (w:=w) hz
    have hzz:z1=z0:=by simp [zeroValue,typeInfo,h1,h2] at hrz; exact hrz.symm
    subst hzz
    have hszz:z1.cells.size=sz:=h3
    have hcell:∀ q,q < m*sz→∃ v,(madeCells z1.cells (m*sz))[q]? = some v∧v=z1.cells.getD (q % sz) undef:=fun q hq=>by
      have hm:q % sz < sz:=Nat.mod_lt _ hz0'
      refine ⟨_,?_,rfl⟩
      have hm':q % sz < z1.cells.size:=by rw [hszz]; exact hm
      simp only [madeCells,Array.getElem?_map,Array.getElem?_range,hq,if_true,Option.map_some,hszz]
      rw [getElem!_pos z1.cells _ hm']
      simp [Array.getD_eq_getD_getElem?,hm']
    have hone:∀ j,j < sz→(z1.cells.getD j undef).oneCell'=true∧∀ G:Gh,RD G.I (z1.cells.getD j undef) ((enc x0).getD j default):=fun j hj=>by
      have hjz:j < z.length:=by rw [hzl]; exact hj
      have f1:=(List.all_eq_true.1 hfl) (z.getD j default) (by rw [List.getD_eq_getElem?_getD,List.getElem?_eq_getElem hjz]; exact List.getElem_mem hjz)
      have hl2:(enc x0).length=sz:=by have:=hsub.len; rw [List.length_map] at this; omega
      refine ⟨(RV.flat_cells (hzv ⟨kc,fun _=>none,fun _ _ _ h=>h⟩ j hjz) f1).2,fun G=>?_⟩
      have:=(hzv G j hjz).sub (hsub.get j hjz)
      rw [List.getD_eq_getElem?_getD,List.getElem?_map,List.getElem?_eq_getElem (by omega)] at this
      rw [List.getD_eq_getElem?_getD,List.getElem?_eq_getElem (by omega)]
      exact gu this
    obtain ⟨G',hG,hρ,h6,h7⟩:=hi.push (.cells (madeCells z1.cells (m*sz)) e) (.arr sz m true (row enc (List.replicate m x0))) (m*sz) (fun G' hG=>by
      refine ⟨by simp [fu],fun i hi' j hj=>?_,fun q _ hq=>?_,by simp,(fun _=>by simp),hz0'⟩
      · obtain ⟨v,c1,c2⟩:=hcell (i*sz+j) (ja hi' hj)
        rw [qz hj] at c2
        subst c2
        refine ⟨_,?_,(hone j hj).1,?_⟩
        · show (w.alloc _).cell? ⟨w.heap.size,0+i*sz+j,none⟩=_
          rw [Nat.zero_add,gP]; exact c1
        · rw [uG hi']; exact (hone j hj).2 G'
      · obtain ⟨v,c1,_⟩:=hcell q hq
        exact ⟨v,by rw [gP]; exact c1,jv q⟩)
    refine ⟨.slice (some ⟨w.heap.size,0,none⟩) m m,_,G',?_,RV.osl _ 0 m sz m hρ (by simp) (Nat.le_refl _) (.inl (by simp)),h6,h7⟩
    simp only [execOp,ho,dE (hR.ev_of hx),dE (hR.ev_of hy),Sem.run_bind,hrun,Result.andThen_ok,Sem.run_pure]
end
end Go.Abs
namespace Go.Abs
structure fc (P:Program)(k:TypeId){K:Type}(val:K→Value)(enc:K→D):Prop where
  rd:∀ (I:Nat→Nat→Option Value) (a:K),RD I (val a) (enc a)
  un:∀ (I:Nat→Nat→Option Value) (a:K) (v:Value),RD I v (enc a)→v=val a
  inj:∀ a b:K,val a=val b→a=b
  check:∀ (w:World) (em:Bool) (a:K),(Instr.checkKey em 10000 k (val a)).run P w = .ok () w
  find:∀ (w:World) (a:K) (es:List MapEntry),(∀ e∈es,∃ b,e.key=val b)→
    ((Instr.findKey k (val a) es).run P w = .ok none w∧∀ e∈es,e.key≠val a)∨∃ j e,(Instr.findKey k (val a) es).run P w = .ok (some (j,e.val)) w∧es[j]? = some e∧e.key=val a
  stays:∀ (w:World) (a:K),(Instr.keyThatStays (val a) (val a)).run P w = .ok (val a) w
noncomputable def bu {K V:Type}[DecidableEq K]:List (K×V)→K→Option V
  | [],_=>none
  | (k,v)::r,a=>if k=a then some v else bu r a
noncomputable def aP {K V:Type}[DecidableEq K]:List (K×V)→K→V→List (K×V)
  | [],a,x=>[(a,x)]
  | (k,v)::r,a,x=>if k=a then (k,x)::r else (k,v)::aP r a x
noncomputable def aI {K V:Type}(ek:K→D)(ev:V→D)(xs:List (K×V)):List (D×D):=xs.map fun p=>(ek p.1,ev p.2)
section
variable {K V:Type}[DecidableEq K]
theorem ne:∀ {xs:List (K×V)} {a:K},(∀ (i:Nat) (p:K×V),xs[i]? = some p→p.1≠a)→bu xs a=none
  | [],a,_=>rfl
  | (k,v)::r,a,h=>by
    have:=h 0 (k,v) rfl
    simp only at this
    rw [bu,if_neg this]
    exact ne fun i p hp=>h (i+1) p (by simpa using hp)
theorem nf:∀ {xs:List (K×V)} {a:K} {j:Nat} {p:K×V},xs[j]? = some p→p.1=a→(∀ (i:Nat) (q:K×V),xs[i]? = some q→q.1=a→i=j)→bu xs a=some p.2
  | [],a,j,p,h,_,_=>by simp at h
  | (k,v)::r,a,0,p,h,hp,_=>by
    simp at h
    subst h
    simp only at hp
    rw [bu,if_pos hp]
  | (k,v)::r,a,j+1,p,h,hp,hu=>by
    have hk:k≠a:=fun e=>by have:=hu 0 (k,v) rfl e; omega
    rw [bu,if_neg hk]
    exact nf (by simpa using h) hp fun i q hq hqa=>by have:=hu (i+1) q (by simpa using hq) hqa; omega
theorem rh:∀ {xs:List (K×V)} {a:K} {x:V},(∀ (i:Nat) (p:K×V),xs[i]? = some p→p.1≠a)→aP xs a x=xs++[(a,x)]
  | [],a,x,_=>rfl
  | (k,v)::r,a,x,h=>by
    have:=h 0 (k,v) rfl
    simp only at this
    rw [aP,if_neg this,rh fun i p hp=>h (i+1) p (by simpa using hp)]
    rfl
theorem ri:∀ {xs:List (K×V)} {a:K} {x:V} {j:Nat} {p:K×V},xs[j]? = some p→p.1=a→(∀ (i:Nat) (q:K×V),xs[i]? = some q→q.1=a→i=j)→aP xs a x=xs.set j (a,x)
  | [],a,x,j,p,h,_,_=>by simp at h
  | (k,v)::r,a,x,0,p,h,hp,_=>by
    simp at h
    subst h
    simp only at hp
    rw [aP,if_pos hp,hp]
    rfl
  | (k,v)::r,a,x,j+1,p,h,hp,hu=>by
    have hk:k≠a:=fun e=>by have:=hu 0 (k,v) rfl e; omega
    rw [aP,if_neg hk,ri (x:=x) (by simpa using h) hp fun i q hq hqa=>by have:=hu (i+1) q (by simpa using hq) hqa; omega]
    rfl
end
noncomputable def gU (P:Program)(t:TypeId):Option (TypeId×TypeId):=match P.underlying t with | some (.map k e)=>some (k,e) | _=>none
theorem lT {P:Program}{t k e:TypeId}(h:gU P t=some (k,e)):P.underlying t=some (.map k e):=by
  unfold gU at h
  split at h
  · rename_i hh; cases h; exact hh
  · cases h
section
variable {P:Program}{o:Oper}{ts:List (Nat×AV)}{h:List ak}
theorem ae.makeMap {t:TypeId}(ho:o.op = .makeMap t none):ae P o ts h (.mp h.length) (h++[.live (.mp [])]):=
  ae.value fun G a w hi hR=>by
    obtain ⟨G',hG,hρ,h6,h7⟩:=hi.push (.map #[] 0) (.mp []) 0 (fun G' hG=>⟨#[],0,by simp [fu],rfl,fun i hi=>by simp at hi,fun i j hi=>by simp at hi⟩)
    refine ⟨.map (some w.heap.size),w.alloc (.map #[] 0),G',?_,.mp hρ,h6,h7⟩
    simp [execOp,ho,Instr.makeMap]
theorem sZ {G:Gh}{v:Value}{id:Nat}(h:RV G v (.mp id)):∃ b o e,G.ρ id=some (b,o,e)∧v = .map (some b):=by
  cases h with
  | mp h=>exact ⟨_,_,_,h,rfl⟩
variable {K V:Type}[DecidableEq K]{ek:K→D}{ev:V→D}{val:K→Value}
theorem gW {xs:List (K×V)}{i:Nat}{p:K×V}(h:xs[i]? = some p):(aI ek ev xs).getD i default=(ek p.1,ev p.2):=by
  simp [aI,List.getD_eq_getElem?_getD,h]
theorem oS {k:TypeId}(M:fc P k val ek){I:Nat→Nat→Option Value}{w:World}{ents:Array MapEntry}{xs:List (K×V)}(hsz:ents.size=xs.length)
    (hr:∀ i,i < xs.length→RD I (ents.getD i default).key ((aI ek ev xs).getD i default).1∧RD I (ents.getD i default).val ((aI ek ev xs).getD i default).2)
    (hu:∀ i j,i < xs.length→j < xs.length→(ents.getD i default).key=(ents.getD j default).key→i=j) (a:K) :
    ((Instr.findKey k (val a) ents.toList).run P w = .ok none w∧(∀ (i:Nat) (p:K×V),xs[i]? = some p→p.1≠a))∨
    ∃ j p,(Instr.findKey k (val a) ents.toList).run P w = .ok (some (j,(ents.getD j default).val)) w∧xs[j]? = some p∧p.1=a∧(∀ (i:Nat) (q:K×V),xs[i]? = some q→q.1=a→i=j):=by
  have hkey:∀ (i:Nat) (p:K×V),xs[i]? = some p→(ents.getD i default).key=val p.1:=fun i p hp=>by
    have:=(hr i (List.getElem?_eq_some_iff.1 hp).1).1
    rw [gW hp] at this
    exact M.un _ _ _ this
  have hent:∀ i,i < xs.length→ents.toList[i]? = some (ents.getD i default):=fun i hi=>by
    have:i < ents.size:=by omega
    simp [Array.getD_eq_getD_getElem?,this]
  have hall:∀ e∈ents.toList,∃ b,e.key=val b:=fun e he=>by
    obtain ⟨i,hi⟩:=List.mem_iff_getElem?.1 he
    have hlt:i < xs.length:=by have:=(List.getElem?_eq_some_iff.1 hi).1; simp at this; omega
    obtain ⟨p,hp⟩:∃ p,xs[i]? = some p:=⟨_,List.getElem?_eq_getElem hlt⟩
    rw [hent i hlt] at hi
    cases hi
    exact ⟨_,hkey i p hp⟩
  rcases M.find w a ents.toList hall with ⟨h1,h2⟩ | ⟨j,e,h1,h2,h3⟩
  · refine .inl ⟨h1,fun i p hp hpa=>?_⟩
    have hlt:=(List.getElem?_eq_some_iff.1 hp).1
    refine h2 _ (List.mem_of_getElem? (hent i hlt)) ?_
    rw [hkey i p hp,hpa]
  · have hlt:j < xs.length:=by have:=(List.getElem?_eq_some_iff.1 h2).1; simp at this; omega
    obtain ⟨p,hp⟩:∃ p,xs[j]? = some p:=⟨_,List.getElem?_eq_getElem hlt⟩
    rw [hent j hlt] at h2
    cases h2
    have hpa:p.1=a:=M.inj _ _ (by rw [← hkey j p hp,h3])
    refine .inr ⟨j,p,h1,hp,hpa,fun i q hq hqa=>?_⟩
    refine hu i j (List.getElem?_eq_some_iff.1 hq).1 hlt ?_
    rw [hkey i q hq,hkey j p hp,hqa,hpa]
theorem sY {G:Gh}{w:World}(hi:Inv G h w){id b o e:Nat}{es:List (D×D)}(hh:h[id]? = some (.live (.mp es)))(hρ:G.ρ id=some (b,o,e)):bH G w (b,o,e) (.mp es):=by
  obtain ⟨p,h1,h2⟩:=hi.obj id _ hh
  rw [hρ] at h1; cases h1
  exact h2
theorem p8 {t k e:TypeId}(M:fc P k val ek)(ht:gU P t=some (k,e)){w:World}{b:Nat}{ents:Array MapEntry}{clock:Nat}(hb:w.heap[b]? = some (.map ents clock)){z:Value}(hz:(zeroValue e).run P w = .ok z w)(a:K)(ok:Bool) :
    (∀ j x,(Instr.findKey k (val a) ents.toList).run P w = .ok (some (j,x)) w→(Instr.lookup t (.map (some b)) (val a) ok).run P w = .ok (if ok then .tuple #[x,.bool true] else x) w)∧
    ((Instr.findKey k (val a) ents.toList).run P w = .ok none w→(Instr.lookup t (.map (some b)) (val a) ok).run P w = .ok (if ok then .tuple #[z,.bool false] else z) w):=by
  refine ⟨fun j x hx=>?_,fun hx=>?_⟩
  · cases ok <;> simp [Instr.lookup,run_underlying (lT ht),MapKept.run_getObj_map hb,M.check,hx,Result.andThen]
  · cases ok <;> simp [Instr.lookup,run_underlying (lT ht),MapKept.run_getObj_map hb,M.check,hx,hz,Result.andThen]
noncomputable def kE (P:Program)(t:TypeId):Option D:=match P.info? t with
  | some i=>match i.zero with
    | some (.int k n)=>some (.int k n)
    | some (.bool b)=>some (.bool b)
    | some (.string s)=>some (.str s)
    | _=>none
  | none=>none
theorem rE {t:TypeId}{d:D}{w:World}(h:kE P t=some d):∃ z,(zeroValue t).run P w = .ok z w∧∀ I,RD I z d:=by
  unfold kE at h
  cases hi:P.info? t with
  | none=>rw [hi] at h; cases h
  | some i=>
    rw [hi] at h
    simp only at h
    split at h <;> first | (cases h; done) | skip
    all_goals
      cases h
      rename_i hz
      refine ⟨_,by simp only [zeroValue,typeInfo,Sem.run_bind,run_program,Result.andThen_ok,hi,hz,Sem.run_pure]; rfl,fun I=>?_⟩
      constructor
theorem ae.lookupT {t k e:TypeId}(M:fc P k val ek)(xs:List (K×V))(a:K)(zv:V){x y:Operand}{id:Nat}(ho:o.op = .lookup t x y false)(hx:ax ts x = .mp id)(hh:h[id]? = some (.live (.mp (aI ek ev xs))))(hy:ax ts y = .d (ek a))(ht:gU P t=some (k,e))(hz:kE P e=some (ev zv)) :
    ae P o ts h (.d (ev ((bu xs a).getD zv))) h:=
  ae.same fun G ac w hi hR=>by
    obtain ⟨b,o',e',hρ,hv⟩:=sZ (hR.ev_of hx)
    obtain ⟨ents,clock,h1,h2,h3,h4⟩:=sY hi hh hρ
    have hk:=M.un _ _ _ (gu (hR.ev_of hy))
    obtain ⟨z,hz1,hz2⟩:=rE (w:=w) hz
    have hl:(aI ek ev xs).length=xs.length:=by simp [aI]
    rw [hl] at h2 h3 h4
    obtain ⟨q1,q2⟩:=p8 M ht h1 hz1 a false
    rcases oS (w:=w) M h2 h3 h4 a with ⟨f1,f2⟩ | ⟨j,p,f1,f2,f3,f4⟩
    · refine ⟨z,by simp [execOp,ho,hv,hk,q2 f1],?_⟩
      rw [ne f2]; exact .d (hz2 _)
    · refine ⟨(ents.getD j default).val,by simp [execOp,ho,hv,hk,q1 _ _ f1],?_⟩
      rw [nf f2 f3 f4]
      have:=(h3 j (List.getElem?_eq_some_iff.1 f2).1).2
      rw [gW f2] at this
      exact .d this
theorem ae.lookupOkT {t k e:TypeId}(M:fc P k val ek)(xs:List (K×V))(a:K)(zv:V){x y:Operand}{id:Nat}(ho:o.op = .lookup t x y true)(hx:ax ts x = .mp id)(hh:h[id]? = some (.live (.mp (aI ek ev xs))))(hy:ax ts y = .d (ek a))(ht:gU P t=some (k,e))(hz:kE P e=some (ev zv)) :
    ae P o ts h (.tup [.d (ev ((bu xs a).getD zv)),.d (.bool (bu xs a).isSome)]) h:=
  ae.same fun G ac w hi hR=>by
    obtain ⟨b,o',e',hρ,hv⟩:=sZ (hR.ev_of hx)
    obtain ⟨ents,clock,h1,h2,h3,h4⟩:=sY hi hh hρ
    have hk:=M.un _ _ _ (gu (hR.ev_of hy))
    obtain ⟨z,hz1,hz2⟩:=rE (w:=w) hz
    have hl:(aI ek ev xs).length=xs.length:=by simp [aI]
    rw [hl] at h2 h3 h4
    obtain ⟨q1,q2⟩:=p8 M ht h1 hz1 a true
    have two:∀ (u v:Value) (x y:AV),RV G u x→RV G v y→RV G (.tuple #[u,v]) (.tup [x,y]):=fun u v x y hu hv=>by
      refine .tup _ _ rfl fun i hi=>?_
      match i,hi with
      | 0,_=>exact hu
      | 1,_=>exact hv
    rcases oS (w:=w) M h2 h3 h4 a with ⟨f1,f2⟩ | ⟨j,p,f1,f2,f3,f4⟩
    · refine ⟨.tuple #[z,.bool false],by simp [execOp,ho,hv,hk,q2 f1],?_⟩
      rw [ne f2]; exact two _ _ _ _ (.d (hz2 _)) (.d (.bool _))
    · refine ⟨.tuple #[(ents.getD j default).val,.bool true],by simp [execOp,ho,hv,hk,q1 _ _ f1],?_⟩
      rw [nf f2 f3 f4]
      have:=(h3 j (List.getElem?_eq_some_iff.1 f2).1).2
      rw [gW f2] at this
      exact two _ _ _ _ (.d this) (.d (.bool _))
end
end Go.Abs
namespace Go.Abs
theorem bd.setBlock {w:World}{b:Nat}{o:Obj}:bd (fun b' _=>b'=b) w { w with heap:=w.heap.setIfInBounds b o }:=by
  have hne:∀ b',b'≠b→(w.heap.setIfInBounds b o)[b']? = w.heap[b']?:=fun b' h=>by simp [Array.getElem?_setIfInBounds,Ne.symm h]
  refine ⟨by simp,fun b' hb hk=>?_,fun b' k v hn h=>?_,fun b' k v hn h=>?_,rfl,rfl,rfl⟩
  · exact hne b' (fun e=>hk 0 e)
  · unfold World.cell? at *
    show (match (w.heap.setIfInBounds b o)[b']? with | some (.cells cs _ _)=>_ | _=>_)=_
    rw [hne b' hn]; exact h
  · unfold World.frozen?
    simp only [hne b' hn]
section
variable {P:Program}{o:Oper}{ts:List (Nat×AV)}{h:List ak}
variable {K V:Type}[DecidableEq K]{ek:K→D}{ev:V→D}{val:K→Value}
theorem vB {t k e:TypeId}(M:fc P k val ek)(ht:gU P t=some (k,e)){w:World}{b:Nat}{ents:Array MapEntry}{clock:Nat}(hb:w.heap[b]? = some (.map ents clock))(a:K)(x:Value) :
    ((Instr.findKey k (val a) ents.toList).run P w = .ok none w→(Instr.mapUpdate t (.map (some b)) (val a) x).run P w = .ok () { w with heap:=w.heap.setIfInBounds b (.map (ents.push ⟨val a,x,clock⟩) (clock+1)) })∧
    (∀ j y e0,(Instr.findKey k (val a) ents.toList).run P w = .ok (some (j,y)) w→ents[j]? = some e0→e0.key=val a→
      (Instr.mapUpdate t (.map (some b)) (val a) x).run P w = .ok () { w with heap:=w.heap.setIfInBounds b (.map (ents.modify j (fun e'=>{ e' with key:=val a,val:=x })) clock) }):=by
  refine ⟨fun hx=>?_,fun j y e0 hx hj h3=>?_⟩
  · simp [Instr.mapUpdate,run_underlying (lT ht),MapKept.run_getObj_map hb,M.check,hx,MapKept.run_setObj_map _ hb,Result.andThen]
  · simp [Instr.mapUpdate,run_underlying (lT ht),MapKept.run_getObj_map hb,M.check,hx,hj,h3,M.stays,MapKept.run_setObj_map _ hb,Result.andThen]
theorem ae.updT {t k e:TypeId}(M:fc P k val ek)(xs:List (K×V))(a:K)(b:V){x y z:Operand}{id:Nat}(ho:o.op = .mapUpdate t x y z∨o.op = .insert t x y z)(hx:ax ts x = .mp id)(hh:h[id]? = some (.live (.mp (aI ek ev xs))))(hy:ax ts y = .d (ek a))(hz:ax ts z = .d (ev b))(ht:gU P t=some (k,e)) :
    ae P o ts h .bad (h.set id (.live (.mp (aI ek ev (aP xs a b))))):=
  ae.skip fun G ac w hi hR=>by
    obtain ⟨bl,o',e',hρ,hv⟩:=sZ (hR.ev_of hx)
    obtain ⟨ents,clock,h1,h2,h3,h4⟩:=sY hi hh hρ
    simp only at h1
    have hk:=M.un _ _ _ (gu (hR.ev_of hy))
    have hval:=gu (hR.ev_of hz)
    have hl:∀ ys:List (K×V),(aI ek ev ys).length=ys.length:=fun ys=>by simp [aI]
    rw [hl] at h2 h3 h4
    have hlt:bl < w.heap.size:=(Array.getElem?_eq_some_iff.1 h1).1
    obtain ⟨q1,q2⟩:=vB M ht h1 a (ac.eval z)
    have hrun:∀ w',(Instr.mapUpdate t (.map (some bl)) (val a) (ac.eval z)).run P w = .ok () w'→(execOp ac.eval o).run P w = .ok .skip w':=fun w' hw=>by
      rcases ho with ho | ho <;> simp [execOp,ho,hv,hk,hw]
    have hkey:∀ (i:Nat) (p:K×V),xs[i]? = some p→(ents.getD i default).key=val p.1:=fun i p hp=>by
      have:=(h3 i (List.getElem?_eq_some_iff.1 hp).1).1
      rw [gW hp] at this
      exact M.un _ _ _ this
    rcases oS (w:=w) M h2 h3 h4 a with ⟨f1,f2⟩ | ⟨j,p,f1,f2,f3,f4⟩
    · have hnew:bH G { w with heap:=w.heap.setIfInBounds bl (.map (ents.push ⟨val a,ac.eval z,clock⟩) (clock+1)) } (bl,o',e') (.mp (aI ek ev (aP xs a b))):=by
        have hold:∀ i,i < xs.length→(ents.push ⟨val a,ac.eval z,clock⟩).getD i default=ents.getD i default:=fun i hi'=>by
          simp [Array.getD_eq_getD_getElem?,Array.getElem?_push,show i≠ents.size by omega]
        have hnw:(ents.push ⟨val a,ac.eval z,clock⟩).getD xs.length default=⟨val a,ac.eval z,clock⟩:=by
          rw [← h2]; simp [Array.getD_eq_getD_getElem?]
        rw [rh f2]
        have hrow:aI ek ev (xs++[(a,b)])=aI ek ev xs++[(ek a,ev b)]:=by simp [aI]
        refine ⟨ents.push ⟨val a,ac.eval z,clock⟩,clock+1,by simp [hlt],by rw [hl]; simp [h2],fun i hi'=>?_,fun i i' hi1 hi2 hkk=>?_⟩
        · rw [hl,List.length_append] at hi'
          simp at hi'
          rcases Nat.lt_or_ge i xs.length with c | c
          · rw [hold i c,hrow,List.getD_eq_getElem?_getD,List.getElem?_append_left (by rw [hl]; exact c),← List.getD_eq_getElem?_getD]
            exact h3 i c
          · obtain rfl:i=xs.length:=by omega
            rw [hnw,hrow,List.getD_eq_getElem?_getD,List.getElem?_append_right (by rw [hl]; exact Nat.le_refl _),hl,Nat.sub_self]
            exact ⟨M.rd _ _,hval⟩
        · rw [hl,List.length_append] at hi1 hi2
          simp at hi1 hi2
          have hdiff:∀ i,i < xs.length→(ents.getD i default).key≠val a:=fun i hi' e=>by
            obtain ⟨p,hp⟩:∃ p,xs[i]? = some p:=⟨_,List.getElem?_eq_getElem hi'⟩
            rw [hkey i p hp] at e
            exact f2 i p hp (M.inj _ _ e)
          rcases Nat.lt_or_ge i xs.length with c | c
          · rcases Nat.lt_or_ge i' xs.length with c' | c'
            · rw [hold i c,hold i' c'] at hkk
              exact h4 i i' c c' hkk
            · obtain rfl:i'=xs.length:=by omega
              rw [hold i c,hnw] at hkk
              exact absurd hkk (hdiff i c)
          · obtain rfl:i=xs.length:=by omega
            rcases Nat.lt_or_ge i' xs.length with c' | c'
            · rw [hold i' c',hnw] at hkk
              exact absurd hkk.symm (hdiff i' c')
            · omega
      obtain ⟨i2,e2⟩:=hi.change (ob':=.mp (aI ek ev (aP xs a b))) hh hρ (fun _ _ x=>x) (bd.setBlock.imp fun b' k' x=>x) hnew
      exact ⟨_,G,hrun _ (q1 f1),i2,e2⟩
    · have hjl:=(List.getElem?_eq_some_iff.1 f2).1
      have hje:ents[j]? = some (ents.getD j default):=by
        have:j < ents.size:=by omega
        simp [Array.getD_eq_getD_getElem?,this]
      have hkj:(ents.getD j default).key=val a:=by rw [hkey j p f2,f3]
      have hnew:bH G { w with heap:=w.heap.setIfInBounds bl (.map (ents.modify j (fun e'=>{ e' with key:=val a,val:=ac.eval z })) clock) } (bl,o',e') (.mp (aI ek ev (aP xs a b))):=by
        have hgk:∀ i,i < xs.length→((ents.modify j (fun e'=>{ e' with key:=val a,val:=ac.eval z })).getD i default).key=(ents.getD i default).key:=fun i hi'=>by
          have hi2:i < ents.size:=by omega
          simp only [Array.getD_eq_getD_getElem?,Array.getElem?_modify]
          by_cases c:j=i
          · subst c
            rw [if_pos rfl,hje]
            simp only [Option.map_some,Option.getD_some]
            exact hkj.symm
          · rw [if_neg c]
        have hgv:∀ i,i < xs.length→((ents.modify j (fun e'=>{ e' with key:=val a,val:=ac.eval z })).getD i default).val=if j=i then ac.eval z else (ents.getD i default).val:=fun i hi'=>by
          have hi2:i < ents.size:=by omega
          simp only [Array.getD_eq_getD_getElem?,Array.getElem?_modify]
          by_cases c:j=i
          · subst c
            rw [if_pos rfl,if_pos rfl,hje]
            rfl
          · rw [if_neg c,if_neg c]
        rw [ri f2 f3 f4]
        refine ⟨ents.modify j (fun e'=>{ e' with key:=val a,val:=ac.eval z }),clock,by simp [hlt],by rw [hl]; simp [h2],fun i hi'=>?_,fun i i' hi1 hi2 hkk=>?_⟩
        · rw [hl,List.length_set] at hi'
          rw [hgk i hi',hgv i hi']
          by_cases c:j=i
          · subst c
            rw [if_pos rfl,gW (p:=(a,b)) (by rw [List.getElem?_set_self hjl]),hkj]
            exact ⟨M.rd _ _,hval⟩
          · have:(xs.set j (a,b))[i]? = some (xs[i]):=by rw [List.getElem?_set_ne c]; exact List.getElem?_eq_getElem hi'
            rw [if_neg c,gW this]
            have h5:=h3 i hi'
            rw [gW (List.getElem?_eq_getElem hi')] at h5
            exact h5
        · rw [hl,List.length_set] at hi1 hi2
          rw [hgk i hi1,hgk i' hi2] at hkk
          exact h4 i i' hi1 hi2 hkk
      obtain ⟨i2,e2⟩:=hi.change (ob':=.mp (aI ek ev (aP xs a b))) hh hρ (fun _ _ x=>x) (bd.setBlock.imp fun b' k' x=>x) hnew
      exact ⟨_,G,hrun _ (q2 j _ _ f1 hje hkj),i2,e2⟩
end
theorem oU {P:Program}{k:TypeId}{kd:IntKind}(hk:im P k=some kd):fc P k (fun n:Int=>.int kd n) (fun n=>.int kd n):=by
  have hu:P.underlying k=some (.int kd):=by
    unfold im at hk
    split at hk
    · rename_i h; cases hk; exact h
    · cases hk
  refine ⟨fun I a=>.int _ _,fun I a v h=>by cases h; rfl,fun a b h=>by cases h; rfl,fun w em a=>MapKept.run_checkKey hu (by trivial) em 9999,fun w a es hall=>?_,fun w a=>by simp [Instr.keyThatStays,Instr.sameBits]⟩
  have key:∀ (es:List MapEntry) (i:Nat),(∀ e∈es,∃ b:Int,e.key = .int kd b)→(Instr.findNow (.int kd) (.int kd a) es i=some none∧∀ e∈es,e.key≠.int kd a)∨∃ j e,Instr.findNow (.int kd) (.int kd a) es i=some (some (i+j,e.val))∧es[j]? = some e∧e.key = .int kd a:=by
    intro es
    induction es with
    | nil=>intro i _; exact .inl ⟨rfl,by simp⟩
    | cons e es ih=>
      intro i hall
      obtain ⟨b,hb⟩:=hall e (List.mem_cons_self ..)
      by_cases c:a=b
      · subst c
        exact .inr ⟨0,e,by simp [Instr.findNow,Instr.sameNow,hb],rfl,hb⟩
      · rcases ih (i+1) (fun x hx=>hall x (List.mem_cons_of_mem _ hx)) with ⟨g1,g2⟩ | ⟨j,e',g1,g2,g3⟩
        · have cb:(a == b)=false:=by simpa using c
          refine .inl ⟨by simp [Instr.findNow,Instr.sameNow,hb,cb,g1],fun x hx=>?_⟩
          rcases List.mem_cons.1 hx with rfl | hx
          · rw [hb]; intro h; cases h; exact c rfl
          · exact g2 x hx
        · have cb:(a == b)=false:=by simpa using c
          exact .inr ⟨j+1,e',by simp [Instr.findNow,Instr.sameNow,hb,cb,g1]; omega,by simpa using g2,g3⟩
  rcases key es 0 hall with ⟨g1,g2⟩ | ⟨j,e,g1,g2,g3⟩
  · exact .inl ⟨MapKept.run_findKey hu g1,g2⟩
  · exact .inr ⟨j,e,MapKept.run_findKey hu (by simpa using g1),g2,g3⟩
theorem u0 (a b:ByteArray):(a == b)=decide (a=b):=by rw [beq_toListBytes,lK]
theorem oV {P:Program}{k:TypeId}(hu:P.underlying k=some .string):fc P k (fun n:ByteArray=>.string n) (fun n=>.str n):=by
  refine ⟨fun I a=>.str _,fun I a v h=>by cases h; rfl,fun a b h=>by cases h; rfl,fun w em a=>MapKept.run_checkKey hu (by trivial) em 9999,fun w a es hall=>?_,fun w a=>by simp [Instr.keyThatStays,Instr.sameBits,u0]⟩
  have key:∀ (es:List MapEntry) (i:Nat),(∀ e∈es,∃ b:ByteArray,e.key = .string b)→(Instr.findNow .string (.string a) es i=some none∧∀ e∈es,e.key≠.string a)∨∃ j e,Instr.findNow .string (.string a) es i=some (some (i+j,e.val))∧es[j]? = some e∧e.key = .string a:=by
    intro es
    induction es with
    | nil=>intro i _; exact .inl ⟨rfl,by simp⟩
    | cons e es ih=>
      intro i hall
      obtain ⟨b,hb⟩:=hall e (List.mem_cons_self ..)
      by_cases c:a=b
      · subst c
        exact .inr ⟨0,e,by simp [Instr.findNow,Instr.sameNow,hb,u0],rfl,hb⟩
      · rcases ih (i+1) (fun x hx=>hall x (List.mem_cons_of_mem _ hx)) with ⟨g1,g2⟩ | ⟨j,e',g1,g2,g3⟩
        · have cb:(a == b)=false:=by rw [u0]; simpa using c
          refine .inl ⟨by simp [Instr.findNow,Instr.sameNow,hb,cb,g1],fun x hx=>?_⟩
          rcases List.mem_cons.1 hx with rfl | hx
          · rw [hb]; intro h; cases h; exact c rfl
          · exact g2 x hx
        · have cb:(a == b)=false:=by rw [u0]; simpa using c
          exact .inr ⟨j+1,e',by simp [Instr.findNow,Instr.sameNow,hb,cb,g1]; omega,by simpa using g2,g3⟩
  rcases key es 0 hall with ⟨g1,g2⟩ | ⟨j,e,g1,g2,g3⟩
  · exact .inl ⟨MapKept.run_findKey hu g1,g2⟩
  · exact .inr ⟨j,e,MapKept.run_findKey hu (by simpa using g1),g2,g3⟩
end Go.Abs
namespace Go.Abs
theorem Inv.tail {G:Gh}{h:List ak}{w:World}(hi:Inv G h w)(l:List ak)(hl:∀ s∈l,s = .resv∨s = .freed):Inv G (h++l) w:=by
  have hsplit:∀ (i:Nat) (s:ak),(h++l)[i]? = some s→h[i]? = some s∨(h.length≤i∧s∈l):=by
    intro i s hx
    rcases Nat.lt_or_ge i h.length with c | c
    · rw [List.getElem?_append_left c] at hx; exact .inl hx
    · rw [List.getElem?_append_right c] at hx; exact .inr ⟨c,List.mem_of_getElem? hx⟩
  have hlive:∀ (i:Nat) (ob:aQ),(h++l)[i]? = some (.live ob)→h[i]? = some (.live ob):=by
    intro i ob hx
    rcases hsplit i _ hx with c | ⟨_,c⟩
    · exact c
    · rcases hl _ c with e | e <;> cases e
  refine ⟨hi.imm,fun i ob hx=>hi.obj i ob (hlive i ob hx),fun i hl'=>hi.fresh i (by simp at hl'; omega),fun i hx=>?_,fun i1 o1 p1 i2 o2 p2 hne h1 h2 h3 h4=>hi.disj i1 o1 p1 i2 o2 p2 hne (hlive _ _ h1) h2 (hlive _ _ h3) h4,fun i ob p h1 h2=>hi.free i ob p (hlive _ _ h1) h2⟩
  rcases hsplit i _ hx with c | ⟨c,_⟩
  · exact hi.resv i c
  · exact hi.fresh i c
theorem GStep.resv {m:Nat}{s:St}(k:Nat):GStep m s ⟨s.ts,s.h++List.replicate k .resv⟩:=by
  intro G a w hi hr
  have hlive:∀ (i:Nat) (ob:aQ),(s.h++List.replicate k ak.resv)[i]? = some (.live ob)→s.h[i]? = some (.live ob):=by
    intro i ob hx
    rcases Nat.lt_or_ge i s.h.length with c | c
    · rw [List.getElem?_append_left c] at hx; exact hx
    · rw [List.getElem?_append_right c] at hx
      have:=List.mem_of_getElem? hx
      simp at this
  refine ⟨G,hi.tail _ (fun x hx=>.inl (by simp at hx; exact hx.2)),hr,⟨bd.refl _ _,fun _ _ _ x=>x,fun _ _ _ x=>.inl x,?_,fun _ _ _ x=>x⟩⟩
  rintro b j ⟨i,ob,p,h1,h2,h3⟩
  exact .inl ⟨i,ob,p,hlive i ob h1,h2,h3⟩
theorem xH {l:List Nat}(hnd:l.Nodup){i j x:Nat}(h1:l[i]? = some x)(h2:l[j]? = some x):i=j:=by
  obtain ⟨l1,e1⟩:=List.getElem?_eq_some_iff.1 h1
  obtain ⟨l2,e2⟩:=List.getElem?_eq_some_iff.1 h2
  have hp:=List.pairwise_iff_getElem.1 hnd
  rcases Nat.lt_trichotomy i j with c | c | c
  · exact absurd (e1.trans e2.symm) (hp i j l1 l2 c)
  · exact c
  · exact absurd (e2.trans e1.symm) (hp j i l2 l1 c)
noncomputable def eu (L:Nat)(rs:List Nat)(i:Nat):Option Nat:=bif Nat.blt i L then some i else rs[i - L]?
noncomputable def jW (L:Nat)(rs:List Nat)(h':List ak):List ak:=d8 ((h'.take L).map (ak.tr (eu L rs))) rs ((h'.drop L).map (ak.tr (eu L rs)))
theorem kV (L rs h'):(jW L rs h').length=min L h'.length:=by
  simp [jW,dm]
theorem ae.put {P:Program}{o:Oper}{ts:List (Nat×AV)}{h h':List ak}{v:AV}(rs:List Nat)(H:ae P o ts h v h')(hnd:rs.Nodup)(hr:rs.all (fun r=>match h[r]? with | some .resv=>true | _=>false)=true)
    (hr':rs.all (fun r=>match h'[r]? with | some .resv=>true | _=>false)=true) (hlen:Nat.beq h'.length (h.length+rs.length)=true):ae P o ts h (v.tr (eu h.length rs)) (jW h.length rs h'):=by
  intro G a w hi hR next Q hn
  refine H G a w hi hR next Q fun val w' G' r1 r2 r3=>?_
  have hl:=Nat.eq_of_beq_eq_true hlen
  have hrs:∀ r∈rs,h[r]? = some .resv:=fun r hm=>by
    have:=List.all_eq_true.1 hr r hm
    split at this
    · assumption
    · cases this
  have hrs':∀ r∈rs,h'[r]? = some .resv:=fun r hm=>by
    have:=List.all_eq_true.1 hr' r hm
    split at this
    · assumption
    · cases this
  have hrlt:∀ r∈rs,r < h.length:=fun r hm=>(List.getElem?_eq_some_iff.1 (hrs r hm)).1
  let inv:Nat→Option Nat:=fun i=>(List.range rs.length).find? fun j=>rs[j]? == some i
  have hinv1:∀ j r,rs[j]? = some r→inv r=some j:=fun j r hj=>by
    have hjl:=(List.getElem?_eq_some_iff.1 hj).1
    cases hx:inv r with
    | none=>
      have:=List.find?_eq_none.1 hx j (by simpa using hjl)
      simp [hj] at this
    | some j'=>
      have h1:=List.find?_some hx
      simp at h1
      have hjl':=(List.getElem?_eq_some_iff.1 h1).1
      rw [xH hnd h1 hj]
  have hinv2:∀ i j,inv i=some j→rs[j]? = some i:=fun i j hx=>by
    have:=List.find?_some hx
    simpa using this
  let G2:Gh:=⟨G'.I,fun i=>match inv i with | some j=>G'.ρ (h.length+j) | none=>if i < h.length then G'.ρ i else none,G'.tab⟩
  have hnone:∀ i,i∉rs→inv i=none:=fun i hm=>by
    cases hx:inv i with
    | none=>rfl
    | some j=>exact absurd (List.mem_of_getElem? (hinv2 i j hx)) hm
  have hρ:∀ j id p,eu h.length rs j=some id→G'.ρ j=some p→G2.ρ id=some p:=fun j id p hj hp=>by
    unfold eu at hj
    cases hb:Nat.blt j h.length with
    | true=>
      rw [hb] at hj
      simp at hj
      subst hj
      have hlt:j < h.length:=by simpa using hb
      have hm:j∉rs:=fun hm=>by rw [r2.resv j (hrs' j hm)] at hp; cases hp
      show (match inv j with | some j=>_ | none=>_)=_
      rw [hnone j hm]
      simp [hlt,hp]
    | false=>
      rw [hb] at hj
      simp at hj
      show (match inv id with | some j=>_ | none=>_)=_
      rw [hinv1 _ _ hj]
      have:h.length≤j:=by
        have:=Nat.not_lt.1 (fun c=>by rw [(by simpa using c:Nat.blt j h.length=true)] at hb; cases hb)
        exact this
      simp only
      rw [show h.length+(j - h.length)=j by omega]
      exact hp
  have hback:∀ id p,G2.ρ id=some p→(∃ j,rs[j]? = some id∧G'.ρ (h.length+j)=some p)∨(id∉rs∧id < h.length∧G'.ρ id=some p):=fun id p hp=>by
    have hp':(match inv id with | some j=>G'.ρ (h.length+j) | none=>if id < h.length then G'.ρ id else none)=some p:=hp
    cases hx:inv id with
    | some j=>rw [hx] at hp'; exact .inl ⟨j,hinv2 _ _ hx,hp'⟩
    | none=>
      rw [hx] at hp'
      simp only at hp'
      split at hp'
      · rename_i hlt
        refine .inr ⟨fun hm=>?_,hlt,hp'⟩
        obtain ⟨j,hj⟩:=List.mem_iff_getElem?.1 hm
        rw [hinv1 _ _ hj] at hx; cases hx
      · cases hp'
  have hcases:∀ (id:Nat) (s:ak),(jW h.length rs h')[id]? = some s→(∃ j s0,rs[j]? = some id∧h'[h.length+j]? = some s0∧s=s0.tr (eu h.length rs))∨(id∉rs∧id < h.length∧∃ s0,h'[id]? = some s0∧s=s0.tr (eu h.length rs)):=by
    intro id s hx
    have hidl:=(List.getElem?_eq_some_iff.1 hx).1
    rw [kV] at hidl
    by_cases hm:id∈rs
    · obtain ⟨j,hj⟩:=List.mem_iff_getElem?.1 hm
      have hjl:=(List.getElem?_eq_some_iff.1 hj).1
      have h1:((h'.drop h.length).map (ak.tr (eu h.length rs)))[j]? = some ((h'[h.length+j]'(by omega)).tr (eu h.length rs)):=by
        rw [List.getElem?_map,List.getElem?_drop,List.getElem?_eq_getElem (by omega)]; rfl
      have h2:=lb rs ((h'.drop h.length).map (ak.tr (eu h.length rs))) ((h'.take h.length).map (ak.tr (eu h.length rs))) j id _ hnd hj h1 (by simp; omega)
      unfold jW at hx
      rw [h2] at hx
      cases hx
      exact .inl ⟨j,_,hj,List.getElem?_eq_getElem _,rfl⟩
    · unfold jW at hx
      rw [fD rs _ _ id hm,List.getElem?_map,List.getElem?_take] at hx
      have hlt:id < h.length:=by omega
      rw [if_pos hlt] at hx
      obtain ⟨s0,a1,a2⟩:=Option.map_eq_some_iff.1 hx
      exact .inr ⟨hm,hlt,s0,a1,a2.symm⟩
  have hlive:∀ (id:Nat) (ob:aQ),(jW h.length rs h')[id]? = some (.live ob)→∃ id0 ob0,h'[id0]? = some (.live ob0)∧ob=ob0.tr (eu h.length rs)∧eu h.length rs id0=some id∧(∀ p,G2.ρ id=some p→G'.ρ id0=some p):=by
    intro id ob hx
    rcases hcases id _ hx with ⟨j,s0,b1,b2,b3⟩ | ⟨b0,b1,s0,b2,b3⟩
    · cases s0 with
      | live ob0=>
        simp only [ak.tr,ak.live.injEq] at b3
        refine ⟨_,ob0,b2,b3,?_,fun p hp=>?_⟩
        · have:Nat.blt (h.length+j) h.length=false:=by
            cases hb:Nat.blt (h.length+j) h.length with
            | false=>rfl
            | true=>
                have:h.length+j < h.length:=by simpa using hb
                omega
          simp [eu,this,b1]
        · rcases hback id p hp with ⟨j',c1,c2⟩ | ⟨c1,_,_⟩
          · have:=hinv1 _ _ b1
            rw [hinv1 _ _ c1] at this
            cases this
            exact c2
          · exact absurd (List.mem_of_getElem? b1) c1
      | freed=>cases b3
      | resv=>cases b3
    · cases s0 with
      | live ob0=>
        simp only [ak.tr,ak.live.injEq] at b3
        refine ⟨id,ob0,b2,b3,?_,fun p hp=>?_⟩
        · have:Nat.blt id h.length=true:=by simpa using b1
          simp [eu,this]
        · rcases hback id p hp with ⟨j',c1,_⟩ | ⟨_,_,c3⟩
          · exact absurd (List.mem_of_getElem? c1) b0
          · exact c3
      | freed=>cases b3
      | resv=>cases b3
  have hinj:∀ i1 i2 id,eu h.length rs i1=some id→eu h.length rs i2=some id→(∃ ob,h'[i1]? = some (.live ob))→(∃ ob,h'[i2]? = some (.live ob))→i1=i2:=by
    intro i1 i2 id e1 e2 l1 l2
    have key:∀ i,eu h.length rs i=some id→(∃ ob,h'[i]? = some (.live ob))→(i < h.length∧i=id∧id∉rs)∨(h.length≤i∧rs[i - h.length]? = some id):=by
      intro i e ⟨ob,l⟩
      unfold eu at e
      cases hb:Nat.blt i h.length with
      | true=>
        rw [hb] at e; simp at e; subst e
        exact .inl ⟨by simpa using hb,rfl,fun hm=>by rw [hrs' i hm] at l; cases l⟩
      | false=>
        rw [hb] at e; simp at e
        refine .inr ⟨Nat.not_lt.1 fun c=>?_,e⟩
        rw [(by simpa using c:Nat.blt i h.length=true)] at hb; cases hb
    rcases key i1 e1 l1 with ⟨a1,a2,a3⟩ | ⟨a1,a2⟩ <;> rcases key i2 e2 l2 with ⟨c1,c2,c3⟩ | ⟨c1,c2⟩
    · omega
    · exact absurd (List.mem_of_getElem? c2) a3
    · exact absurd (List.mem_of_getElem? a2) c3
    · have e3:=hinv1 _ _ a2
      rw [hinv1 _ _ c2] at e3
      have e4:=Option.some.inj e3
      omega
  have hle:G.Le G2:=⟨r3.le.I,fun i p hp=>by
    have hlt:i < h.length:=by
      rcases Nat.lt_or_ge i h.length with c | c
      · exact c
      · rw [hi.fresh i c] at hp; cases hp
    have hm:i∉rs:=fun hm=>by rw [hi.resv i (hrs i hm)] at hp; cases hp
    show (match inv i with | some j=>_ | none=>_)=_
    rw [hnone i hm]
    simp [hlt,r3.le.ρ _ _ hp]⟩
  have hfoot:∀ b k,cN G2 (jW h.length rs h') b k→cN G' h' b k:=by
    rintro b k ⟨id,ob,p,h1,h2,h3⟩
    obtain ⟨id0,ob0,c1,rfl,c3,c4⟩:=hlive id ob h1
    exact ⟨id0,ob0,p,c1,c4 p h2,by rw [← cF]; exact h3⟩
  refine hn val w' G2 (RV.tr_out (G:=G2) (Gc:=G') (fun _ _ _ x=>x) hρ r1) ⟨r2.imm,fun id ob hx=>?_,fun id hid=>?_,fun id hx=>?_,?_,?_⟩ ⟨hle,r3.pres,r3.inew,fun b k x=>r3.fnew b k (hfoot b k x)⟩
  · obtain ⟨id0,ob0,c1,rfl,c3,c4⟩:=hlive id ob hx
    obtain ⟨p,d1,d2⟩:=r2.obj id0 ob0 c1
    exact ⟨p,hρ _ _ _ c3 d1,bH.tr_out (G:=G2) (Gc:=G') rfl hρ d2⟩
  · rw [kV,Nat.min_eq_left (by omega)] at hid
    cases hp:G2.ρ id with
    | none=>rfl
    | some p=>
      rcases hback id p hp with ⟨j',c1,_⟩ | ⟨_,c2,_⟩
      · have:=hrlt id (List.mem_of_getElem? c1); omega
      · omega
  · cases hp:G2.ρ id with
    | none=>rfl
    | some p=>
      rcases hcases id _ hx with ⟨j,s0,b1,b2,b3⟩ | ⟨b0,b1,s0,b2,b3⟩
      · cases s0 with
        | resv=>
          rcases hback id p hp with ⟨j',c1,c2⟩ | ⟨c1,_,_⟩
          · have e3:=hinv1 _ _ b1
            rw [hinv1 _ _ c1] at e3
            cases e3
            rw [r2.resv _ b2] at c2; cases c2
          · exact absurd (List.mem_of_getElem? b1) c1
        | live=>cases b3
        | freed=>cases b3
      · cases s0 with
        | resv=>
          rcases hback id p hp with ⟨j',c1,c2⟩ | ⟨_,_,c3⟩
          · exact absurd (List.mem_of_getElem? c1) b0
          · rw [r2.resv _ b2] at c3; cases c3
        | live=>cases b3
        | freed=>cases b3
  · intro i1 o1 p1 i2 o2 p2 hne g1 g2 g3 g4 b k f1 f2
    obtain ⟨j1,q1,c1,rfl,c3,c4⟩:=hlive i1 o1 g1
    obtain ⟨j2,q2,d1,rfl,d3,d4⟩:=hlive i2 o2 g3
    have hne':j1≠j2:=fun e=>by subst e; rw [c3] at d3; cases d3; exact hne rfl
    exact r2.disj j1 q1 p1 j2 q2 p2 hne' c1 (c4 _ g2) d1 (d4 _ g4) b k (by rw [← cF]; exact f1) (by rw [← cF]; exact f2)
  · intro i1 o1 p1 g1 g2 b k f1
    obtain ⟨j1,q1,c1,rfl,c3,c4⟩:=hlive i1 o1 g1
    exact r2.free j1 q1 p1 c1 (c4 _ g2) b k (by rw [← cF]; exact f1)
end Go.Abs
namespace Go.Abs
noncomputable def av:List Nat→Nat→Bool
  | [],_=>false
  | x::l,i=>x.beq i||av l i
noncomputable def ba (keep M:List Nat):Nat→List ak→List ak
  | _,[]=>[]
  | i,s::h=>(bif av keep i then s else bif av M i then .freed else .resv)::ba keep M (i+1) h
noncomputable def cg (W:List Nat):Nat→List ak→List ak→List ak
  | i,x::xs,y::ys=>(bif av W i then y else x)::cg W (i+1) xs ys
  | _,xs,_=>xs
structure Stp where
  rt:List Nat
  R:List Nat
  W:List Nat
  M:List Nat
  A:List Nat
theorem fx (keep M):∀ (h:List ak) (i:Nat),(ba keep M i h).length=h.length
  | [],i=>rfl
  | s::h,i=>by simp [ba,fx keep M h]
theorem re (keep M):∀ (h:List ak) (i j:Nat),(ba keep M i h)[j]? = (h[j]?).map fun s=>bif av keep (i+j) then s else bif av M (i+j) then .freed else .resv
  | [],i,j=>by simp [ba]
  | s::h,i,0=>by simp [ba]
  | s::h,i,j+1=>by
    simp only [ba,List.getElem?_cons_succ]
    rw [re keep M h (i+1) j,show i+1+j=i+(j+1) by omega]
noncomputable def cm (K:List Nat)(i:Nat):Option Nat:=bif av K i then some i else none
noncomputable def gY (K:List Nat):List (Nat×AV)→Bool
  | []=>true
  | (_,v)::ts=>v.okT (cm K)&&gY K ts
noncomputable def eM (K:List Nat):List ak→Bool
  | []=>true
  | .live ob::h=>ob.okT (cm K)&&eM K h
  | _::h=>eM K h
theorem rr {K:List Nat}:∀ {ts:List (Nat×AV)} {i:Nat} {v:AV},gY K ts=true→look ts i=some v→v.okT (cm K)=true
  | [],i,v,_,h=>by simp [look] at h
  | (k,x)::ts,i,v,ho,h=>by
    simp only [gY,Bool.and_eq_true] at ho
    simp only [look] at h
    cases hb:k.beq i with
    | true=>rw [hb] at h; simp at h; subst h; exact ho.1
    | false=>rw [hb] at h; exact rr ho.2 (by simpa using h)
theorem oX {K:List Nat}:∀ {h:List ak} {i:Nat} {ob:aQ},eM K h=true→h[i]? = some (.live ob)→ob.okT (cm K)=true
  | [],i,ob,_,h=>by simp at h
  | s::h,0,ob,ho,hx=>by
    simp at hx
    subst hx
    simp only [eM,Bool.and_eq_true] at ho
    exact ho.1
  | s::h,i+1,ob,ho,hx=>by
    have:eM K h=true:=by cases s <;> simp only [eM,Bool.and_eq_true] at ho <;> first | exact ho.2 | exact ho
    exact oX this (by simpa using hx)
mutual
theorem tK (K:List Nat):∀ (v:AV),v.okT (cm K)=true→v.tr (cm K)=v
  | .d x,_=>rfl
  | .agg cs,h=>by simp only [AV.tr]; rw [iU K cs h]
  | .tup cs,h=>by simp only [AV.tr]; rw [iU K cs h]
  | .ptr id off,h=>by
    simp only [AV.okT,cm,AV.tr] at h ⊢
    cases hb:av K id <;> first | rfl | (rw [hb] at h; cases h)
  | .eptr id i k sz,h=>by
    simp only [AV.okT,cm,AV.tr] at h ⊢
    cases hb:av K id <;> first | rfl | (rw [hb] at h; cases h)
  | .vp n get,_=>rfl
  | .osl id off n sz,h=>by
    simp only [AV.okT,cm,AV.tr] at h ⊢
    cases hb:av K id <;> first | rfl | (rw [hb] at h; cases h)
  | .mp id,h=>by
    simp only [AV.okT,cm,AV.tr] at h ⊢
    cases hb:av K id <;> first | rfl | (rw [hb] at h; cases h)
  | .clo f fs cs,h=>by
    simp only [AV.okT,Bool.and_eq_true] at h
    simp only [AV.tr]; rw [iU K fs h.1,iU K cs h.2]
  | .nsl,_=>rfl
  | .rsl es,h=>by simp only [AV.tr]; rw [iU K es h]
  | .rp v,h=>by simp only [AV.tr]; rw [tK K v h]
  | .bad,_=>rfl
theorem iU (K:List Nat):∀ (cs:List AV),et (cm K) cs=true→fk (cm K) cs=cs
  | [],_=>rfl
  | c::cs,h=>by
    simp only [et,Bool.and_eq_true] at h
    simp only [fk]; rw [tK K c h.1,iU K cs h.2]
end
theorem yZ (K:List Nat):∀ (ob:aQ),ob.okT (cm K)=true→ob.tr (cm K)=ob
  | .var cs,h=>by simp only [aQ.tr]; rw [iU K cs h]
  | .arr ..,_=>rfl
  | .mp _,_=>rfl
theorem gd (W):∀ (xs ys:List ak) (i:Nat),(cg W i xs ys).length=xs.length
  | [],ys,i=>by cases ys <;> rfl
  | x::xs,[],i=>rfl
  | x::xs,y::ys,i=>by simp [cg,gd W xs ys]
theorem eW (W):∀ (xs ys:List ak) (i j:Nat),xs.length=ys.length→(cg W i xs ys)[j]? = bif av W (i+j) then ys[j]? else xs[j]?
  | [],[],i,j,_=>by cases h:av W (i+j) <;> simp [cg]
  | [],y::ys,i,j,h=>by simp at h
  | x::xs,[],i,j,h=>by simp at h
  | x::xs,y::ys,i,0,h=>by
    simp only [cg,Nat.add_zero,List.getElem?_cons_zero]
    cases av W i <;> rfl
  | x::xs,y::ys,i,j+1,h=>by
    simp only [cg,List.getElem?_cons_succ]
    rw [eW W xs ys (i+1) j (by simpa using h),show i+1+j=i+(j+1) by omega]
theorem fg:∀ {l:List Nat} {i:Nat},av l i=true→i∈l
  | [],i,h=>by cases h
  | x::l,i,h=>by
    simp only [av,Bool.or_eq_true] at h
    rcases h with h | h
    · rw [Nat.eq_of_beq_eq_true h]; exact List.mem_cons_self ..
    · exact List.mem_cons_of_mem _ (fg h)
theorem bI (l l':List Nat)(i:Nat):av (l++l') i=(av l i||av l' i):=by
  induction l with
  | nil=>simp [av]
  | cons x l ih=>simp [av,ih,Bool.or_assoc]
noncomputable def bT:Option Nat→AV→List (Nat×AV)→List (Nat×AV)
  | some d,v,ts=>(d,v)::ts
  | none,_,ts=>ts
inductive iV (ops:Array Oper)(o:Oper)(ts:List (Nat×AV))(q:Stp):Bool→Prop
  | none (h:o.guard=none):iV ops o ts q true
  | some {j:Nat} {want b:Bool} {d:Nat} (h:o.guard=some (j,want)) (hd:(ops[j]?).bind (·.dst)=some d) (hl:look ts d=some (.d (.bool b))) (hm:av q.rt d=true):iV ops o ts q (b == want)
  | gone {j:Nat} {want:Bool} {d:Nat} (h:o.guard=some (j,want)) (hd:(ops[j]?).bind (·.dst)=some d) (hl:look ts d=some (.tup [])) (hm:av q.rt d=true):iV ops o ts q false
noncomputable def ec (h:List ak)(x:Nat):Bool:=match h[x]? with | some .resv=>true | _=>false
noncomputable def Stp.keep (q:Stp):List Nat:=q.R++q.W
noncomputable def Stp.all (q:Stp):List Nat:=(q.R++q.W)++q.M
structure Ap (P:Program)(N:Nat)(ops:Array Oper)(o:Oper)(s:St)(q:Stp)(s':St):Prop where
  inN:∀ d,o.dst=some d→d < N
  go:(∃ v h',iV ops o s.ts q true∧ae P o (bR s.ts q.rt) (ba q.keep q.M 0 s.h) v h'∧h'.length=s.h.length∧cg q.W 0 (ba q.keep q.M 0 s.h) h'=h'∧
      (gY q.all (bR s.ts q.rt)&&eM q.all (ba q.keep q.M 0 s.h)&&q.M.all (fun x=>!ec s.h x)&&q.W.all (fun x=>av q.A x||(!ec s.h x && !ec h' x)))=true∧s'=⟨bT o.dst v s.ts,cg q.W 0 s.h h'⟩)∨
    (iV ops o s.ts q false∧q.W=[]∧s'=⟨bT o.dst (.tup []) s.ts,s.h⟩)
noncomputable def eg (N:Nat):Option Nat→Bool
  | some d=>Nat.blt d N
  | none=>true
inductive Steps (P:Program)(N:Nat)(ops:Array Oper):List Oper→St→List Stp→St→Prop
  | nil (s):Steps P N ops [] s [] s
  | cons {o l s q qs s1 s'} (h:Ap P N ops o s q s1) (next:Steps P N ops l s1 qs s'):Steps P N ops (o::l) s (q::qs) s'
section
variable {P:Program}{N:Nat}{ops:Array Oper}{o:Oper}{l:List Oper}{s s':St}{q:Stp}{qs:List Stp}
theorem Steps.run {v:AV}{h':List ak}(rt R W M A:List Nat)(hop:ae P o (bR s.ts rt) (ba (R++W) M 0 s.h) v h')(hg:o.guard=none)(hlen:h'.length=s.h.length)(hp:cg W 0 (ba (R++W) M 0 s.h) h'=h')
    (hok:(gY ((R++W)++M) (bR s.ts rt)&&eM ((R++W)++M) (ba (R++W) M 0 s.h)&&M.all (fun x=>!ec s.h x)&&W.all (fun x=>av A x||(!ec s.h x && !ec h' x)))=true) (hd:eg N o.dst=true)
    (next:Steps P N ops l ⟨bT o.dst v s.ts,cg W 0 s.h h'⟩ qs s'):Steps P N ops (o::l) s (⟨rt,R,W,M,A⟩::qs) s':=
  .cons ⟨fun d e=>by rw [e] at hd; simpa [eg] using hd,.inl ⟨v,h',.none hg,hop,hlen,hp,hok,rfl⟩⟩ next
theorem Steps.grun {v:AV}{h':List ak}(rt R W M A:List Nat){j d:Nat}{want b:Bool}(hop:ae P o (bR s.ts rt) (ba (R++W) M 0 s.h) v h')(hg:o.guard=some (j,want))(hj:(ops[j]?).bind (·.dst)=some d)(hl:look s.ts d=some (.d (.bool b)))(hb:b=want)(hm:av rt d=true)
    (hlen:h'.length=s.h.length) (hp:cg W 0 (ba (R++W) M 0 s.h) h'=h') (hok:(gY ((R++W)++M) (bR s.ts rt)&&eM ((R++W)++M) (ba (R++W) M 0 s.h)&&M.all (fun x=>!ec s.h x)&&W.all (fun x=>av A x||(!ec s.h x && !ec h' x)))=true) (hd:eg N o.dst=true)
    (next:Steps P N ops l ⟨bT o.dst v s.ts,cg W 0 s.h h'⟩ qs s'):Steps P N ops (o::l) s (⟨rt,R,W,M,A⟩::qs) s':=
  .cons ⟨fun d e=>by rw [e] at hd; simpa [eg] using hd,.inl ⟨v,h',by
    have:=iV.some (q:=⟨rt,R,W,M,A⟩) hg hj hl hm
    rw [hb] at this
    simpa using this,hop,hlen,hp,hok,rfl⟩⟩ next
theorem Steps.gpass (rt:List Nat){j d:Nat}{want b:Bool}(hg:o.guard=some (j,want))(hj:(ops[j]?).bind (·.dst)=some d)(hl:look s.ts d=some (.d (.bool b)))(hb:b = !want)(hm:av rt d=true)
    (hd:eg N o.dst=true) (next:Steps P N ops l ⟨bT o.dst (.tup []) s.ts,s.h⟩ qs s'):Steps P N ops (o::l) s (⟨rt,[],[],[],[]⟩::qs) s':=
  .cons ⟨fun d e=>by rw [e] at hd; simpa [eg] using hd,.inr ⟨by
    have:=iV.some (q:=⟨rt,[],[],[],[]⟩) hg hj hl hm
    rw [hb] at this
    cases want <;> simpa using this,rfl,rfl⟩⟩ next
theorem Steps.gpass2 (rt:List Nat){j d:Nat}{want:Bool}(hg:o.guard=some (j,want))(hj:(ops[j]?).bind (·.dst)=some d)(hl:look s.ts d=some (.tup []))(hm:av rt d=true)
    (hd:eg N o.dst=true) (next:Steps P N ops l ⟨bT o.dst (.tup []) s.ts,s.h⟩ qs s'):Steps P N ops (o::l) s (⟨rt,[],[],[],[]⟩::qs) s':=
  .cons ⟨fun d e=>by rw [e] at hd; simpa [eg] using hd,.inr ⟨.gone hg hj hl hm,rfl,rfl⟩⟩ next
theorem ge:∀ (xs ys:List ak) (i:Nat),cg [] i xs ys=xs
  | [],[],i=>rfl
  | [],_::_,i=>rfl
  | x::xs,[],i=>rfl
  | x::xs,y::ys,i=>by simp [cg,av,ge xs ys]
theorem Steps.runQ {v:AV}(rt R M:List Nat)(hop:ae P o (bR s.ts rt) (ba R M 0 s.h) v (ba R M 0 s.h))(hg:o.guard=none)
    (hok:(gY (R++M) (bR s.ts rt)&&eM (R++M) (ba R M 0 s.h)&&M.all (fun x=>!ec s.h x))=true) (hd:eg N o.dst=true)
    (next:Steps P N ops l ⟨bT o.dst v s.ts,s.h⟩ qs s'):Steps P N ops (o::l) s (⟨rt,R,[],M,[]⟩::qs) s':=by
  refine Steps.run (v:=v) (h':=ba R M 0 s.h) rt R [] M [] (by rw [List.append_nil]; exact hop) hg (fx _ _ _ _) (by rw [List.append_nil,ge]) (by rw [List.append_nil]; simpa using hok) hd (by rw [ge]; exact next)
theorem Steps.grunQ {v:AV}(rt R M:List Nat){j d:Nat}{want b:Bool}(hop:ae P o (bR s.ts rt) (ba R M 0 s.h) v (ba R M 0 s.h))(hg:o.guard=some (j,want))(hj:(ops[j]?).bind (·.dst)=some d)(hl:look s.ts d=some (.d (.bool b)))(hb:b=want)(hm:av rt d=true)
    (hok:(gY (R++M) (bR s.ts rt)&&eM (R++M) (ba R M 0 s.h)&&M.all (fun x=>!ec s.h x))=true) (hd:eg N o.dst=true)
    (next:Steps P N ops l ⟨bT o.dst v s.ts,s.h⟩ qs s'):Steps P N ops (o::l) s (⟨rt,R,[],M,[]⟩::qs) s':=by
  refine Steps.grun (v:=v) (h':=ba R M 0 s.h) rt R [] M [] (by rw [List.append_nil]; exact hop) hg hj hl hb hm (fx _ _ _ _) (by rw [List.append_nil,ge]) (by rw [List.append_nil]; simpa using hok) hd (by rw [ge]; exact next)
theorem Steps.hp {ts:List (Nat×AV)}{h h':List ak}(e:h=h')(next:Steps P N ops l ⟨ts,h'⟩ qs s'):Steps P N ops l ⟨ts,h⟩ qs s':=e▸next
theorem Steps.ix:∀ {l s qs s'},Steps P N ops l s qs s'→∃ st:Nat→St,st 0=s∧st l.length=s'∧qs.length=l.length∧∀ j o q,l[j]? = some o→qs[j]? = some q→Ap P N ops o (st j) q (st (j+1))
  | _,_,_,_,.nil s=>⟨fun _=>s,rfl,rfl,rfl,fun j o q h=>by simp at h⟩
  | _,_,_,_,.cons (s:=s0) h next=>by
    obtain ⟨st,h0,h1,h2,h3⟩:=next.ix
    refine ⟨fun j=>match j with | 0=>s0 | j+1=>st j,rfl,by simpa using h1,by simp [h2],fun j o q ho hq=>?_⟩
    cases j with
    | zero=>simp at ho hq; subst ho hq; rw [← h0] at h; exact h
    | succ j=>exact h3 j o q (by simpa using ho) (by simpa using hq)
end
noncomputable def yP (acc:List Nat)(es:List Edge):Nat:=es.foldl (fun m e=>bif Region.binds .any e then Nat.lor (Nat.lor m (Nat.shiftLeft 1 e.on)) (acc.getD e.on 0) else m) 0
noncomputable def fV:List Oper→List Nat→List Nat
  | [],acc=>acc
  | o::l,acc=>fV l (acc++[yP acc o.after.toList])
noncomputable def fe (q1 q2:Stp)(d1 d2:Option Nat):Bool:=
  q1.W.any (fun x=>av q2.R x||av q2.W x)||q1.R.any (fun x=>av q2.W x)||q1.A.any (fun x=>av q2.M x)||q1.M.any (fun x=>av q2.A x)||(match d1 with | some d=>av q2.rt d||(match d2 with | some d'=>d.beq d' | none=>false) | none=>false)||(match d2 with | some d=>av q1.rt d | none=>false)
noncomputable def fO (cl:Nat)(q2:Stp)(d2:Option Nat):List Stp→List Oper→Nat→Bool
  | q1::qs,o1::l,i=>(!fe q1 q2 o1.dst d2||Nat.testBit cl i)&&fO cl q2 d2 qs l (i+1)
  | _,_,_=>true
noncomputable def iY (ops:List Oper)(qs:List Stp):List Oper→List Stp→List Nat→Nat→Bool
  | o::l,q::r,c::cl,j=>fO c q o.dst (qs.take j) (ops.take j) 0&&o.after.all (fun e=>!Region.binds .any e||Nat.blt e.on j)&&iY ops qs l r cl (j+1)
  | _,_,_,_=>true
noncomputable def lm (ops:Array Oper)(qs:List Stp):Bool:=iY ops.toList qs ops.toList qs (fV ops.toList []) 0
theorem mm (acc:List Nat)(i:Nat):∀ (es:List Edge) (m:Nat),(es.foldl (fun m e=>bif Region.binds .any e then Nat.lor (Nat.lor m (Nat.shiftLeft 1 e.on)) (acc.getD e.on 0) else m) m).testBit i=true→
    m.testBit i=true∨∃ e∈es,Region.binds .any e=true∧(i=e.on∨(acc.getD e.on 0).testBit i=true)
  | [],m,h=>.inl h
  | e::es,m,h=>by
    simp only [List.foldl_cons] at h
    rcases mm acc i es _ h with h1 | ⟨e',h1,h2,h3⟩
    · cases hb:Region.binds .any e with
      | false=>rw [hb] at h1; exact .inl h1
      | true=>
        rw [hb] at h1
        simp only [cond_true] at h1
        have e1:(Nat.lor (Nat.lor m (Nat.shiftLeft 1 e.on)) (acc.getD e.on 0)).testBit i=(m.testBit i||(decide (i=e.on))||(acc.getD e.on 0).testBit i):=by
          show ((m ||| (1 <<< e.on)) ||| acc.getD e.on 0).testBit i=_
          rw [Nat.testBit_or,Nat.testBit_or]
          congr 2
          rw [Nat.one_shiftLeft,Nat.testBit_two_pow]
          simp [eq_comm]
        rw [e1] at h1
        simp only [Bool.or_eq_true,decide_eq_true_eq] at h1
        rcases h1 with (h1 | h1) | h1
        · exact .inl h1
        · exact .inr ⟨e,List.mem_cons_self ..,hb,.inl h1⟩
        · exact .inr ⟨e,List.mem_cons_self ..,hb,.inr h1⟩
    · exact .inr ⟨e',List.mem_cons_of_mem _ h1,h2,h3⟩
theorem mO {R:Nat→Nat→Prop}:∀ (l:List Oper) (acc:List Nat) (ops:List Oper),(∀ j o,l[j]? = some o→ops[acc.length+j]? = some o)→(∀ j o e,ops[j]? = some o→e∈o.after.toList→Region.binds .any e=true→R j e.on∧∀ i,R e.on i→R j i)→
    (∀ j i,(acc.getD j 0).testBit i=true→R j i)→(∀ j i,((fV l acc).getD j 0).testBit i=true→R j i)
  | [],acc,ops,_,_,h=>h
  | o::l,acc,ops,hl,hc,h=>by
    refine mO l _ ops (fun j o' hj=>by have:=hl (j+1) o' (by simpa using hj); simpa [Nat.add_assoc,Nat.add_comm 1 j] using this) hc (fun j i hb=>?_)
    rcases Nat.lt_trichotomy j acc.length with c | c | c
    · rw [List.getD_eq_getElem?_getD,List.getElem?_append_left c,← List.getD_eq_getElem?_getD] at hb
      exact h j i hb
    · subst c
      rw [List.getD_eq_getElem?_getD,List.getElem?_append_right (Nat.le_refl _),Nat.sub_self] at hb
      simp only [List.getElem?_cons_zero,Option.getD_some] at hb
      rcases mm acc i _ 0 hb with h1 | ⟨e,h1,h2,h3⟩
      · simp at h1
      · have hse:=hc _ o e (hl 0 o rfl) h1 h2
        rcases h3 with rfl | h3
        · exact hse.1
        · exact hse.2 _ (h _ _ h3)
    · rw [List.getD_eq_getElem?_getD,List.getElem?_eq_none (by simp; omega)] at hb
      simp at hb
inductive Reach (ops:Array Oper):Nat→Nat→Prop
  | one {j o e} (h:ops[j]? = some o) (he:e∈o.after) (hb:Region.binds .any e=true):Reach ops j e.on
  | step {j o e i} (h:ops[j]? = some o) (he:e∈o.after) (hb:Region.binds .any e=true) (next:Reach ops e.on i):Reach ops j i
theorem mN {ops:Array Oper}{j i:Nat}(h:((fV ops.toList []).getD j 0).testBit i=true):Reach ops j i:=
  mO (R:=Reach ops) ops.toList [] ops.toList (fun j o h=>by rw [List.length_nil,Nat.zero_add]; exact h) (fun j o e h1 h2 h3=>⟨.one (by simpa using h1) (by simpa using h2) h3,fun i hi=>.step (by simpa using h1) (by simpa using h2) h3 hi⟩) (fun j i h=>by simp at h) j i h
theorem Reach.closed {ops:Array Oper}{S:Nat→Prop}(hc:∀ j o e,ops[j]? = some o→e∈o.after→Region.binds .any e=true→S j→S e.on){j i:Nat}(h:Reach ops j i)(hs:S j):S i:=by
  induction h with
  | one h he hb=>exact hc _ _ _ h he hb hs
  | step h he hb next ih=>exact ih (hc _ _ _ h he hb hs)
theorem Reach.under {ops:Array Oper}{S:Nat→Prop}(hc:∀ j o e,ops[j]? = some o→e∈o.after→Region.binds .any e=true→S j→S e.on){j i:Nat}(h:Reach ops j i){o:Oper}(ho:ops[j]? = some o)(hs:∀ e∈o.after,Region.binds .any e=true→S e.on):S i:=by
  cases h with
  | one h he hb=>rw [ho] at h; cases h; exact hs _ he hb
  | step h he hb next=>rw [ho] at h; cases h; exact next.closed hc (hs _ he hb)
theorem rq {cl:Nat}{q2:Stp}{d2:Option Nat}:∀ {qs:List Stp} {l:List Oper} {k:Nat},fO cl q2 d2 qs l k=true→∀ i q1 o1,qs[i]? = some q1→l[i]? = some o1→fe q1 q2 o1.dst d2=true→cl.testBit (k+i)=true
  | [],l,k,_,i,q1,o1,h1,_,_=>by simp at h1
  | q::qs,[],k,_,i,q1,o1,_,h2,_=>by simp at h2
  | q::qs,o::l,k,h,0,q1,o1,h1,h2,hc=>by
    simp at h1 h2
    subst h1 h2
    simp only [fO,Bool.and_eq_true,Bool.or_eq_true,Bool.not_eq_true',hc] at h
    simpa using h.1
  | q::qs,o::l,k,h,i+1,q1,o1,h1,h2,hc=>by
    simp only [fO,Bool.and_eq_true] at h
    have:=rq h.2 i q1 o1 (by simpa using h1) (by simpa using h2) hc
    rwa [show k+1+i=k+(i+1) by omega] at this
theorem mn:∀ (l:List Oper) (acc:List Nat),(fV l acc).length=acc.length+l.length
  | [],acc=>rfl
  | o::l,acc=>by rw [fV,mn l]; simp; omega
theorem rn {ops:List Oper}{qs:List Stp}:∀ {l:List Oper} {r:List Stp} {cl:List Nat} {k:Nat},iY ops qs l r cl k=true→l.length≤r.length→l.length≤cl.length→∀ j o q,l[j]? = some o→r[j]? = some q→
    fO (cl.getD j 0) q o.dst (qs.take (k+j)) (ops.take (k+j)) 0=true∧∀ e∈o.after,Region.binds .any e=true→e.on < k+j
  | [],r,cl,k,_,_,_,j,o,q,h1,_=>by simp at h1
  | o::l,[],cl,k,_,hl,_,j,o',q,_,_=>by simp at hl
  | o::l,q::r,[],k,_,_,hl,j,o',q',_,_=>by simp at hl
  | o::l,q::r,c::cl,k,h,hl,hl',0,o',q',h1,h2=>by
    simp at h1 h2
    subst h1 h2
    simp only [iY,Bool.and_eq_true] at h
    refine ⟨by simpa using h.1.1,fun e he hb=>?_⟩
    have:=Array.all_eq_true_iff_forall_mem.1 h.1.2 e he
    simp [hb] at this
    simpa using this
  | o::l,q::r,c::cl,k,h,hl,hl',j+1,o',q',h1,h2=>by
    simp only [iY,Bool.and_eq_true] at h
    have:=rn h.2 (by simpa using hl) (by simpa using hl') j o' q' (by simpa using h1) (by simpa using h2)
    rw [show k+1+j=k+(j+1) by omega] at this
    simpa using this
end Go.Abs
namespace Go.Abs
theorem Inv.drewn {G:Gh}{h:List ak}{w:World}(hi:Inv G h w)(n:Nat):Inv G h { w with drawn:=n }:=
  ⟨hi.imm,fun i ob hx=>by
    obtain ⟨p,h1,h2⟩:=hi.obj i ob hx
    exact ⟨p,h1,h2.frame (F:=fun _ _=>False) (bd.drew _ w n) (.refl _) (fun _ _ _ x=>x)⟩,hi.fresh,hi.resv,hi.disj,hi.free⟩
noncomputable def Gh.lim (G:Gh)(K:List Nat):Gh:=⟨G.I,fun i=>bif av K i then G.ρ i else none,G.tab⟩
theorem Gh.lim_le (G:Gh)(K:List Nat):(G.lim K).Le G:=⟨fun _ _ _ x=>x,fun i p x=>by
  have x':(bif av K i then G.ρ i else none)=some p:=x
  cases hb:av K i with
  | true=>rw [hb] at x'; exact x'
  | false=>rw [hb] at x'; cases x'⟩
theorem yv {G:Gh}{K:List Nat}:∀ j id p,Go.Abs.cm K j=some id→G.ρ id=some p→(G.lim K).ρ j=some p:=fun j id p hj hp=>by
  unfold Go.Abs.cm at hj
  show (bif av K j then G.ρ j else none)=some p
  cases hb:av K j with
  | true=>rw [hb] at hj; simp at hj; subst hj; exact hp
  | false=>rw [hb] at hj; cases hj
theorem RV.lim {G:Gh}{K:List Nat}{v:Value}{x:AV}(h:RV G v x)(ho:x.okT (Go.Abs.cm K)=true):RV (G.lim K) v x:=
  RV.tr_in (G:=G) (Gc:=G.lim K) rfl yv h x (tK K x ho).symm ho
theorem bH.lim {G:Gh}{K:List Nat}{w:World}{p}{ob:aQ}(h:bH G w p ob)(ho:ob.okT (Go.Abs.cm K)=true):bH (G.lim K) w p ob:=
  bH.tr_in (G:=G) (Gc:=G.lim K) (τ:=Go.Abs.cm K) rfl yv (by rw [yZ K ob ho]; exact h) ho
theorem Inv.frame {G:Gh}{h hs:List ak}{w:World}{W keep M:List Nat}(hi:Inv G h w)(hag:∀ i,av keep i=true→h[i]? = hs[i]?)(hsl:hs.length=h.length)(hW:∀ i,av W i=true→av keep i=true)(hok:eM (keep++M) (ba keep M 0 hs)=true){h':List ak}(hlen:h'.length=h.length)(hp:cg W 0 (ba keep M 0 hs) h'=h')(hM:∀ i,av M i=true→ec h i=false) :
    Inv (G.lim (keep++M)) (ba keep M 0 hs) w∧∀ G' w',Inv G' h' w'→d5 (G.lim (keep++M)) (ba keep M 0 hs) w G' h' w'→∃ G2,G'.Le G2∧Inv G2 (cg W 0 h h') w'∧d5 G h w G2 (cg W 0 h h') w':=by
  have hmask:∀ i:Nat,(ba keep M 0 hs)[i]? = (hs[i]?).map fun s=>bif av keep i then s else bif av M i then .freed else .resv:=fun i=>by
    have:=re keep M hs 0 i; rwa [Nat.zero_add] at this
  have hml:(ba keep M 0 hs).length=h'.length:=by rw [fx,hlen,hsl]
  have hh':∀ i:Nat,av W i=false→h'[i]? = (hs[i]?).map fun s=>bif av keep i then s else bif av M i then .freed else .resv:=fun i hw=>by
    have:=eW W (ba keep M 0 hs) h' 0 i hml
    rw [Nat.zero_add,hp,hw,hmask] at this
    exact this
  have hnew:∀ i:Nat,(cg W 0 h h')[i]? = bif av W i then h'[i]? else h[i]?:=fun i=>by
    have:=eW W h h' 0 i hlen.symm; rwa [Nat.zero_add] at this
  have mlive:∀ (i:Nat) (ob:aQ),(ba keep M 0 hs)[i]? = some (.live ob)→h[i]? = some (.live ob)∧av keep i=true:=fun i ob hx=>by
    rw [hmask] at hx
    obtain ⟨s,a1,a2⟩:=Option.map_eq_some_iff.1 hx
    cases hb:av keep i with
    | true=>rw [hb] at a2; simp at a2; subst a2; exact ⟨by rw [hag i hb]; exact a1,rfl⟩
    | false=>rw [hb] at a2; cases hc:av M i <;> rw [hc] at a2 <;> cases a2
  have hK:∀ i,av keep i=true→av (keep++M) i=true:=fun i hb=>by rw [bI,hb]; rfl
  have limρ:∀ i p,av (keep++M) i=true→G.ρ i=some p→(G.lim (keep++M)).ρ i=some p:=fun i p hb hx=>by
    show (bif av (keep++M) i then G.ρ i else none)=some p
    rw [hb]; exact hx
  have i1:Inv (G.lim (keep++M)) (ba keep M 0 hs) w:=by
    refine ⟨hi.imm,fun i ob hx=>?_,fun i hl=>?_,fun i hx=>?_,fun i1 o1 p1 i2 o2 p2 hne g1 g2 g3 g4=>hi.disj i1 o1 p1 i2 o2 p2 hne (mlive _ _ g1).1 ((G.lim_le _).ρ _ _ g2) (mlive _ _ g3).1 ((G.lim_le _).ρ _ _ g4),fun i ob p g1 g2=>hi.free i ob p (mlive _ _ g1).1 ((G.lim_le _).ρ _ _ g2)⟩
    · obtain ⟨b1,b2⟩:=mlive i ob hx
      obtain ⟨p,c1,c2⟩:=hi.obj i ob b1
      exact ⟨p,limρ i p (hK i b2) c1,c2.lim (oX hok hx)⟩
    · show (bif av (keep++M) i then G.ρ i else none)=none
      rw [fx,hsl] at hl
      rw [hi.fresh i hl]; cases av (keep++M) i <;> rfl
    · show (bif av (keep++M) i then G.ρ i else none)=none
      rw [hmask] at hx
      obtain ⟨s,a1,a2⟩:=Option.map_eq_some_iff.1 hx
      cases hb:av keep i with
      | true=>
        rw [hb] at a2; simp at a2; subst a2
        rw [hi.resv i (by rw [hag i hb]; exact a1)]; cases av (keep++M) i <;> rfl
      | false=>
        rw [hb] at a2
        cases hc:av M i with
        | true=>rw [hc] at a2; cases a2
        | false=>rw [bI,hb,hc]; rfl
  refine ⟨i1,fun G' w' i2 e2=>?_⟩
  let G2:Gh:=⟨G'.I,fun i=>bif av (keep++M) i||Nat.ble h.length i then G'.ρ i else G.ρ i,G'.tab⟩
  have hunk:∀ i,av (keep++M) i=false→i < h.length→G'.ρ i=none:=fun i hb hl=>by
    have hkb:av keep i=false:=by rw [bI,Bool.or_eq_false_iff] at hb; exact hb.1
    have hmb:av M i=false:=by rw [bI,Bool.or_eq_false_iff] at hb; exact hb.2
    have hwb:av W i=false:=by
      cases hc:av W i with
      | false=>rfl
      | true=>rw [hW i hc] at hkb; cases hkb
    refine i2.resv i ?_
    rw [hh' i hwb,List.getElem?_eq_getElem (show i < hs.length by omega),hkb,hmb]
    rfl
  have g2in:∀ i,av (keep++M) i=true→G2.ρ i=G'.ρ i:=fun i hb=>by
    show (bif av (keep++M) i||Nat.ble h.length i then G'.ρ i else G.ρ i)=_
    rw [hb]; rfl
  have g2out:∀ i,av (keep++M) i=false→i < h.length→G2.ρ i=G.ρ i:=fun i hb hl=>by
    show (bif av (keep++M) i||Nat.ble h.length i then G'.ρ i else G.ρ i)=_
    have:Nat.ble h.length i=false:=by
      cases hc:Nat.ble h.length i with
      | false=>rfl
      | true=>have:=Nat.le_of_ble_eq_true hc; omega
    rw [hb,this]; rfl
  have g2new:∀ i,h.length≤i→G2.ρ i=G'.ρ i:=fun i hl=>by
    show (bif av (keep++M) i||Nat.ble h.length i then G'.ρ i else G.ρ i)=_
    rw [Nat.ble_eq_true_of_le hl,Bool.or_true]; rfl
  have hle1:G'.Le G2:=⟨fun _ _ _ x=>x,fun i p x=>by
    cases hb:av (keep++M) i with
    | true=>rw [g2in i hb]; exact x
    | false=>
      rcases Nat.lt_or_ge i h.length with c | c
      · rw [hunk i hb c] at x; cases x
      · rw [g2new i c]; exact x⟩
  have hle2:G.Le G2:=⟨fun b o v x=>e2.le.I b o v x,fun i p x=>by
    cases hb:av (keep++M) i with
    | true=>rw [g2in i hb]; exact e2.le.ρ _ _ (limρ i p hb x)
    | false=>
      rcases Nat.lt_or_ge i h.length with c | c
      · rw [g2out i hb c]; exact x
      · rw [hi.fresh i c] at x; cases x⟩
  have hback:∀ i p,av (keep++M) i=true∨h.length≤i→G2.ρ i=some p→G'.ρ i=some p:=fun i p hb hx=>by
    rcases hb with hb | hb
    · rw [g2in i hb] at hx; exact hx
    · rw [g2new i hb] at hx; exact hx
  have hfm:∀ b k,cN (G.lim (keep++M)) (ba keep M 0 hs) b k→cN G h b k:=by
    rintro b k ⟨i,ob,p,h1,h2,h3⟩
    exact ⟨i,ob,p,(mlive i ob h1).1,(G.lim_le _).ρ _ _ h2,h3⟩
  have live':∀ (i:Nat) (ob:aQ),h'[i]? = some (.live ob)→av keep i=true∧i < h.length:=fun i ob hx=>by
    have hl:i < h.length:=by have:=(List.getElem?_eq_some_iff.1 hx).1; omega
    refine ⟨?_,hl⟩
    cases hw:av W i with
    | true=>exact hW i hw
    | false=>
      rw [hh' i hw] at hx
      obtain ⟨s,a1,a2⟩:=Option.map_eq_some_iff.1 hx
      cases hb:av keep i with
      | true=>rfl
      | false=>rw [hb] at a2; cases hc:av M i <;> rw [hc] at a2 <;> cases a2
  have split:∀ (i:Nat) (ob:aQ),(cg W 0 h h')[i]? = some (.live ob)→h'[i]? = some (.live ob)∨(av keep i=false∧h[i]? = some (.live ob)):=fun i ob hx=>by
    rw [hnew] at hx
    cases hw:av W i with
    | true=>rw [hw] at hx; exact .inl hx
    | false=>
      rw [hw] at hx
      simp only [cond_false] at hx
      cases hk:av keep i with
      | true=>left; rw [hh' i hw,← hag i hk,hx,hk]; rfl
      | false=>exact .inr ⟨rfl,hx⟩
  have out:∀ (i:Nat) (ob:aQ) p,av keep i=false→h[i]? = some (.live ob)→G.ρ i=some p→∀ b k,bX p ob b k→¬ cN (G.lim (keep++M)) (ba keep M 0 hs) b k:=by
    rintro i ob p hk h1 h2 b k f1 ⟨i2,ob2,p2,g1,g2,g3⟩
    obtain ⟨m1,m2⟩:=mlive i2 ob2 g1
    exact hi.disj i ob p i2 ob2 p2 (fun e=>by subst e; rw [hk] at m2; cases m2) h1 h2 m1 ((G.lim_le _).ρ _ _ g2) b k f1 g3
  have place:∀ (i:Nat) (ob:aQ),h[i]? = some (.live ob)→∃ p,G.ρ i=some p∧G2.ρ i=some p∧bH G w p ob:=fun i ob h1=>by
    obtain ⟨p,a1,a2⟩:=hi.obj i ob h1
    exact ⟨p,a1,hle2.ρ _ _ a1,a2⟩
  have ρin:∀ (i:Nat) (ob:aQ) p,h'[i]? = some (.live ob)→G2.ρ i=some p→G'.ρ i=some p:=fun i ob p h1 h2=>hback i p (.inl (hK i (live' i ob h1).1)) h2
  refine ⟨G2,hle1,⟨i2.imm,fun i ob hx=>?_,fun i hl=>?_,fun i hx=>?_,?_,?_⟩,⟨hle2,e2.pres.imp hfm,fun b k v x=>(e2.inew b k v x).imp id (Or.imp (hfm b k) id),?_⟩⟩
  · rcases split i ob hx with c | ⟨c1,c2⟩
    · obtain ⟨p,d1,d2⟩:=i2.obj i ob c
      exact ⟨p,hle1.ρ _ _ d1,d2.frame (F:=fun _ _=>False) (bd.refl _ _) hle1 (fun _ _ _ x=>x)⟩
    · obtain ⟨p,a1,a2,a3⟩:=place i ob c2
      exact ⟨p,a2,a3.frame e2.pres hle2 (fun b k f1=>out i ob p c1 c2 a1 b k f1)⟩
  · rw [gd] at hl
    rw [g2new i hl]; exact i2.fresh i (by omega)
  · rw [hnew] at hx
    cases hw:av W i with
    | true=>
      rw [hw] at hx
      rw [g2in i (hK i (hW i hw))]; exact i2.resv i hx
    | false=>
      rw [hw] at hx
      simp only [cond_false] at hx
      have hlt:i < h.length:=(List.getElem?_eq_some_iff.1 hx).1
      cases hb:av (keep++M) i with
      | false=>rw [g2out i hb hlt]; exact hi.resv i hx
      | true=>
        rw [g2in i hb]
        cases hk:av keep i with
        | true=>exact i2.resv i (by rw [hh' i hw,← hag i hk,hx,hk]; rfl)
        | false=>
          have:av M i=true:=by rw [bI,hk] at hb; simpa using hb
          have:=hM i this
          unfold ec at this
          rw [hx] at this
          cases this
  · intro i1 o1 p1 j2 o2 p2 hne g1 g2 g3 g4 b k f1 f2
    have apart:∀ (i:Nat) (o1:aQ) p1 (j:Nat) (o2:aQ) p2,h'[i]? = some (.live o1)→G2.ρ i=some p1→av keep j=false→h[j]? = some (.live o2)→G2.ρ j=some p2→∀ b k,bX p1 o1 b k→bX p2 o2 b k→False:=by
      intro i o1 p1 j o2 p2 g1 g2 c1 c2 g4 b k f1 f2
      obtain ⟨p,a1,a2,a3⟩:=place j o2 c2
      rw [a2] at g4; have e_g4:=Option.some.inj g4; subst e_g4
      rcases e2.fnew b k ⟨i,o1,p1,g1,ρin i o1 p1 g1 g2,f1⟩ with x | x
      · exact out j o2 p c1 c2 a1 b k f2 x
      · have:=hi.blk c2 a1 f2
        have:=fJ f2
        omega
    rcases split i1 o1 g1 with c | ⟨c1,c2⟩ <;> rcases split j2 o2 g3 with d | ⟨d1,d2⟩
    · exact i2.disj i1 o1 p1 j2 o2 p2 hne c (ρin _ _ _ c g2) d (ρin _ _ _ d g4) b k f1 f2
    · exact apart i1 o1 p1 j2 o2 p2 c g2 d1 d2 g4 b k f1 f2
    · exact apart j2 o2 p2 i1 o1 p1 d g4 c1 c2 g2 b k f2 f1
    · obtain ⟨p,a1,a2,_⟩:=place i1 o1 c2
      obtain ⟨p',b1,b2,_⟩:=place j2 o2 d2
      rw [a2] at g2; have e_g2:=Option.some.inj g2; subst e_g2
      rw [b2] at g4; have e_g4:=Option.some.inj g4; subst e_g4
      exact hi.disj i1 o1 p j2 o2 p' hne c2 a1 d2 b1 b k f1 f2
  · intro i ob p g1 g2 b k f1
    rcases split i ob g1 with c | ⟨c1,c2⟩
    · exact i2.free i ob p c (ρin _ _ _ c g2) b k f1
    · obtain ⟨p',a1,a2,a3⟩:=place i ob c2
      rw [a2] at g2; have e_g2:=Option.some.inj g2; subst e_g2
      show G'.I b k=none
      cases hx:G'.I b k with
      | none=>rfl
      | some v=>
        rcases e2.inew b k v hx with x | x | x
        · have x':G.I b k=some v:=x
          rw [hi.free i ob p' c2 a1 b k f1] at x'; cases x'
        · exact absurd x (out i ob p' c1 c2 a1 b k f1)
        · have:=hi.blk c2 a1 f1
          have:=fJ f1
          omega
  · rintro b k ⟨i,ob,p,g1,g2,g3⟩
    rcases split i ob g1 with c | ⟨c1,c2⟩
    · rcases e2.fnew b k ⟨i,ob,p,c,ρin _ _ _ c g2,g3⟩ with x | x
      · exact .inl (hfm b k x)
      · exact .inr x
    · obtain ⟨p',a1,a2,_⟩:=place i ob c2
      rw [a2] at g2; have e_g2:=Option.some.inj g2; subst e_g2
      exact .inl ⟨i,ob,p',c2,a1,g3⟩
noncomputable def f9 (n:Nat)(f:Nat→Bool):Nat:=((List.range n).filter fun j=>!f j).length
theorem tO {n:Nat}{f:Nat→Bool}(h:f9 n f=0)(j:Nat)(hj:j < n):f j=true:=by
  have:(List.range n).filter (fun j=>!f j)=[]:=List.eq_nil_of_length_eq_zero h
  have:=List.filter_eq_nil_iff.1 this j (by simpa using hj)
  simpa using this
theorem pn {f g:Nat→Bool}{i:Nat}:∀ {n:Nat},i < n→f i=false→g i=true→(∀ j,j≠i→g j=f j)→f9 n f=f9 n g+1
  | 0,h,_,_,_=>by omega
  | n+1,h,h1,h2,h3=>by
    unfold f9
    rw [List.range_succ,List.filter_append,List.filter_append,List.length_append,List.length_append]
    by_cases e:i=n
    · subst e
      have e1:(List.range i).filter (fun j=>!f j)=(List.range i).filter (fun j=>!g j):=by
        refine List.filter_congr fun j hj=>?_
        rw [h3 j (by have:=List.mem_range.1 hj; omega)]
      rw [e1]
      simp [h1,h2]
    · have:=pn (n:=n) (by omega) h1 h2 h3
      unfold f9 at this
      rw [this]
      have e2:([n].filter fun j=>!f j)=[n].filter fun j=>!g j:=by simp [List.filter,h3 n (Ne.symm e)]
      rw [e2]
      omega
end Go.Abs
namespace Go.Abs
theorem py {ts:List (Nat×AV)}:∀ {ks:List Nat} {t:Nat} {v:AV},look (bR ts ks) t=some v→av ks t=true
  | [],t,v,h=>by simp [bR,look] at h
  | k::ks,t,v,h=>by
    simp only [bR,look] at h
    simp only [av]
    cases hb:k.beq t with
    | true=>rfl
    | false=>rw [hb] at h; rw [Bool.false_or]; exact py (by simpa using h)
section
variable {P:Program}{N m:Nat}{ops:Array Oper}
noncomputable def Agree (n:Nat)(f:Nat→Bool)(S:Nat→Bool)(k:Nat):Prop:=∀ i,i < n→f i=true→(S i=true↔i < k)
theorem stay {α:Type}{n:Nat}{f:Nat→Bool}{S:Nat→Bool}{g:Nat→α}(hg:∀ i,i < n→f i=false→g (i+1)=g i):∀ {k k':Nat},Agree n f S k→Agree n f S k'→k≤n→k'≤n→g k=g k':=by
  have key:∀ d k,k+d≤n→(∀ i,k≤i→i < k+d→f i=false)→g (k+d)=g k:=by
    intro d
    induction d with
    | zero=>intro k _ _; rfl
    | succ d ih=>
      intro k hk hf
      rw [← Nat.add_assoc,hg (k+d) (by omega) (hf _ (by omega) (by omega))]
      exact ih k (by omega) fun i h1 h2=>hf i h1 (by omega)
  have main:∀ k k',k≤k'→Agree n f S k→Agree n f S k'→k'≤n→g k=g k':=by
    intro k k' hle h1 h2 hn
    have:=key (k' - k) k (by omega) (fun i a b=>by
      cases hf:f i with
      | false=>rfl
      | true=>
        have c1:=h1 i (by omega) hf
        have c2:=h2 i (by omega) hf
        have:=c1.1 (c2.2 (by omega))
        omega)
    rw [show k+(k' - k)=k' by omega] at this
    exact this.symm
  intro k k' h1 h2 hk hk'
  rcases Nat.le_total k k' with c | c
  · exact main k k' c h1 h2 hk'
  · exact (main k' k c h2 h1 hk).symm
theorem xd {o:Oper}{ts:List (Nat×AV)}{q:Stp}{b:Bool}(hg:iV ops o ts q b){G:Gh}{a:Act}(hr:∀ t,av q.rt t=true→RV G (a.tmps.getD t undef) ((look ts t).getD .bad)):Region.wanted o (yielded ops a.tmps)=b:=by
  cases hg with
  | none h=>simp [Region.wanted,h]
  | @some j want b d h hd hl hm=>
    have h1:=hr d hm
    rw [hl] at h1
    have hv:a.tmps.getD d undef = .bool b:=gp h1
    have hy:yielded ops a.tmps j=Option.some b:=by
      unfold yielded
      rw [hd]
      simp only [Option.bind_some]
      cases hx:a.tmps[d]? with
      | none=>simp [Array.getD_eq_getD_getElem?,hx,undef] at hv
      | some x=>
        simp [Array.getD_eq_getD_getElem?,hx] at hv
        subst hv
        rfl
    simp [Region.wanted,h,hy]
  | @gone j want d h hd hl hm=>
    have h1:=hr d hm
    rw [hl] at h1
    have hv:∃ vs,a.tmps.getD d undef = .tuple vs:=by
      have h2:RV G (a.tmps.getD d undef) (.tup []):=h1
      generalize a.tmps.getD d undef=v at h2
      cases h2 with
      | tup vs cs hl h=>exact ⟨vs,rfl⟩
    obtain ⟨vs,hv⟩:=hv
    have hy:yielded ops a.tmps j=Option.none:=by
      unfold yielded
      rw [hd]
      simp only [Option.bind_some]
      cases hx:a.tmps[d]? with
      | none=>rfl
      | some x=>
        simp [Array.getD_eq_getD_getElem?,hx] at hv
        subst hv
        rfl
    simp only [Region.wanted,h,hy]
    rfl
theorem aa.regionAny {id:Nat}{s s':St}{qs:List Stp}{Q:Exit→St→Prop}(hm:P.follows .mixedOrders=true)(hst:Steps P N ops ops.toList s qs s')(hok:lm ops qs=true)(hq:Q .normal s'):aa P N m (.region id ops true) s Q:=by
  intro G0 a0 w0 hN0 hi0 hr0 Qc hQc
  obtain ⟨st,st0,stn,hql,hrun⟩:=hst.ix
  let n:=ops.toList.length
  have hnsize:n=ops.size:=by simp [n]
  have hop:∀ (j:Nat) (o:Oper),ops[j]? = some o→ops.toList[j]? = some o:=fun j o h=>by rw [Array.getElem?_toList]; exact h
  have hclen:(fV ops.toList []).length=ops.toList.length:=by rw [mn]; simp
  have hone:∀ j o q,ops[j]? = some o→qs[j]? = some q→fO ((fV ops.toList []).getD j 0) q o.dst (qs.take j) (ops.toList.take j) 0=true∧∀ e∈o.after,Region.binds .any e=true→e.on < j:=fun j o q h1 h2=>by
    have:=rn hok (by omega) (by omega) j o q (hop j o h1) h2
    simpa using this
  have hqj:∀ j,j < n→∃ o q,ops[j]? = some o∧qs[j]? = some q:=fun j hj=>by
    have h1:j < ops.size:=by omega
    have h2:j < qs.length:=by omega
    exact ⟨_,_,Array.getElem?_eq_getElem h1,List.getElem?_eq_getElem h2⟩
  let fH:Nat→Nat→Bool:=fun x i=>match qs[i]? with | some q=>av q.W x | none=>false
  let fA:Nat→Nat→Bool:=fun x i=>match qs[i]? with | some q=>av q.W x&&av q.A x | none=>false
  have fAH:∀ x i,fA x i=true→fH x i=true:=fun x i hf=>by
    simp only [fA,fH] at hf ⊢
    cases hq:qs[i]? with
    | none=>rw [hq] at hf; exact hf
    | some q=>rw [hq] at hf; simp only [Bool.and_eq_true] at hf; exact hf.1
  let fT:Nat→Nat→Bool:=fun t i=>match ops[i]? with | some o=>(match o.dst with | some d=>d.beq t | none=>false) | none=>false
  have hlenS:∀ j,j≤n→(st j).h.length=s.h.length:=by
    intro j
    induction j with
    | zero=>intro _; rw [st0]
    | succ j ih=>
      intro hj
      obtain ⟨o,q,h1,h2⟩:=hqj j (by omega)
      have:=(hrun j o q (hop j o h1) h2).go
      rcases this with ⟨v,h',_,_,_,_,_,e⟩ | ⟨_,_,e⟩
      · rw [e]; show (cg q.W 0 (st j).h h').length=_; rw [gd]; exact ih (by omega)
      · rw [e]; exact ih (by omega)
  have gH:∀ x i,i < n→fH x i=false→(st (i+1)).h[x]? = (st i).h[x]?:=by
    intro x i hi hf
    obtain ⟨o,q,h1,h2⟩:=hqj i hi
    have hf':av q.W x=false:=by simpa [fH,h2] using hf
    rcases (hrun i o q (hop i o h1) h2).go with ⟨v,h',_,_,hl,_,_,e⟩ | ⟨_,_,e⟩
    · rw [e]
      have:=eW q.W (st i).h h' 0 x hl.symm
      rw [Nat.zero_add,hf'] at this
      exact this
    · rw [e]
  have gA:∀ x i,i < n→fA x i=false→ec (st (i+1)).h x=ec (st i).h x:=by
    intro x i hi hf
    obtain ⟨o,q,h1,h2⟩:=hqj i hi
    have hf':(av q.W x&&av q.A x)=false:=by simpa [fA,h2] using hf
    rcases (hrun i o q (hop i o h1) h2).go with ⟨v,h',_,_,hl,_,hc,e⟩ | ⟨_,_,e⟩
    · have hpg:=eW q.W (st i).h h' 0 x hl.symm
      rw [Nat.zero_add] at hpg
      cases hb:av q.W x with
      | false=>
        rw [e]
        unfold ec
        simp only
        rw [hpg,hb]; rfl
      | true=>
        simp only [Bool.and_eq_true] at hc
        have h4:=List.all_eq_true.1 hc.2 x (fg hb)
        rw [hb] at hf'
        have hf2:av q.A x=false:=by simpa using hf'
        rw [hf2] at h4
        simp only [Bool.false_or,Bool.and_eq_true,Bool.not_eq_true'] at h4
        rw [h4.1,e]
        have:ec (cg q.W 0 (st i).h h') x=ec h' x:=by unfold ec; rw [hpg,hb]; rfl
        rw [← h4.2]; exact this
    · rw [e]
  have gT:∀ t i,i < n→fT t i=false→(look (st (i+1)).ts t).getD .bad=(look (st i).ts t).getD .bad:=by
    intro t i hi hf
    obtain ⟨o,q,h1,h2⟩:=hqj i hi
    have hf':(match o.dst with | some d=>d.beq t | none=>false)=false:=by simpa [fT,h1] using hf
    have hput:∀ v,look (bT o.dst v (st i).ts) t=look (st i).ts t:=fun v=>by
      cases hd:o.dst with
      | none=>rfl
      | some d=>
        rw [hd] at hf'
        have hf2:d.beq t=false:=hf'
        simp only [bT,look,hf2,cond_false]
    rcases (hrun i o q (hop i o h1) h2).go with ⟨v,h',_,_,hl,_,_,e⟩ | ⟨_,_,e⟩ <;> (rw [e]; simp only [hput])
  have main:∀ (fuel:Nat) (listed:Array Bool) (G:Gh) (h:List ak) (a:Act) (w:World),listed.size=n→f9 n (fun j=>listed.getD j false)=fuel→
      (∀ j o e,ops[j]? = some o→e∈o.after→Region.binds .any e=true→listed.getD j false=true→listed.getD e.on false=true)→a.tmps.size=N→a.defers=a0.defers→Inv G h w→h.length=s.h.length→
      jE m G0 s.h w0 G h w→(∀ x,∃ k,k≤n∧Agree n (fH x) (fun j=>listed.getD j false) k∧h[x]? = (st k).h[x]?)→
      (∀ t,∃ k,k≤n∧Agree n (fT t) (fun j=>listed.getD j false) k∧RV G (a.tmps.getD t undef) ((look (st k).ts t).getD .bad))→wpAny P .any ops Qc fuel listed a w:=by
    intro fuel
    induction fuel with
    | zero=>
      intro listed G h a w hsz hcnt hclo hN hdf hi hl hext hH hT
      have hall:=tO hcnt
      have hready:Region.ready .any ops listed=[]:=by
        refine List.eq_nil_iff_forall_not_mem.2 fun j hj=>?_
        obtain ⟨h1,o,h2,_⟩:=mem_ready.1 hj
        have hjn:j < n:=by have:=(Array.getElem?_eq_some_iff.1 h2).1; omega
        have h3:=hall j hjn
        have hlt:j < listed.size:=by omega
        simp [hlt] at h1 h3
        rw [h3] at h1; cases h1
      refine wpAny_done hready ?_ 0
      have hfull:∀ f:Nat→Bool,Agree n f (fun j=>listed.getD j false) n:=fun f i hi _=>⟨fun _=>hi,fun _=>hall i hi⟩
      have hh:h=s'.h:=by
        rw [← stn]
        apply List.ext_getElem?
        intro x
        obtain ⟨k,k1,k2,k3⟩:=hH x
        rw [k3]
        exact stay (g:=fun k=>(st k).h[x]?) (gH x) k2 (hfull _) k1 (Nat.le_refl _)
      subst hh
      refine hQc .normal a w G s' hq hN hdf hi (fun t v hv=>?_) hext
      obtain ⟨k,k1,k2,k3⟩:=hT t
      have e:=stay (g:=fun k=>(look (st k).ts t).getD .bad) (gT t) k2 (hfull _) k1 (Nat.le_refl _)
      have estn:st n=s':=stn
      rw [e,estn,hv] at k3
      exact k3
    | succ fuel ih=>
      intro listed G h a w hsz hcnt hclo hN hdf hi hl hext hH hT
      refine ⟨fun hre=>?_,fun j hj=>?_⟩
      ·
        exfalso
        have key:∀ j,j < n→listed.getD j false=true:=by
          intro j
          induction j using Nat.strongRecOn with
          | ind j ihj=>
            intro hjn
            cases hlj:listed.getD j false with
            | true=>rfl
            | false=>
              exfalso
              obtain ⟨o,q,h1,h2⟩:=hqj j hjn
              have:j∈Region.ready .any ops listed:=by
                refine mem_ready.2 ⟨?_,o,h1,fun e he hb=>?_⟩
                · have hlt:j < listed.size:=by omega
                  simp [hlt] at hlj ⊢
                  exact hlj
                · have h3:=(hone j o q h1 h2).2 e he hb
                  exact ihj _ h3 (by omega)
              rw [hre] at this
              cases this
        have:f9 n (fun j=>listed.getD j false)=0:=by
          unfold f9
          rw [List.filter_eq_nil_iff.2 (fun j hj=>by simp [key j (List.mem_range.1 hj)])]
          rfl
        omega
      · obtain ⟨hun,o,ho,haft⟩:=mem_ready.1 hj
        have hjs:j < ops.size:=(Array.getElem?_eq_some_iff.1 ho).1
        have hjn:j < n:=by omega
        have hjl:j < listed.size:=by omega
        have hunF:listed.getD j false=false:=by simp [hjl] at hun ⊢; exact hun
        obtain ⟨o',q,ho',hq'⟩:=hqj j hjn
        rw [ho] at ho'; cases ho'
        have hR:=hrun j o q (hop j o ho) hq'
        have hpre:∀ i1,((fV ops.toList []).getD j 0).testBit i1=true→listed.getD i1 false=true:=fun i1 hb=>(mN hb).under (S:=fun i=>listed.getD i false=true) hclo ho haft
        have hclosed:∀ i2 i1,((fV ops.toList []).getD i2 0).testBit i1=true→listed.getD i2 false=true→listed.getD i1 false=true:=fun i2 i1 hb=>(mN hb).closed (S:=fun i=>listed.getD i false=true) hclo
        have hconf:∀ i1 i2 o1 q1 o2 q2,ops[i1]? = some o1→qs[i1]? = some q1→ops[i2]? = some o2→qs[i2]? = some q2→i1 < i2→fe q1 q2 o1.dst o2.dst=true→((fV ops.toList []).getD i2 0).testBit i1=true:=by
          intro i1 i2 o1 q1 o2 q2 h1 h2 h3 h4 hlt hc
          have:=rq (hone i2 o2 q2 h3 h4).1 i1 q1 o1 (by rw [List.getElem?_take_of_lt hlt]; exact h2) (by rw [List.getElem?_take_of_lt hlt]; exact hop _ _ h1) hc
          rwa [Nat.zero_add] at this
        have hagreeH:∀ x,av q.keep x=true→Agree n (fH x) (fun j=>listed.getD j false) j:=by
          intro x hx i1 hi1 hf
          obtain ⟨o1,q1,h1,h2⟩:=hqj i1 hi1
          have hw1:av q1.W x=true:=by simpa [fH,h2] using hf
          unfold Stp.keep at hx
          rw [bI,Bool.or_eq_true] at hx
          rcases Nat.lt_trichotomy i1 j with c | c | c
          · refine ⟨fun _=>c,fun _=>hpre _ (hconf i1 j o1 q1 o q h1 h2 ho hq' c ?_)⟩
            have:q1.W.any (fun x=>av q.R x||av q.W x)=true:=List.any_eq_true.2 ⟨x,fg hw1,by simpa using hx⟩
            simp [fe,this]
          · subst c
            exact ⟨fun h=>(by have h':listed.getD i1 false=true:=h; rw [hunF] at h'; cases h'),fun h=>by omega⟩
          · refine ⟨fun h=>?_,fun h=>by omega⟩
            exfalso
            have hcf:fe q q1 o.dst o1.dst=true:=by
              rcases hx with hx | hx
              · have:q.R.any (fun x=>av q1.W x)=true:=List.any_eq_true.2 ⟨x,fg hx,hw1⟩
                simp [fe,this]
              · have:q.W.any (fun x=>av q1.R x||av q1.W x)=true:=List.any_eq_true.2 ⟨x,fg hx,by simp [hw1]⟩
                simp [fe,this]
            have:=hclosed i1 j (hconf j i1 o q o1 q1 ho hq' h1 h2 c hcf) h
            rw [hunF] at this; cases this
        have hagreeT:∀ t,(av q.rt t=true∨o.dst=some t)→Agree n (fT t) (fun j=>listed.getD j false) j:=by
          intro t hx i1 hi1 hf
          obtain ⟨o1,q1,h1,h2⟩:=hqj i1 hi1
          have hw1:o1.dst=some t:=by
            have hf':(match o1.dst with | some d=>d.beq t | none=>false)=true:=by simpa [fT,h1] using hf
            cases hd:o1.dst with
            | none=>rw [hd] at hf'; cases hf'
            | some d=>rw [hd] at hf'; rw [Nat.eq_of_beq_eq_true hf']
          rcases Nat.lt_trichotomy i1 j with c | c | c
          · refine ⟨fun _=>c,fun _=>hpre _ (hconf i1 j o1 q1 o q h1 h2 ho hq' c ?_)⟩
            rcases hx with hx | hx
            · simp [fe,hw1,hx]
            · simp [fe,hw1,hx]
          · subst c
            exact ⟨fun h=>(by have h':listed.getD i1 false=true:=h; rw [hunF] at h'; cases h'),fun h=>by omega⟩
          · refine ⟨fun h=>?_,fun h=>by omega⟩
            exfalso
            have hcf:fe q q1 o.dst o1.dst=true:=by
              rcases hx with hx | hx
              · simp [fe,hw1,hx]
              · simp [fe,hw1,hx]
            have:=hclosed i1 j (hconf j i1 o q o1 q1 ho hq' h1 h2 c hcf) h
            rw [hunF] at this; cases this
        have hrt:∀ t,av q.rt t=true→RV G (a.tmps.getD t undef) ((look (st j).ts t).getD .bad):=fun t ht=>by
          obtain ⟨k,k1,k2,k3⟩:=hT t
          have e:=stay (g:=fun k=>(look (st k).ts t).getD .bad) (gT t) k2 (hagreeT t (.inl ht)) k1 (by omega)
          rw [e] at k3; exact k3
        have hx:∀ x,av q.keep x=true→h[x]? = (st j).h[x]?:=fun x hm=>by
          obtain ⟨k,k1,k2,k3⟩:=hH x
          rw [k3]
          exact stay (g:=fun k=>(st k).h[x]?) (gH x) k2 (hagreeH x hm) k1 (by omega)
        have hset:∀ i,(listed.setIfInBounds j true).getD i false=(if i=j then true else listed.getD i false):=fun i=>by
          by_cases c:i=j
          · subst c; simp [hjl]
          · rw [if_neg c]; simp [Array.getElem?_setIfInBounds,Ne.symm c]
        have hcnt':f9 n (fun i=>(listed.setIfInBounds j true).getD i false)=fuel:=by
          have:=pn (f:=fun i=>listed.getD i false) (g:=fun i=>(listed.setIfInBounds j true).getD i false) hjn hunF (by rw [hset,if_pos rfl]) (fun i hne=>by rw [hset,if_neg hne])
          omega
        have hclo':∀ i o e,ops[i]? = some o→e∈o.after→Region.binds .any e=true→(listed.setIfInBounds j true).getD i false=true→(listed.setIfInBounds j true).getD e.on false=true:=by
          intro i o1 e h1 h2 h3 h4
          rw [hset] at h4 ⊢
          by_cases c:i=j
          · subst c
            rw [ho] at h1; cases h1
            by_cases c2:e.on=i
            · rw [if_pos c2]
            · rw [if_neg c2]; exact haft e h2 h3
          · rw [if_neg c] at h4
            by_cases c2:e.on=j
            · rw [if_pos c2]
            · rw [if_neg c2]; exact hclo i o1 e h1 h2 h3 h4
        have keepA:∀ (f:Nat→Bool) k,f j=false→Agree n f (fun i=>listed.getD i false) k→Agree n f (fun i=>(listed.setIfInBounds j true).getD i false) k:=by
          intro f k hf hA i hi hfi
          have hne:i≠j:=fun e=>by subst e; rw [hf] at hfi; cases hfi
          simp only
          rw [hset,if_neg hne]
          exact hA i hi hfi
        have stepA:∀ (f:Nat→Bool),Agree n f (fun i=>listed.getD i false) j→Agree n f (fun i=>(listed.setIfInBounds j true).getD i false) (j+1):=by
          intro f hA i hi hfi
          simp only
          rw [hset]
          by_cases c:i=j
          · subst c; simp
          · rw [if_neg c]
            have:=hA i hi hfi
            constructor
            · intro hh; have:=this.1 hh; omega
            · intro hh; exact this.2 (by omega)
        have hwant:∀ b,iV ops o (st j).ts q b→Region.wanted o (yielded ops a.tmps)=b:=fun b hg=>xd hg hrt
        have nextT:∀ (G':Gh) (val:Value) (v:AV),G.Le G'→RV G' val v→st (j+1)=⟨bT o.dst v (st j).ts,(st (j+1)).h⟩→∀ t,∃ k,k≤n∧Agree n (fT t) (fun i=>(listed.setIfInBounds j true).getD i false) k∧RV G' ((a.put o.dst val).tmps.getD t undef) ((look (st k).ts t).getD .bad):=by
          intro G' val v hle hv hst1 t
          have hts:(st (j+1)).ts=bT o.dst v (st j).ts:=by rw [hst1]
          by_cases c:o.dst=some t
          · refine ⟨j+1,by omega,stepA _ (hagreeT t (.inr c)),?_⟩
            rw [hts,c]
            have hlt:t < a.tmps.size:=by rw [hN]; exact hR.inN t c
            have hself:t.beq t=true:=by simp
            simp only [bT,look,hself,cond_true,Option.getD_some]
            simp [Act.put,Array.getD_eq_getD_getElem?,Array.getElem?_setIfInBounds,hlt]
            exact hv
          · obtain ⟨k,k1,k2,k3⟩:=hT t
            have hf:fT t j=false:=by
              simp only [fT,ho]
              cases hd:o.dst with
              | none=>rfl
              | some d=>
                simp only
                cases hb:d.beq t with
                | false=>rfl
                | true=>rw [hd,Nat.eq_of_beq_eq_true hb] at c; exact absurd rfl c
            refine ⟨k,k1,keepA _ _ hf k2,?_⟩
            have e:(a.put o.dst val).tmps.getD t undef=a.tmps.getD t undef:=by
              cases hd:o.dst with
              | none=>rfl
              | some d=>
                have hne:d≠t:=fun e=>by rw [hd,e] at c; exact c rfl
                simp [Act.put,Array.getD_eq_getD_getElem?,Array.getElem?_setIfInBounds,hne]
            rw [e]
            exact k3.mono hle
        unfold wpOp
        rw [ho]
        simp only
        have hjl':(st j).h.length=h.length:=by rw [hlenS j (by omega),hl]
        rcases hR.go with ⟨v,h',hg,hopv,hl',hp',hchk,hst1⟩ | ⟨hg,hW0,hst1⟩
        · rw [hwant true hg,if_pos rfl]
          simp only [Bool.and_eq_true] at hchk
          obtain ⟨⟨⟨hc1,hc2⟩,hc3⟩,hc4⟩:=hchk
          have hMr:∀ x,av q.M x=true→ec h x=false:=fun x hxm=>by
            obtain ⟨k,k1,k2,k3⟩:=hH x
            have kA:Agree n (fA x) (fun i=>listed.getD i false) k:=fun i hi hf=>k2 i hi (fAH x i hf)
            have jA:Agree n (fA x) (fun i=>listed.getD i false) j:=by
              intro i1 hi1 hf
              obtain ⟨o1,q1,h1,h2⟩:=hqj i1 hi1
              have ha1:av q1.A x=true:=by
                have hf':(match qs[i1]? with | some q=>av q.W x&&av q.A x | none=>false)=true:=hf
                rw [h2] at hf'
                simp only [Bool.and_eq_true] at hf'
                exact hf'.2
              rcases Nat.lt_trichotomy i1 j with c | c | c
              · refine ⟨fun _=>c,fun _=>hpre _ (hconf i1 j o1 q1 o q h1 h2 ho hq' c ?_)⟩
                have:q1.A.any (fun x=>av q.M x)=true:=List.any_eq_true.2 ⟨x,fg ha1,hxm⟩
                simp [fe,this]
              · subst c
                exact ⟨fun h=>(by have h':listed.getD i1 false=true:=h; rw [hunF] at h'; cases h'),fun h=>by omega⟩
              · refine ⟨fun h=>?_,fun h=>by omega⟩
                exfalso
                have hcf:fe q q1 o.dst o1.dst=true:=by
                  have:q.M.any (fun x=>av q1.A x)=true:=List.any_eq_true.2 ⟨x,fg hxm,ha1⟩
                  simp [fe,this]
                have:=hclosed i1 j (hconf j i1 o q o1 q1 ho hq' h1 h2 c hcf) h
                rw [hunF] at this; cases this
            have e1:ec h x=ec (st k).h x:=by unfold ec; rw [k3]
            have e2:=stay (g:=fun k=>ec (st k).h x) (gA x) kA jA k1 (by omega)
            have e3:=List.all_eq_true.1 hc3 x (fg hxm)
            rw [e1,e2]
            simpa using e3
          obtain ⟨i1,hfr⟩:=hi.frame (hs:=(st j).h) (keep:=q.keep) (M:=q.M) (W:=q.W) hx hjl' (fun i hw=>by unfold Stp.keep; rw [bI,hw,Bool.or_true]) hc2 (h':=h') (by omega) hp' hMr
          have hrt1:RT (G.lim (q.keep++q.M)) a (bR (st j).ts q.rt):=fun t u hlk=>by
            have hin:av q.rt t=true:=py hlk
            have e:=kr _ _ _ _ hlk
            have h1:=hrt t hin
            rw [← e] at h1
            exact h1.lim (rr hc1 hlk)
          refine .inl (hopv _ a w i1 hrt1 _ _ fun val w' G' r1 r2 r3=>?_)
          obtain ⟨G2,g1,g2,g3⟩:=hfr G' w' r2 r3
          refine ih (listed.setIfInBounds j true) G2 (cg q.W 0 h h') (a.put o.dst val) w' (by simpa using hsz) hcnt' hclo' (by rw [fP]; exact hN) (by rw [put_defers]; exact hdf) g2 (by rw [gd]; exact hl) (hext.trans (g3.ext m)) (fun x=>?_) (nextT G2 val v g3.le (r1.mono g1) (by rw [hst1]))
          have hpg:=eW q.W h h' 0 x (by omega)
          rw [Nat.zero_add] at hpg
          cases hb:av q.W x with
          | true=>
            refine ⟨j+1,by omega,stepA _ (hagreeH x (by unfold Stp.keep; rw [bI,hb,Bool.or_true])),?_⟩
            rw [hpg,hb,hst1]
            have hpg2:=eW q.W (st j).h h' 0 x hl'.symm
            rw [Nat.zero_add,hb] at hpg2
            exact hpg2.symm
          | false=>
            obtain ⟨k,k1,k2,k3⟩:=hH x
            exact ⟨k,k1,keepA _ _ (by simp [fH,hq',hb]) k2,by rw [hpg,hb]; exact k3⟩
        · rw [hwant false hg]
          simp only [Bool.false_eq_true,if_false]
          refine ih (listed.setIfInBounds j true) G h (a.put o.dst undef) w (by simpa using hsz) hcnt' hclo' (by rw [fP]; exact hN) (by rw [put_defers]; exact hdf) hi hl hext (fun x=>?_) (nextT G undef (.tup []) (.refl _) (kC rfl) (by rw [hst1]))
          obtain ⟨k,k1,k2,k3⟩:=hH x
          exact ⟨k,k1,keepA _ _ (by simp [fH,hq',hW0,av]) k2,k3⟩
  refine wp_region_any hm ?_
  have hsize0:(Array.replicate ops.size false).size=n:=by simp [n]
  have hF:∀ i,(Array.replicate ops.size false).getD i false=false:=fun i=>by
    simp only [Array.getD_eq_getD_getElem?,Array.getElem?_replicate]
    split <;> rfl
  have hcount:f9 n (fun j=>(Array.replicate ops.size false).getD j false)=ops.size:=by
    unfold f9
    rw [List.filter_eq_self.2 (fun j _=>by show (!((Array.replicate ops.size false).getD j false))=true; rw [hF]; rfl),List.length_range,hnsize]
  refine main ops.size _ G0 s.h a0 _ hsize0 hcount (fun j o e _ _ _ h=>by rw [hF] at h; cases h) hN0 rfl (hi0.drewn _) rfl ⟨bd.drew _ _ _,fun _ _ _ x=>x,fun _ _ _ x=>.inl x,fun _ _ x=>.inl x,fun _ _ _ x=>x⟩ (fun x=>⟨0,by omega,fun i hi hf=>⟨fun h=>(by have h':(Array.replicate ops.size false).getD i false=true:=h; rw [hF] at h'; cases h'),fun h=>by omega⟩,by rw [st0]⟩) (fun t=>⟨0,by omega,fun i hi hf=>⟨fun h=>(by have h':(Array.replicate ops.size false).getD i false=true:=h; rw [hF] at h'; cases h'),fun h=>by omega⟩,?_⟩)
  rw [st0]
  exact hr0.lookup t
end
end Go.Abs
