/- Part 3 of what the claim stands on: an abstract calculus of the program's steps, what each function computes, and the plain law. -/
import Derived.Test.YtmdmpichmdfmcaaGreatDoorProg
import Derived.KernelRfl
import Derived.Test.YtmdmpichmdfmcaaGreatDoorA2
set_option linter.all false
namespace Go.Abs
open Go.Proofs
noncomputable section
structure kF where
  left:Int
  right:List Int
  ifF:Int
  mark:Int
  deriving Inhabited,DecidableEq
noncomputable def nQ (x:kF):List D:=[.int .u8 x.left,af 1 (eI .u8) x.right,.int .u8 x.ifF,.int .u8 x.mark]
abbrev dB (x:kF):List AV:=[.d (.int .u8 x.left),.d (af 1 (eI .u8) x.right),.d (.int .u8 x.ifF),.d (.int .u8 x.mark)]
structure oz where
  kind:Int
  a:Int
  b:Int
  c:Int
  ifF:Int
  deriving Inhabited,DecidableEq
noncomputable def nR (x:oz):List D:=[.int .u8 x.kind,.int .u8 x.a,.int .u8 x.b,.int .u8 x.c,.int .u8 x.ifF]
abbrev cR (x:oz):List AV:=[.d (.int .u8 x.kind),.d (.int .u8 x.a),.d (.int .u8 x.b),.d (.int .u8 x.c),.d (.int .u8 x.ifF)]
structure Raw where
  base:Int
  n:Int
  family:List Int
  lines:List kF
  rules:List oz
  deriving Inhabited,DecidableEq
noncomputable def v4 (x:Raw):List D:=[.int .u8 x.base,.int .u8 x.n,af 1 (eI .u8) x.family,af 4 nQ x.lines,af 5 nR x.rules]
abbrev eo (x:Raw):List AV:=[.d (.int .u8 x.base),.d (.int .u8 x.n),.d (af 1 (eI .u8) x.family),.d (af 4 nQ x.lines),.d (af 5 nR x.rules)]
structure ai where
  var:Int
  low:Int
  high:Int
  deriving Inhabited,DecidableEq
noncomputable def ag (x:ai):List D:=[.int .i64 x.var,.int .i64 x.low,.int .i64 x.high]
abbrev aK (x:ai):List AV:=[di x.var,di x.low,di x.high]
structure ap where
  nodes:List ai
  root:Int
  deriving Inhabited,DecidableEq
abbrev an (x:ap):List AV:=[.d (af 3 ag x.nodes),di x.root]
structure cE where
  kind:Int
  lo:Int
  hi:Int
  a:Int
  b:Int
  deriving Inhabited,DecidableEq
noncomputable def aO (x:cE):List D:=[.int .i64 x.kind,.int .i64 x.lo,.int .i64 x.hi,.int .i64 x.a,.int .i64 x.b]
abbrev aT (x:cE):List AV:=[di x.kind,di x.lo,di x.hi,di x.a,di x.b]
structure aL where
  name:ByteArray
  classF:Int
  literal:ByteArray
  pattern:List cE
  sample:ByteArray
  ifF:ap
  deriving Inhabited,DecidableEq
noncomputable def aE (x:aL):List D:=[.str x.name,.int .i64 x.classF,.str x.literal,af 5 aO x.pattern,.str x.sample,af 3 ag x.ifF.nodes,.int .i64 x.ifF.root]
abbrev dp (x:aL):List AV:=[.d (.str x.name),di x.classF,.d (.str x.literal),.d (af 5 aO x.pattern),.d (.str x.sample),.d (af 3 ag x.ifF.nodes),di x.ifF.root]
structure aw where
  token:Bool
  index:Int
  deriving Inhabited,DecidableEq
noncomputable def ay (x:aw):List D:=[.bool x.token,.int .i64 x.index]
abbrev bW (x:aw):List AV:=[db x.token,di x.index]
structure ar where
  kind:Int
  a:Int
  b:Int
  deriving Inhabited,DecidableEq
noncomputable def bi (x:ar):List D:=[.int .i64 x.kind,.int .i64 x.a,.int .i64 x.b]
abbrev oy (x:ar):List AV:=[di x.kind,di x.a,di x.b]
structure cY where
  opens:Bool
  declares:Int
  kind:Int
  uses:Int
  allowed:Int
  deriving Inhabited,DecidableEq
abbrev xc (x:cY):List AV:=[db x.opens,di x.declares,di x.kind,di x.uses,di x.allowed]
structure aj where
  name:ByteArray
  left:Int
  right:List aw
  ifF:ap
  bracket:Bool
  rank:Int
  layout:List ar
  scope:cY
  deriving Inhabited,DecidableEq
noncomputable def aq (x:aj):List D:=[.str x.name,.int .i64 x.left,af 2 ay x.right,af 3 ag x.ifF.nodes,.int .i64 x.ifF.root,.bool x.bracket,.int .i64 x.rank,af 3 bi x.layout,.bool x.scope.opens,.int .i64 x.scope.declares,.int .i64 x.scope.kind,.int .i64 x.scope.uses,.int .i64 x.scope.allowed]
abbrev az (x:aj):List AV:=[.d (.str x.name),di x.left,.d (af 2 ay x.right),.d (af 3 ag x.ifF.nodes),di x.ifF.root,db x.bracket,di x.rank,.d (af 3 bi x.layout),db x.scope.opens,di x.scope.declares,di x.scope.kind,di x.scope.uses,di x.scope.allowed]
structure aN where
  productions:List Int
  assoc:Int
  ifF:ap
  deriving Inhabited,DecidableEq
noncomputable def aH (x:aN):List D:=[af 1 (eI .i64) x.productions,.int .i64 x.assoc,af 3 ag x.ifF.nodes,.int .i64 x.ifF.root]
abbrev lE (x:aN):List AV:=[.d (af 1 (eI .i64) x.productions),di x.assoc,.d (af 3 ag x.ifF.nodes),di x.ifF.root]
structure aA where
  kind:Int
  parent:Int
  atF:Int
  child:Int
  left:Int
  token:Int
  tokens:List Int
  ifF:ap
  deriving Inhabited,DecidableEq
noncomputable def aC (x:aA):List D:=[.int .i64 x.kind,.int .i64 x.parent,.int .i64 x.atF,.int .i64 x.child,.int .i64 x.left,.int .i64 x.token,af 1 (eI .i64) x.tokens,af 3 ag x.ifF.nodes,.int .i64 x.ifF.root]
abbrev aW (x:aA):List AV:=[di x.kind,di x.parent,di x.atF,di x.child,di x.left,di x.token,.d (af 1 (eI .i64) x.tokens),.d (af 3 ag x.ifF.nodes),di x.ifF.root]
structure am where
  conditions:List ByteArray
  family:ap
  tokens:List aL
  nonterminals:List ByteArray
  productions:List aj
  start:Int
  levels:List aN
  filters:List aA
  deriving Inhabited,DecidableEq
abbrev ah (x:am):List AV:=[.d (af 1 eS x.conditions),.d (af 3 ag x.family.nodes),di x.family.root,.d (af 7 aE x.tokens),.d (af 1 eS x.nonterminals),.d (af 13 aq x.productions),di x.start,.d (af 4 aH x.levels),.d (af 9 aC x.filters)]
structure aR where
  a0:Int
  a1:Int
  a2:Int
  deriving Inhabited,DecidableEq
noncomputable def aZ (x:aR):List D:=[.int .i64 x.a0,.int .i64 x.a1,.int .i64 x.a2]
abbrev xb (x:aR):List AV:=[di x.a0,di x.a1,di x.a2]
theorem An:cd P 39=some [.nsl,.nsl,di 0,.nsl,.nsl,.nsl,di 0,.nsl,.nsl]:=by kernel_rfl
theorem yE:gz P 26=some [(0,false,1),(1,false,1),(2,false,1),(3,false,1),(4,false,1)]:=by kernel_rfl
theorem AF:cf P 5=some (false,1):=by kernel_rfl
theorem en:cf P 39=some (true,9):=by kernel_rfl
theorem qf:cy P 30=some (9,false,1):=by kernel_rfl
theorem yk:cd P 9=some [.d (.str (⟨#[]⟩:ByteArray))]:=by kernel_rfl
theorem AD:(P.underlying 5).isSome=true:=by kernel_rfl
theorem zu:im P 3=some .i64:=by kernel_rfl
theorem mg:gz P 33=some [(0,false,1),(1,false,1)]:=by kernel_rfl
theorem bq:cf P 33=some (true,2):=by kernel_rfl
theorem fm:gz P 39=some [(0,false,1),(1,true,2),(3,false,1),(4,false,1),(5,false,1),(6,false,1),(7,false,1),(8,false,1)]:=by kernel_rfl
theorem mj:cf P 35=some (false,1):=by kernel_rfl
theorem kD:cd P 69=some [db false,di 0]:=by kernel_rfl
theorem dA:gz P 69=some [(0,false,1),(1,false,1)]:=by kernel_rfl
theorem qk:cf P 69=some (true,2):=by kernel_rfl
theorem bL:cy P 62=some (69,true,2):=by kernel_rfl
theorem ql:cd P 67=some [.d (.str (⟨#[]⟩:ByteArray)),di 0,.nsl,.nsl,di 0,db false,di 0,.nsl,db false,di 0,di 0,di 0,di 0]:=by kernel_rfl
theorem cz:gz P 67=some [(0,false,1),(1,false,1),(2,false,1),(3,true,2),(5,false,1),(6,false,1),(7,false,1),(8,true,5)]:=by kernel_rfl
theorem n9:cf P 67=some (true,13):=by kernel_rfl
theorem iA:cy P 35=some (67,true,13):=by kernel_rfl
theorem rV:dz P 67=some (13,160):=by kernel_rfl
theorem rY:cj P 35=true:=by kernel_rfl
theorem yD:cy P 22=some (5,false,1):=by kernel_rfl
theorem zK:(P.underlying 3).isSome=true:=by kernel_rfl
theorem zt:im P 158=some .u64:=by kernel_rfl
theorem dn:gz P 103=some [(0,false,1),(1,false,1),(2,false,1)]:=by kernel_rfl
theorem ji:cd P 103=some [di 0,di 0,di 0]:=by kernel_rfl
theorem dP:cy P 31=some (103,true,3):=by kernel_rfl
theorem qi:gz P 296=some [(0,true,2),(2,true,2),(4,false,1),(5,false,1),(6,false,1)]:=by kernel_rfl
theorem aX:cf P 3=some (false,1):=by kernel_rfl
theorem qe:cy P 294=some (289,true,3):=by kernel_rfl
theorem gN:cf P 31=some (false,1):=by kernel_rfl
theorem jh:cf P 103=some (true,3):=by kernel_rfl
theorem pt:sK P 103=some [.int .i64,.int .i64,.int .i64]:=by kernel_rfl
theorem mY:dz P 103=some (3,24):=by kernel_rfl
theorem pF:cj P 31=true:=by kernel_rfl
theorem xf:cd P 289=some [di 0,di 0,di 0]:=by kernel_rfl
theorem wd:dz P 289=some (3,24):=by kernel_rfl
theorem wB:cj P 294=true:=by kernel_rfl
theorem dQ:cy P 70=some (3,false,1):=by kernel_rfl
theorem zw:dz P 3=some (1,8):=by kernel_rfl
theorem nI:cd P 3=some [di 0]:=by kernel_rfl
theorem jg:gz P 313=some [(0,false,1),(1,false,1),(2,false,1)]:=by kernel_rfl
theorem yI:cf P 70=some (false,1):=by kernel_rfl
theorem Ai:cf P 23=some (false,1):=by kernel_rfl
theorem Ae:cy P 23=some (110,true,4):=by kernel_rfl
theorem zN:cf P 110=some (true,4):=by kernel_rfl
theorem Ax:im P 5=some .u8:=by kernel_rfl
theorem zS:cd P 5=some [.d (.int .u8 0)]:=by kernel_rfl
theorem Am:sO P 22=true:=by kernel_rfl
theorem Ah:isString P 9=true:=by kernel_rfl
theorem zL:gz P 110=some [(0,false,1),(1,false,1),(2,false,1),(3,false,1)]:=by kernel_rfl
theorem cV:cf P 62=some (false,1):=by kernel_rfl
theorem yn:dz P 69=some (2,16):=by kernel_rfl
theorem yB:cj P 62=true:=by kernel_rfl
theorem fF:cf P 4=some (false,1):=by kernel_rfl
theorem Ag:cy P 63=some (101,true,3):=by kernel_rfl
theorem zR:cd P 101=some [di 0,di 0,di 0]:=by kernel_rfl
theorem Aj:cf P 24=some (false,1):=by kernel_rfl
theorem Af:cy P 24=some (113,true,5):=by kernel_rfl
theorem zO:cf P 113=some (true,5):=by kernel_rfl
theorem eJ:gz P 74=some [(0,false,1),(1,false,1),(2,false,1),(3,false,1),(4,false,1),(5,false,1),(6,false,1),(7,true,2)]:=by kernel_rfl
theorem qm:cd P 74=some [di 0,di 0,di 0,di 0,di 0,di 0,.nsl,.nsl,di 0]:=by kernel_rfl
theorem Al:cf P 74=some (true,9):=by kernel_rfl
theorem yG:cf P 36=some (false,1):=by kernel_rfl
theorem qg:cy P 36=some (72,true,4):=by kernel_rfl
theorem vO:cd P 72=some [.nsl,di 0,.nsl,di 0]:=by kernel_rfl
theorem Ak:cf P 72=some (true,4):=by kernel_rfl
theorem Aa:cj P 70=true:=by kernel_rfl
theorem yo:dz P 72=some (4,64):=by kernel_rfl
theorem yz:cj P 36=true:=by kernel_rfl
theorem n6:cy P 34=some (79,true,7):=by kernel_rfl
theorem yK:cd P 79=some [.d (.str (⟨#[]⟩:ByteArray)),di 0,.d (.str (⟨#[]⟩:ByteArray)),.nsl,.d (.str (⟨#[]⟩:ByteArray)),.nsl,di 0]:=by kernel_rfl
theorem si:cf P 34=some (false,1):=by kernel_rfl
theorem zX:dz P 79=some (7,112):=by kernel_rfl
theorem z9:cj P 34=true:=by kernel_rfl
theorem yJ:cf P 79=some (true,7):=by kernel_rfl
theorem mf:cy P 37=some (74,true,9):=by kernel_rfl
theorem yH:cf P 37=some (false,1):=by kernel_rfl
theorem yp:dz P 74=some (9,104):=by kernel_rfl
theorem yA:cj P 37=true:=by kernel_rfl
theorem ka:cy P 148=some (51,false,1):=by kernel_rfl
theorem Ao:cd P 51=some [.d .nilf]:=by kernel_rfl
theorem n8:cf P 51=some (false,1):=by kernel_rfl
theorem AH:P.underlying 9=some .string:=by kernel_rfl
theorem xF:fc P 9 (fun n:ByteArray=>Value.string n) D.str:=oV AH
theorem sX:gU P 268=some (9,4):=by kernel_rfl
theorem yj:kE P 4=some (.bool false):=by kernel_rfl
theorem wx:fc P 103 (fun x:ai=>Value.agg #[Value.int .i64 x.var,Value.int .i64 x.low,Value.int .i64 x.high]) (fun x=>D.agg (ag x)):=
  fc.via (uq (ks:=[.i64,.i64,.i64]) (by kernel_rfl)) (fun x=>⟨[x.var,x.low,x.high],rfl⟩) (fun a=>⟨a.1.getD 0 0,a.1.getD 1 0,a.1.getD 2 0⟩) (fun _=>rfl) (fun _=>rfl) (fun _=>rfl)
theorem wA:gU P 224=some (103,4):=by kernel_rfl
theorem kR:fc P 3 (fun n:Int=>Value.int .i64 n) (kI .i64):=oU zu
theorem jd:gU P 299=some (3,3):=by kernel_rfl
theorem vN:kE P 3=some (.int .i64 0):=by kernel_rfl
theorem zH:cy P 265=some (4,false,1):=by kernel_rfl
theorem Ay:dz P 4=some (1,1):=by kernel_rfl
theorem AI:cd P 4=some [db false]:=by kernel_rfl
theorem vh:sK P 69=some [.bool,.int .i64]:=by kernel_rfl
theorem wz:gU P 213=some (3,4):=by kernel_rfl
noncomputable def cC:List aL:=[⟨⟨#[105,100]⟩,0,⟨#[]⟩,[⟨1,97,122,0,0⟩,⟨1,97,122,0,0⟩,⟨4,0,0,1,0⟩,⟨2,0,0,0,2⟩],⟨#[120]⟩,⟨[],1⟩⟩,⟨⟨#[43]⟩,0,⟨#[43]⟩,[],⟨#[]⟩,⟨[],1⟩⟩,⟨⟨#[42]⟩,0,⟨#[42]⟩,[],⟨#[]⟩,⟨[],1⟩⟩,⟨⟨#[40]⟩,0,⟨#[40]⟩,[],⟨#[]⟩,⟨[],1⟩⟩,⟨⟨#[41]⟩,0,⟨#[41]⟩,[],⟨#[]⟩,⟨[],1⟩⟩,⟨⟨#[105,102]⟩,0,⟨#[105,102]⟩,[],⟨#[]⟩,⟨[],1⟩⟩,⟨⟨#[101,108,115,101]⟩,0,⟨#[101,108,115,101]⟩,[],⟨#[]⟩,⟨[],1⟩⟩,⟨⟨#[59]⟩,0,⟨#[59]⟩,[],⟨#[]⟩,⟨[],1⟩⟩,⟨⟨#[94]⟩,0,⟨#[94]⟩,[],⟨#[]⟩,⟨[],1⟩⟩,⟨⟨#[115,112,97,99,101]⟩,1,⟨#[]⟩,[⟨1,9,10,0,0⟩,⟨1,32,32,0,0⟩,⟨3,0,0,0,1⟩,⟨1,9,10,0,0⟩,⟨1,32,32,0,0⟩,⟨3,0,0,3,4⟩,⟨4,0,0,5,0⟩,⟨2,0,0,2,6⟩],⟨#[]⟩,⟨[],1⟩⟩,⟨⟨#[114,101,109,97,114,107]⟩,2,⟨#[]⟩,[⟨1,37,37,0,0⟩,⟨1,97,122,0,0⟩,⟨1,32,32,0,0⟩,⟨3,0,0,1,2⟩,⟨4,0,0,3,0⟩,⟨2,0,0,0,4⟩],⟨#[]⟩,⟨[],1⟩⟩]
theorem ws:SC P 113 [] [] (.d (af 7 aE cC)) []:=gR (by kernel_rfl)
noncomputable def m5:am:=⟨[⟨#[65]⟩,⟨#[66]⟩],⟨[],1⟩,cC,[⟨#[69]⟩],[⟨⟨#[97,100,100]⟩,0,[⟨false,0⟩,⟨true,1⟩,⟨false,0⟩],⟨[],1⟩,false,0,[],⟨false,0,0,0,0⟩⟩,⟨⟨#[109,117,108]⟩,0,[⟨false,0⟩,⟨true,2⟩,⟨false,0⟩],⟨[],1⟩,false,0,[],⟨false,0,0,0,0⟩⟩,⟨⟨#[98,114,97,99,107,101,116]⟩,0,[⟨true,3⟩,⟨false,0⟩,⟨true,4⟩],⟨[],1⟩,true,0,[],⟨false,0,0,0,0⟩⟩,⟨⟨#[110,97,109,101]⟩,0,[⟨true,0⟩],⟨[],1⟩,false,0,[],⟨false,0,0,0,0⟩⟩,⟨⟨#[112,111,119]⟩,0,[⟨false,0⟩,⟨true,8⟩,⟨false,0⟩],⟨[⟨1,0,1⟩],2⟩,false,0,[],⟨false,0,0,0,0⟩⟩],0,[⟨[4],2,⟨[],1⟩⟩,⟨[1],1,⟨[],1⟩⟩,⟨[0],1,⟨[⟨0,1,0⟩],2⟩⟩],[]⟩
theorem wl:SC P 107 [] [] (.agg (ah m5)) []:=gR (by kernel_rfl)
noncomputable def m6:am:=⟨[⟨#[65]⟩,⟨#[66]⟩],⟨[],1⟩,cC,[⟨#[83]⟩,⟨#[67]⟩],[⟨⟨#[98,111,116,104]⟩,0,[⟨true,5⟩,⟨false,1⟩,⟨false,0⟩,⟨true,6⟩,⟨false,0⟩],⟨[],1⟩,false,0,[],⟨false,0,0,0,0⟩⟩,⟨⟨#[116,104,101,110]⟩,0,[⟨true,5⟩,⟨false,1⟩,⟨false,0⟩],⟨[],1⟩,false,0,[],⟨false,0,0,0,0⟩⟩,⟨⟨#[99,97,108,108]⟩,0,[⟨false,1⟩,⟨true,7⟩],⟨[],1⟩,false,0,[],⟨false,0,0,0,0⟩⟩,⟨⟨#[98,108,111,99,107]⟩,0,[⟨true,3⟩,⟨false,0⟩,⟨true,4⟩],⟨[],1⟩,true,0,[],⟨false,0,0,0,0⟩⟩,⟨⟨#[119,111,114,100]⟩,1,[⟨true,0⟩],⟨[],1⟩,false,0,[],⟨false,0,0,0,0⟩⟩],0,[],[⟨2,0,2,1,0,0,[],⟨[⟨0,0,1⟩],2⟩⟩,⟨5,0,0,0,0,0,[5,6],⟨[⟨1,0,1⟩],2⟩⟩]⟩
theorem wm:SC P 108 [] [] (.agg (ah m6)) []:=gR (by kernel_rfl)
noncomputable def m7:am:=⟨[⟨#[65]⟩,⟨#[66]⟩],⟨[],1⟩,cC,[⟨#[76]⟩,⟨#[73]⟩],[⟨⟨#[101,109,112,116,121]⟩,0,[],⟨[],1⟩,false,0,[],⟨false,0,0,0,0⟩⟩,⟨⟨#[109,111,114,101]⟩,0,[⟨false,0⟩,⟨false,1⟩],⟨[],1⟩,false,0,[],⟨false,0,0,0,0⟩⟩,⟨⟨#[116,121,112,101]⟩,1,[⟨true,1⟩,⟨true,0⟩,⟨true,7⟩],⟨[],1⟩,false,0,[],⟨false,2,1,0,0⟩⟩,⟨⟨#[112,111,105,110,116,101,114]⟩,1,[⟨true,0⟩,⟨true,2⟩,⟨true,0⟩,⟨true,7⟩],⟨[],1⟩,false,0,[],⟨false,3,2,1,2⟩⟩,⟨⟨#[112,114,111,100,117,99,116]⟩,1,[⟨true,0⟩,⟨true,2⟩,⟨true,0⟩,⟨true,7⟩],⟨[],1⟩,false,(-1),[],⟨false,0,0,1,5⟩⟩,⟨⟨#[105,110,110,101,114]⟩,1,[⟨true,3⟩,⟨false,0⟩,⟨true,4⟩],⟨[],1⟩,false,0,[],⟨true,0,0,0,0⟩⟩,⟨⟨#[115,116,114,105,99,116]⟩,1,[⟨true,0⟩,⟨true,7⟩],⟨[⟨0,0,1⟩],2⟩,false,0,[],⟨false,0,0,1,6⟩⟩],0,[],[]⟩
theorem wn:SC P 109 [] [] (.agg (ah m7)) []:=gR (by kernel_rfl)
noncomputable def m8:am:=⟨[⟨#[65]⟩,⟨#[66]⟩],⟨[],1⟩,cC,[⟨#[66]⟩,⟨#[73]⟩],[⟨⟨#[111,110,101]⟩,0,[⟨false,1⟩],⟨[],1⟩,false,0,[],⟨false,0,0,0,0⟩⟩,⟨⟨#[108,105,115,116]⟩,0,[⟨false,0⟩,⟨false,1⟩],⟨[],1⟩,false,0,[⟨2,0,1⟩],⟨false,0,0,0,0⟩⟩,⟨⟨#[119,111,114,100]⟩,1,[⟨true,0⟩],⟨[],1⟩,false,0,[],⟨false,0,0,0,0⟩⟩,⟨⟨#[104,101,97,100]⟩,1,[⟨true,5⟩,⟨true,0⟩,⟨false,0⟩],⟨[],1⟩,false,0,[⟨3,0,2⟩,⟨1,2,0⟩],⟨false,0,0,0,0⟩⟩,⟨⟨#[108,105,110,101]⟩,1,[⟨true,5⟩,⟨false,0⟩],⟨[⟨0,0,1⟩],2⟩,false,0,[⟨4,0,1⟩],⟨false,0,0,0,0⟩⟩],0,[],[]⟩
theorem wo:SC P 110 [] [] (.agg (ah m8)) []:=gR (by kernel_rfl)
noncomputable def m9:am:=⟨[⟨#[65]⟩,⟨#[66]⟩],⟨[],1⟩,cC,[⟨#[83]⟩,⟨#[87]⟩,⟨#[86]⟩],[⟨⟨#[112,97,105,114]⟩,0,[⟨false,1⟩,⟨false,2⟩],⟨[],1⟩,false,0,[],⟨false,0,0,0,0⟩⟩,⟨⟨#[115,105,110,103,108,101]⟩,1,[⟨true,0⟩],⟨[],1⟩,false,(-1),[],⟨false,0,0,0,0⟩⟩,⟨⟨#[100,111,117,98,108,101]⟩,1,[⟨true,0⟩,⟨true,0⟩],⟨[],1⟩,false,0,[],⟨false,0,0,0,0⟩⟩,⟨⟨#[110,111,110,101]⟩,2,[],⟨[],1⟩,false,0,[],⟨false,0,0,0,0⟩⟩,⟨⟨#[110,101,120,116]⟩,2,[⟨true,0⟩,⟨false,2⟩],⟨[],1⟩,false,0,[],⟨false,0,0,0,0⟩⟩,⟨⟨#[109,97,114,107]⟩,2,[⟨true,1⟩,⟨false,2⟩],⟨[⟨1,0,1⟩],2⟩,false,0,[],⟨false,0,0,0,0⟩⟩],0,[],[⟨3,0,0,0,1,0,[0],⟨[⟨0,0,1⟩],2⟩⟩,⟨4,0,0,0,2,0,[1],⟨[⟨1,1,0⟩],2⟩⟩]⟩
theorem wq:SC P 111 [] [] (.agg (ah m9)) []:=gR (by kernel_rfl)
noncomputable def na:am:=⟨[⟨#[65]⟩,⟨#[66]⟩],⟨[],1⟩,cC,[⟨#[83]⟩,⟨#[79]⟩,⟨#[80]⟩],[⟨⟨#[97,108,108]⟩,0,[⟨false,1⟩,⟨true,0⟩,⟨false,1⟩,⟨false,2⟩],⟨[],1⟩,false,0,[],⟨false,0,0,0,0⟩⟩,⟨⟨#[110,111]⟩,1,[],⟨[],1⟩,false,0,[],⟨false,0,0,0,0⟩⟩,⟨⟨#[121,101,115]⟩,1,[⟨true,1⟩],⟨[],1⟩,false,0,[],⟨false,0,0,0,0⟩⟩,⟨⟨#[101,110,100]⟩,2,[],⟨[],1⟩,false,0,[],⟨false,0,0,0,0⟩⟩,⟨⟨#[114,101,115,116]⟩,2,[⟨true,1⟩,⟨false,2⟩],⟨[⟨0,0,1⟩],2⟩,false,0,[],⟨false,0,0,0,0⟩⟩],0,[],[]⟩
theorem wr:SC P 112 [] [] (.agg (ah na)) []:=gR (by kernel_rfl)
noncomputable def m3:Option Bool:=some true
theorem pA (r:Bool)(h:m3=some r):SC P 11 [] [] (.d (.bool r)) []:=by
  cases h
  exact pB
noncomputable def ju:Option am:=some m5
theorem l7 (r:am)(h:ju=some r):SC P 107 [] [] (.agg (ah r)) []:=by
  cases h
  exact wl
noncomputable def j4:Option am:=some m6
theorem mB (r:am)(h:j4=some r):SC P 108 [] [] (.agg (ah r)) []:=by
  cases h
  exact wm
noncomputable def jf:Option am:=some m7
theorem lu (r:am)(h:jf=some r):SC P 109 [] [] (.agg (ah r)) []:=by
  cases h
  exact wn
noncomputable def nz:Option am:=some m8
theorem pX (r:am)(h:nz=some r):SC P 110 [] [] (.agg (ah r)) []:=by
  cases h
  exact wo
noncomputable def mv:Option am:=some m9
theorem o6 (r:am)(h:mv=some r):SC P 111 [] [] (.agg (ah r)) []:=by
  cases h
  exact wq
noncomputable def mx:Option am:=some na
theorem pb (r:am)(h:mx=some r):SC P 112 [] [] (.agg (ah r)) []:=by
  cases h
  exact wr
noncomputable def gE (a0:Int):Option am:=(if (decide ((Int.tmod a0 6)=0))=true then ((ju).bind fun y2=>some y2) else (if (decide ((Int.tmod a0 6)=1))=true then ((j4).bind fun y4=>some y4) else (if (decide ((Int.tmod a0 6)=2))=true then ((jf).bind fun y6=>some y6) else (if (decide ((Int.tmod a0 6)=3))=true then ((nz).bind fun y8=>some y8) else (if (decide ((Int.tmod a0 6)=4))=true then ((mv).bind fun y10=>some y10) else ((mx).bind fun y11=>some y11))))))
set_option maxRecDepth 100000 in
set_option maxHeartbeats 4000000 in
theorem qI (a0:Int)(r:am)(h:gE a0=some r):SC P 37 [.d (.int .u8 a0)] [] (.agg (ah r)) []:=by
 unfold gE at h
 refine SC.intro3 (N:=21) Tryz.func37 rfl rfl Tryz.ntmps37 rfl ?_
 refine aa.sr (ab.evn (h':=[.live (.var [.nsl,.nsl,di 0,.nsl,.nsl,.nsl,di 0,.nsl,.nsl])]) [0] [(2,.ptr 0 0)] [] ?_)
 refine aa.seq ?_
 refine aa.sr (ab.ev0n [0,0] [(4,.d (.int .u8 (Int.tmod a0 6)))] [] ?_)
 refine aa.block ?_
 refine aa.sr (ab.ev0n [0,0] [(5,db (decide ((Int.tmod a0 6)=0)))] [] ?_)
 refine aa.condI h rfl (fun hc1 h=>?_) (fun hc1 h=>?_)
 ·
  refine aa.seq ?_
  refine ao h fun y2 hy2 h=>?_
  refine aa.region ?_
  refine ab.step (v:=.agg (ah y2)) (ae.callS [] (l7 _ hy2) rfl rfl trivial (by decide) rfl rfl trivial) rfl rfl rfl ?_
  refine ab.evn (h':=[.live (.var (ah y2))]) [0] [] [] ?_
  refine aa.ret ?_
  cases h
  exact ⟨_,(GStep.keep [2]),.inr rfl,Fin.mk2 (aB.one (.cellA rfl en rfl rfl)) [] (by decide) rfl rfl rfl ⟨rfl,rfl,rfl,rfl,rfl,rfl,rfl,rfl,rfl,trivial⟩⟩
 refine aa.sr (ab.ev0n [0,0] [(8,db (decide ((Int.tmod a0 6)=1)))] [] ?_)
 refine aa.condI h rfl (fun hc3 h=>?_) (fun hc3 h=>?_)
 ·
  refine aa.seq ?_
  refine ao h fun y4 hy4 h=>?_
  refine aa.region ?_
  refine ab.step (v:=.agg (ah y4)) (ae.callS [] (mB _ hy4) rfl rfl trivial (by decide) rfl rfl trivial) rfl rfl rfl ?_
  refine ab.evn (h':=[.live (.var (ah y4))]) [0] [] [] ?_
  refine aa.ret ?_
  cases h
  exact ⟨_,(GStep.keep [2]),.inr rfl,Fin.mk2 (aB.one (.cellA rfl en rfl rfl)) [] (by decide) rfl rfl rfl ⟨rfl,rfl,rfl,rfl,rfl,rfl,rfl,rfl,rfl,trivial⟩⟩
 refine aa.sr (ab.ev0n [0,0] [(11,db (decide ((Int.tmod a0 6)=2)))] [] ?_)
 refine aa.condI h rfl (fun hc5 h=>?_) (fun hc5 h=>?_)
 ·
  refine aa.seq ?_
  refine ao h fun y6 hy6 h=>?_
  refine aa.region ?_
  refine ab.step (v:=.agg (ah y6)) (ae.callS [] (lu _ hy6) rfl rfl trivial (by decide) rfl rfl trivial) rfl rfl rfl ?_
  refine ab.evn (h':=[.live (.var (ah y6))]) [0] [] [] ?_
  refine aa.ret ?_
  cases h
  exact ⟨_,(GStep.keep [2]),.inr rfl,Fin.mk2 (aB.one (.cellA rfl en rfl rfl)) [] (by decide) rfl rfl rfl ⟨rfl,rfl,rfl,rfl,rfl,rfl,rfl,rfl,rfl,trivial⟩⟩
 refine aa.sr (ab.ev0n [0,0] [(14,db (decide ((Int.tmod a0 6)=3)))] [] ?_)
 refine aa.condI h rfl (fun hc7 h=>?_) (fun hc7 h=>?_)
 ·
  refine aa.seq ?_
  refine ao h fun y8 hy8 h=>?_
  refine aa.region ?_
  refine ab.step (v:=.agg (ah y8)) (ae.callS [] (pX _ hy8) rfl rfl trivial (by decide) rfl rfl trivial) rfl rfl rfl ?_
  refine ab.evn (h':=[.live (.var (ah y8))]) [0] [] [] ?_
  refine aa.ret ?_
  cases h
  exact ⟨_,(GStep.keep [2]),.inr rfl,Fin.mk2 (aB.one (.cellA rfl en rfl rfl)) [] (by decide) rfl rfl rfl ⟨rfl,rfl,rfl,rfl,rfl,rfl,rfl,rfl,rfl,trivial⟩⟩
 refine aa.sr (ab.ev0n [0,0] [(17,db (decide ((Int.tmod a0 6)=4)))] [] ?_)
 refine aa.condI h rfl (fun hc9 h=>?_) (fun hc9 h=>?_)
 ·
  refine aa.seq ?_
  refine ao h fun y10 hy10 h=>?_
  refine aa.region ?_
  refine ab.step (v:=.agg (ah y10)) (ae.callS [] (o6 _ hy10) rfl rfl trivial (by decide) rfl rfl trivial) rfl rfl rfl ?_
  refine ab.evn (h':=[.live (.var (ah y10))]) [0] [] [] ?_
  refine aa.ret ?_
  cases h
  exact ⟨_,(GStep.keep [2]),.inr rfl,Fin.mk2 (aB.one (.cellA rfl en rfl rfl)) [] (by decide) rfl rfl rfl ⟨rfl,rfl,rfl,rfl,rfl,rfl,rfl,rfl,rfl,trivial⟩⟩
 refine aa.skip ?_
 refine aa.seq ?_
 refine ao h fun y11 hy11 h=>?_
 refine aa.region ?_
 refine ab.step (v:=.agg (ah y11)) (ae.callS [] (pb _ hy11) rfl rfl trivial (by decide) rfl rfl trivial) rfl rfl rfl ?_
 refine ab.evn (h':=[.live (.var (ah y11))]) [0] [] [] ?_
 refine aa.ret ?_
 cases h
 exact ⟨_,(GStep.keep [2]),.inr rfl,Fin.mk2 (aB.one (.cellA rfl en rfl rfl)) [] (by decide) rfl rfl rfl ⟨rfl,rfl,rfl,rfl,rfl,rfl,rfl,rfl,rfl,trivial⟩⟩
noncomputable def cG (a0:Bool):Option Int:=(if a0=true then some 1 else some 0)
set_option maxRecDepth 100000 in
set_option maxHeartbeats 4000000 in
theorem cI (a0:Bool)(r:Int)(h:cG a0=some r):SC P 89 [db a0] [] (.agg [.nsl,di r]) []:=by
 unfold cG at h
 refine SC.intro3 (N:=6) Tryz.func89 rfl rfl Tryz.ntmps89 rfl ?_
 refine aa.sr (ab.evn (h':=[.live (.var [.nsl,di 0])]) [0] [(2,.ptr 0 0)] [] ?_)
 refine aa.seq ?_
 refine aa.sr (ab.ev0n [0] [(3,db a0)] [] ?_)
 refine aa.condI h rfl (fun hc1 h=>?_) (fun hc1 h=>?_)
 ·
  refine aa.sr (ab.evn (h':=[.live (.var [.nsl,di 1])]) [0,0] [] [] ?_)
  refine aa.ret ?_
  cases h
  exact ⟨_,(GStep.keep [2]),.inr rfl,Fin.mk2 (aB.one (.cellA rfl bq rfl rfl)) [] (by decide) rfl rfl rfl ⟨rfl,rfl,trivial⟩⟩
 refine aa.skip ?_
 refine aa.sr (ab.evn (h':=[.live (.var [.nsl,di 0])]) [0,0] [] [] ?_)
 refine aa.ret ?_
 cases h
 exact ⟨_,(GStep.keep [2]),.inr rfl,Fin.mk2 (aB.one (.cellA rfl bq rfl rfl)) [] (by decide) rfl rfl rfl ⟨rfl,rfl,trivial⟩⟩
noncomputable def nB:Option (List aL):=some cC
theorem pZ (r:List aL)(h:nB=some r):SC P 113 [] [] (.d (af 7 aE r)) []:=by
  cases h
  exact ws
noncomputable def l6 (a0:List ByteArray):Option ((List ByteArray)×Int×(List aL)×(List ByteArray)×Int):=((cG true).bind fun y1=>((nB).bind fun y2=>some (([(⟨#[65]⟩:ByteArray),(⟨#[66]⟩:ByteArray)]:List ByteArray),y1,y2,a0,0)))
set_option maxRecDepth 100000 in
set_option maxHeartbeats 4000000 in
theorem rQ (a0:List ByteArray)(r:(List ByteArray)×Int×(List aL)×(List ByteArray)×Int)(h:l6 a0=some r):SC P 38 [.d (af 1 eS a0)] [] (.agg [.d (af 1 eS r.1),.nsl,di r.2.1,.d (af 7 aE r.2.2.1),.d (af 1 eS r.2.2.2.1),.nsl,di r.2.2.2.2,.nsl,.nsl]) []:=by
 unfold l6 at h
 refine SC.intro3 (N:=10) Tryz.func38 rfl rfl Tryz.ntmps38 rfl ?_
 refine aa.sr (ab.evn (h':=[.live (.var [.nsl,.nsl,di 0,.nsl,.nsl,.nsl,di 0,.nsl,.nsl])]) [0] [(2,.ptr 0 0)] [] ?_)
 refine aa.seq ?_
 refine ao h fun y1 hy1 h=>?_
 refine aa.region ?_
 refine ab.step (v:=.agg [.nsl,di y1]) (ae.callS [] (cI true _ hy1) rfl rfl ⟨rfl,trivial⟩ (by decide) rfl rfl trivial) rfl rfl rfl ?_
 refine ab.evn (h':=[.live (.var [.nsl,.nsl,di 0,.nsl,.nsl,.nsl,di 0,.nsl,.nsl]),.live (.var [.nsl,di y1])]) [0,0] [(3,.ptr 1 0)] [] ?_
 refine aa.seq ?_
 refine ao h fun y2 hy2 h=>?_
 refine aa.regionAny mixed (s':=?s3) (qs:=[⟨[],[],[],[],[]⟩,⟨[3],[1],[],[],[]⟩,⟨[],[],[],[],[]⟩,⟨[0],[],[],[],[]⟩,⟨[5,6,7,8],[],[],[],[]⟩,⟨[2,9],[],[0],[],[]⟩]) ?_ (by kernel_rfl) ?_
 rotate_left
 ·
  refine Steps.runQ [] [] [] (v:=.d (af 1 eS ([(⟨#[65]⟩:ByteArray),(⟨#[66]⟩:ByteArray)]:List ByteArray))) (ae.bsliceX [.d (.str (⟨#[65]⟩:ByteArray)),.d (.str (⟨#[66]⟩:ByteArray))] [.d (.str (⟨#[65]⟩:ByteArray)),.d (.str (⟨#[66]⟩:ByteArray))] (row eS ([(⟨#[65]⟩:ByteArray),(⟨#[66]⟩:ByteArray)]:List ByteArray)) rfl qf yk rfl rfl (by kernel_rfl) ⟨rfl,rfl,trivial⟩ (by kernel_rfl) (by kernel_rfl)) rfl (by kernel_rfl) (by kernel_rfl) ?_
  refine Steps.runQ [3] [1] [] (ae.loadA rfl rfl bq rfl rfl) rfl (by kernel_rfl) (by kernel_rfl) ?_
  refine Steps.runQ [] [] [] (v:=.d (af 7 aE y2)) (ae.callS [] (pZ _ hy2) rfl rfl trivial (by decide) rfl rfl trivial) rfl (by kernel_rfl) (by kernel_rfl) ?_
  refine Steps.runQ [0] [] [] (v:=.d (af 1 eS a0)) (ae.move rfl rfl) rfl (by kernel_rfl) (by kernel_rfl) ?_
  refine Steps.runQ [5,6,7,8] [] [] (v:=.agg [.d (af 1 eS ([(⟨#[65]⟩:ByteArray),(⟨#[66]⟩:ByteArray)]:List ByteArray)),.nsl,di y1,.d (af 7 aE y2),.d (af 1 eS a0),.nsl,di 0,.nsl,.nsl]) (ae.build rfl fm An rfl) rfl (by kernel_rfl) (by kernel_rfl) ?_
  refine Steps.run [2,9] [] [0] [] [] (ae.store rfl rfl rfl en rfl rfl rfl rfl rfl) rfl (by kernel_rfl) (by kernel_rfl) (by kernel_rfl) (by kernel_rfl) ?_
  refine Steps.hp (h':=[.live (.var [.d (af 1 eS ([(⟨#[65]⟩:ByteArray),(⟨#[66]⟩:ByteArray)]:List ByteArray)),.nsl,di y1,.d (af 7 aE y2),.d (af 1 eS a0),.nsl,di 0,.nsl,.nsl]),.live (.var [.nsl,di y1])]) rfl ?_
  exact Steps.nil _
 refine aa.ret ?_
 cases h
 exact ⟨_,(GStep.trans (GStep.keep [2]) (GStep.ren [0] (by decide) rfl rfl)),.inr rfl,Fin.mk2 (aB.one (.cellA rfl en rfl rfl)) [] (by decide) rfl rfl rfl ⟨rfl,rfl,rfl,rfl,rfl,rfl,rfl,rfl,rfl,trivial⟩⟩
noncomputable def lx (a0:Int):Option aw:=some (⟨true,a0⟩:aw)
set_option maxRecDepth 100000 in
set_option maxHeartbeats 4000000 in
theorem pY (a0:Int)(r:aw)(h:lx a0=some r):SC P 40 [di a0] [] (.agg (bW r)) []:=by
 unfold lx at h
 refine SC.intro3 (N:=5) Tryz.func40 rfl rfl Tryz.ntmps40 rfl ?_
 refine aa.sr (ab.evn (h':=[.live (.var (bW (⟨false,0⟩:aw)))]) [0] [(2,.ptr 0 0)] [] ?_)
 refine aa.sr (ab.evn (h':=[.live (.var (bW (⟨true,a0⟩:aw)))]) [0,0,0] [] [] ?_)
 refine aa.ret ?_
 cases h
 exact ⟨_,(GStep.keep [2]),.inr rfl,Fin.mk2 (aB.one (.cellA rfl qk rfl rfl)) [] (by decide) rfl rfl rfl ⟨rfl,rfl,trivial⟩⟩
noncomputable def l8 (a0:ByteArray)(a1:Int)(a2:List aw):Option (ByteArray×Int×(List aw)×Int×Bool×Int×Bool×Int×Int×Int×Int):=((cG true).bind fun y1=>some (a0,a1,a2,y1,false,0,false,0,0,0,0))
set_option maxRecDepth 100000 in
set_option maxHeartbeats 4000000 in
theorem rS (a0:ByteArray)(a1:Int)(a2:List aw)(r:ByteArray×Int×(List aw)×Int×Bool×Int×Bool×Int×Int×Int×Int)(h:l8 a0 a1 a2=some r):SC P 39 [.d (.str a0),di a1,.d (af 2 ay a2)] [] (.agg [.d (.str r.1),di r.2.1,.d (af 2 ay r.2.2.1),.nsl,di r.2.2.2.1,db r.2.2.2.2.1,di r.2.2.2.2.2.1,.nsl,db r.2.2.2.2.2.2.1,di r.2.2.2.2.2.2.2.1,di r.2.2.2.2.2.2.2.2.1,di r.2.2.2.2.2.2.2.2.2.1,di r.2.2.2.2.2.2.2.2.2.2]) []:=by
 unfold l8 at h
 refine SC.intro3 (N:=12) Tryz.func39 rfl rfl Tryz.ntmps39 rfl ?_
 refine aa.sr (ab.evn (h':=[.live (.var [.d (.str (⟨#[]⟩:ByteArray)),di 0,.nsl,.nsl,di 0,db false,di 0,.nsl,db false,di 0,di 0,di 0,di 0])]) [0] [(6,.ptr 0 0)] [] ?_)
 refine aa.seq ?_
 refine ao h fun y1 hy1 h=>?_
 refine aa.region (ab.ev0 [0,0,0] [(7,.d (.str a0)),(8,di a1),(9,.d (af 2 ay a2))] [] ?_)
 refine ab.step (v:=.agg [.nsl,di y1]) (ae.callS [] (cI true _ hy1) rfl rfl ⟨rfl,trivial⟩ (by decide) rfl rfl trivial) rfl rfl rfl ?_
 refine ab.evn (h':=[.live (.var [.d (.str a0),di a1,.d (af 2 ay a2),.nsl,di y1,db false,di 0,.nsl,db false,di 0,di 0,di 0,di 0])]) [0,0] [] [] ?_
 refine aa.ret ?_
 cases h
 exact ⟨_,(GStep.keep [6]),.inr rfl,Fin.mk2 (aB.one (.cellA rfl n9 rfl rfl)) [] (by decide) rfl rfl rfl ⟨rfl,rfl,rfl,rfl,rfl,rfl,rfl,rfl,rfl,rfl,rfl,rfl,rfl,trivial⟩⟩
noncomputable def kx (a0:Int):Option (ap×Int):=(((if (decide (a0 < 0))=true then some true else some (decide (a0 > 63))):Option Bool).bind fun x3=>(if x3=true then some ((⟨[],0⟩:ap),1) else some ((⟨([(⟨a0,0,1⟩:ai)]:List ai),2⟩:ap),0)))
set_option maxRecDepth 100000 in
set_option maxHeartbeats 4000000 in
theorem ny (a0:Int)(r:ap×Int)(h:kx a0=some r):SC P 165 [di a0] [] (.tup [.agg (an r.1),di r.2]) []:=by
 unfold kx at h
 refine SC.intro3 (N:=15) Tryz.func165 rfl rfl Tryz.ntmps165 rfl ?_
 refine aa.sr (ab.evn (h':=[.live (.var [.nsl,di 0])]) [0,0] [(2,.ptr 0 0)] [] ?_)
 refine aa.seq ?_
 refine aa.seq ?_
 refine ao h fun x3 ho2 h=>?_
 refine aa.cut (Q':=fun e s'=>e = .normal∧s'=⟨[(0,di a0),(2,.ptr 0 0),(9,db x3)],[.live (.var [.nsl,di 0])]⟩) ?_ ?_
 ·
  have h:=ho2
  refine au h (fun hc1 h=>?_) (fun hc1 h=>?_)
  ·
   refine aa.region (ab.ev0n [0,0,0,2,0,0] [(9,db true)] [⟨_,hc1⟩] ?_)
   cases h
   exact ⟨_,(GStep.keep [0,2,9]),rfl,rfl⟩
  refine aa.region (ab.ev0n [0,0,0,1,0,0] [(9,db (decide (a0 > 63)))] [⟨_,hc1⟩] ?_)
  cases h
  exact ⟨_,(GStep.keep [0,2,9]),rfl,rfl⟩
 rintro e s' hq
 obtain ⟨rfl,rfl⟩:=hq
 refine aa.condI h rfl (fun hc4 h=>?_) (fun hc4 h=>?_)
 ·
  refine aa.sr (ab.evn (h':=[.live (.var [.nsl,di 0])]) [0,0,0] [(3,di 1)] [] ?_)
  refine aa.ret ?_
  cases h
  exact ⟨_,(GStep.keep [2,3]),.inr rfl,Fin.mk2 (aB.two (.cellA rfl bq rfl rfl) (.tmp rfl)) [] (by decide) rfl rfl rfl ⟨⟨trivial,rfl,trivial⟩,rfl,trivial⟩⟩
 refine aa.skip ?_
 refine aa.sr (ab.ev0 [0,0] [(12,.agg (aK (⟨a0,0,1⟩:ai)))] [] ?_)
 refine ab.step (v:=.d (af 3 ag ([(⟨a0,0,1⟩:ai)]:List ai))) (ae.bsliceX [di a0,di 0,di 1] [.d (.int .i64 a0),.d (.int .i64 0),.d (.int .i64 1)] (row ag ([(⟨a0,0,1⟩:ai)]:List ai)) rfl dP ji rfl rfl (by kernel_rfl) ⟨rfl,rfl,rfl,trivial⟩ (by kernel_rfl) (by kernel_rfl)) rfl rfl rfl ?_
 refine ab.evn (h':=[.live (.var (an (⟨([(⟨a0,0,1⟩:ai)]:List ai),2⟩:ap)))]) [0,0,0] [(3,di 0)] [] ?_
 refine aa.ret ?_
 cases h
 exact ⟨_,(GStep.keep [2,3]),.inr rfl,Fin.mk2 (aB.two (.cellA rfl bq rfl rfl) (.tmp rfl)) [] (by decide) rfl rfl rfl ⟨⟨rfl,rfl,trivial⟩,rfl,trivial⟩⟩
noncomputable def fR (a0:Int)(a1:Int)(a2:List ai)(a3:Int)(a4:List ai)(a5:Int)(a6:Int):Option Int:=(if (decide (a6=0))=true then some (IntKind.wrap .i64 (a0*a1)) else (if (decide (a6=1))=true then some (if a1 > a0 then a1 else a0) else some (Int.tmod (IntKind.wrap .i64 (a0+a1)) 2)))
set_option maxRecDepth 100000 in
set_option maxHeartbeats 4000000 in
theorem kj (a0:Int)(a1:Int)(a2:List ai)(a3:Int)(a4:List ai)(a5:Int)(a6:Int)(r:Int)(h:fR a0 a1 a2 a3 a4 a5 a6=some r):SC P 230 [.ptr 0 0,di a0,di a1] [(.var [.d (af 3 ag a2),di a3,.d (af 3 ag a4),di a5,di a6,.nsl,.nsl])] (di r) [.live (.var [.d (af 3 ag a2),di a3,.d (af 3 ag a4),di a5,di a6,.nsl,.nsl])]:=by
 unfold fR at h
 refine SC.intro3 (N:=25) Tryz.func230 rfl rfl Tryz.ntmps230 rfl ?_
 refine aa.sr (ab.ev0n [0] [] [] ?_)
 refine aa.seq ?_
 refine aa.sr (ab.ev0n [0,0,0,0] [(10,di a6)] [] ?_)
 refine aa.block ?_
 refine aa.sr (ab.ev0n [0,0] [(11,db (decide (a6=0)))] [] ?_)
 refine aa.condI h rfl (fun hc1 h=>?_) (fun hc1 h=>?_)
 ·
  refine aa.sr (ab.ev0n [0,0,0,0] [(6,di (IntKind.wrap .i64 (a0*a1)))] [] ?_)
  refine aa.ret ?_
  cases h
  exact ⟨_,(GStep.keep [6]),.inr rfl,Fin.mk2 (aB.one (.tmp rfl)) [0] (by decide) rfl rfl rfl rfl⟩
 refine aa.sr (ab.ev0n [0,0] [(16,db (decide (a6=1)))] [] ?_)
 refine aa.condI h rfl (fun hc2 h=>?_) (fun hc2 h=>?_)
 ·
  refine aa.sr (ab.ev0 [0,0] [(18,di a0),(19,di a1)] [] ?_)
  refine ab.step (v:=di (if a1 > a0 then a1 else a0)) (jC rfl rfl) rfl rfl rfl ?_
  refine ab.ev0n [0] [(6,di (if a1 > a0 then a1 else a0))] [] ?_
  refine aa.ret ?_
  cases h
  exact ⟨_,(GStep.keep [6]),.inr rfl,Fin.mk2 (aB.one (.tmp rfl)) [0] (by decide) rfl rfl rfl rfl⟩
 refine aa.skip ?_
 refine aa.sr (ab.ev0n [0,0,0,0,0] [(6,di (Int.tmod (IntKind.wrap .i64 (a0+a1)) 2))] [] ?_)
 refine aa.ret ?_
 cases h
 exact ⟨_,(GStep.keep [6]),.inr rfl,Fin.mk2 (aB.one (.tmp rfl)) [0] (by decide) rfl rfl rfl rfl⟩
noncomputable def dO (a0:ap)(a1:Int):Option Int:=(if (decide (a1 < 2))=true then some 64 else (if (0:Int)≤(IntKind.wrap .i64 (a1 - 2))∧(IntKind.wrap .i64 (a1 - 2)) < (a0.nodes.length:Int) then some ((nth a0.nodes (IntKind.wrap .i64 (a1 - 2))).var) else none))
set_option maxRecDepth 100000 in
set_option maxHeartbeats 4000000 in
theorem cT (a0:ap)(a1:Int)(r:Int)(h:dO a0 a1=some r):SC P 231 [.agg (an a0),di a1] [] (di r) []:=by
 unfold dO at h
 refine SC.intro3 (N:=14) Tryz.func231 rfl rfl Tryz.ntmps231 rfl ?_
 refine aa.sr (ab.evn (h':=[.live (.var (an a0))]) [0,0] [(2,.ptr 0 0)] [] ?_)
 refine aa.seq ?_
 refine aa.sr (ab.ev0n [0,0] [(6,db (decide (a1 < 2)))] [] ?_)
 refine aa.condI h rfl (fun hc1 h=>?_) (fun hc1 h=>?_)
 ·
  refine aa.sr (ab.ev0n [0] [(4,di 64)] [] ?_)
  refine aa.ret ?_
  cases h
  exact ⟨_,(GStep.trans (GStep.keep [4]) (GStep.ren [] (by decide) rfl rfl)),.inr rfl,Fin.mk2 (aB.one (.tmp rfl)) [] (by decide) rfl rfl rfl rfl⟩
 refine aa.skip ?_
 refine aa.seq ?_
 refine aD h fun hb2 h=>?_
 refine aa.region (ab.ev0n [0,0,0,0,0,0,0,0] [(4,di ((nth a0.nodes (IntKind.wrap .i64 (a1 - 2))).var))] [⟨_,hb2.1⟩,⟨_,hb2.2⟩] ?_)
 refine aa.ret ?_
 cases h
 exact ⟨_,(GStep.trans (GStep.keep [4]) (GStep.ren [] (by decide) rfl rfl)),.inr rfl,Fin.mk2 (aB.one (.tmp rfl)) [] (by decide) rfl rfl rfl rfl⟩
noncomputable def fX (a0:ap)(a1:Int)(a2:Int):Option (Int×Int):=((dO a0 a1).bind fun y1=>(if (!decide (y1=a2))=true then some (a1,a1) else (if (0:Int)≤(IntKind.wrap .i64 (a1 - 2))∧(IntKind.wrap .i64 (a1 - 2)) < (a0.nodes.length:Int) then (if (0:Int)≤(IntKind.wrap .i64 (a1 - 2))∧(IntKind.wrap .i64 (a1 - 2)) < (a0.nodes.length:Int) then some ((nth a0.nodes (IntKind.wrap .i64 (a1 - 2))).low,(nth a0.nodes (IntKind.wrap .i64 (a1 - 2))).high) else none) else none)))
set_option maxRecDepth 100000 in
set_option maxHeartbeats 4000000 in
theorem gw (a0:ap)(a1:Int)(a2:Int)(r:Int×Int)(h:fX a0 a1 a2=some r):SC P 232 [.agg (an a0),di a1,di a2] [] (.tup [di r.1,di r.2]) []:=by
 unfold fX at h
 refine SC.intro3 (N:=29) Tryz.func232 rfl rfl Tryz.ntmps232 rfl ?_
 refine aa.sr (ab.evn (h':=[.live (.var (an a0))]) [0,0,0] [(3,.ptr 0 0)] [] ?_)
 refine aa.seq ?_
 refine aa.seq ?_
 refine ao h fun y1 hy1 h=>?_
 refine aa.region (ab.ev0 [0,0] [(8,.agg (an a0)),(9,di a1)] [] ?_)
 refine ab.step (v:=di y1) (ae.callS [] (cT a0 a1 _ hy1) rfl rfl ⟨⟨rfl,rfl,trivial⟩,rfl,trivial⟩ (by decide) rfl rfl trivial) rfl rfl rfl ?_
 refine ab.ev0n [0,0] [(12,db (!decide (y1=a2)))] [] ?_
 refine aa.condI h rfl (fun hc2 h=>?_) (fun hc2 h=>?_)
 ·
  refine aa.sr (ab.ev0n [0,0,0,0] [(6,di a1),(7,di a1)] [] ?_)
  refine aa.ret ?_
  cases h
  exact ⟨_,(GStep.trans (GStep.keep [6,7]) (GStep.ren [] (by decide) rfl rfl)),.inr rfl,Fin.mk2 (aB.two (.tmp rfl) (.tmp rfl)) [] (by decide) rfl rfl rfl ⟨rfl,rfl,trivial⟩⟩
 refine aa.skip ?_
 refine aa.seq ?_
 refine aD h fun hb3 h=>?_
 refine aD h fun hb4 h=>?_
 refine aa.regionAny mixed (s':=?s5) (qs:=[⟨[3],[],[],[0],[]⟩,⟨[15],[0],[],[],[]⟩,⟨[1],[],[],[],[]⟩,⟨[17],[],[],[],[]⟩,⟨[16,18],[],[],[],[]⟩,⟨[19],[],[],[],[]⟩,⟨[20],[],[],[],[]⟩,⟨[3],[],[],[0],[]⟩,⟨[22],[0],[],[],[]⟩,⟨[1],[],[],[],[]⟩,⟨[24],[],[],[],[]⟩,⟨[23,25],[],[],[],[]⟩,⟨[26],[],[],[],[]⟩,⟨[27],[],[],[],[]⟩,⟨[21],[],[],[],[]⟩,⟨[28],[],[],[],[]⟩]) ?_ (by kernel_rfl) ?_
 rotate_left
 ·
  refine Steps.runQ [3] [] [0] (v:=.ptr 0 0) (ae.fieldAddr (id:=0) (off:=0) (fo:=0) rfl rfl mg rfl rfl) rfl (by kernel_rfl) (by kernel_rfl) ?_
  refine Steps.runQ [15] [0] [] (v:=.d (af 3 ag a0.nodes)) (ae.load rfl rfl gN rfl rfl) rfl (by kernel_rfl) (by kernel_rfl) ?_
  refine Steps.runQ [1] [] [] (v:=di a1) (ae.move rfl rfl) rfl (by kernel_rfl) (by kernel_rfl) ?_
  refine Steps.runQ [17] [] [] (v:=di (IntKind.wrap .i64 (a1 - 2))) (ae.subI (k:=.i64) (m:=a1) (n:=2) rfl rfl rfl) rfl (by kernel_rfl) (by kernel_rfl) ?_
  refine Steps.runQ [16,18] [] [] (ae.index rfl rfl rfl dP hb3.1 hb3.2) rfl (by kernel_rfl) (by kernel_rfl) ?_
  refine Steps.runQ [19] [] [] (ae.fieldAddrV rfl rfl dn rfl rfl) rfl (by kernel_rfl) (by kernel_rfl) ?_
  refine Steps.runQ [20] [] [] (ae.loadV rfl rfl aX rfl) rfl (by kernel_rfl) (by kernel_rfl) ?_
  refine Steps.runQ [3] [] [0] (v:=.ptr 0 0) (ae.fieldAddr (id:=0) (off:=0) (fo:=0) rfl rfl mg rfl rfl) rfl (by kernel_rfl) (by kernel_rfl) ?_
  refine Steps.runQ [22] [0] [] (v:=.d (af 3 ag a0.nodes)) (ae.load rfl rfl gN rfl rfl) rfl (by kernel_rfl) (by kernel_rfl) ?_
  refine Steps.runQ [1] [] [] (v:=di a1) (ae.move rfl rfl) rfl (by kernel_rfl) (by kernel_rfl) ?_
  refine Steps.runQ [24] [] [] (v:=di (IntKind.wrap .i64 (a1 - 2))) (ae.subI (k:=.i64) (m:=a1) (n:=2) rfl rfl rfl) rfl (by kernel_rfl) (by kernel_rfl) ?_
  refine Steps.runQ [23,25] [] [] (ae.index rfl rfl rfl dP hb4.1 hb4.2) rfl (by kernel_rfl) (by kernel_rfl) ?_
  refine Steps.runQ [26] [] [] (ae.fieldAddrV rfl rfl dn rfl rfl) rfl (by kernel_rfl) (by kernel_rfl) ?_
  refine Steps.runQ [27] [] [] (ae.loadV rfl rfl aX rfl) rfl (by kernel_rfl) (by kernel_rfl) ?_
  refine Steps.runQ [21] [] [] (v:=di ((nth a0.nodes (IntKind.wrap .i64 (a1 - 2))).low)) (ae.assign rfl rfl) rfl (by kernel_rfl) (by kernel_rfl) ?_
  refine Steps.runQ [28] [] [] (v:=di ((nth a0.nodes (IntKind.wrap .i64 (a1 - 2))).high)) (ae.assign rfl rfl) rfl (by kernel_rfl) (by kernel_rfl) ?_
  exact Steps.nil _
 refine aa.ret ?_
 cases h
 exact ⟨_,(GStep.trans (GStep.keep [6,7]) (GStep.ren [] (by decide) rfl rfl)),.inr rfl,Fin.mk2 (aB.two (.tmp rfl) (.tmp rfl)) [] (by decide) rfl rfl rfl ⟨rfl,rfl,trivial⟩⟩
noncomputable def dU (k:Nat)(a0:ai)(a1:List ai)(v:Int):Option ((Int×(List ai))⊕Unit):=match k,v with
  | 0,_=>none
  | k+1,v0_0=>(if (decide (v0_0 < (a1.length:Int)))=true then (if (0:Int)≤v0_0∧v0_0 < (a1.length:Int) then (if ((decide ((a1.getD (Int.toNat v0_0) default).var=a0.var))&&((decide ((a1.getD (Int.toNat v0_0) default).low=a0.low))&&(decide ((a1.getD (Int.toNat v0_0) default).high=a0.high))))=true then some (.inl ((IntKind.wrap .i64 (v0_0+2)),a1)) else (dU k a0 a1 (IntKind.wrap .i64 (v0_0+1)))) else none) else some (.inr ()))
theorem km:type_of% (@dU.eq_2):=@dU.eq_2
noncomputable def ir (k:Nat)(a0:ai)(a1:List ai):Option (Int×(List ai)):=(if (decide (a0.low=a0.high))=true then some (a0.low,a1) else (((dU k a0 a1 0):Option ((Int×(List ai))⊕Unit)).bind fun o10=>match o10 with | .inl r7=>(some r7) | .inr x8=>(if (a1.length+([a0]:List ai).length)*24≤140737488355328 then some ((IntKind.wrap .i64 (((a1++([a0]:List ai)).length:Int)+1)),(a1++([a0]:List ai))) else none)))
set_option maxRecDepth 100000 in
set_option maxHeartbeats 4000000 in
theorem ky (k:Nat)(a0:ai)(a1:List ai)(r:Int×(List ai))(h:ir k a0 a1=some r):SC P 233 [.osl 0 0 a1.length 3,.agg (aK a0)] [(.arr 3 a1.length false (row ag a1))] (.tup [.osl 1 0 r.2.length 3,di r.1]) [.freed,.live (.arr 3 r.2.length false (row ag r.2))]:=by
 unfold ir at h
 refine SC.intro3 (N:=38) Tryz.func233 rfl rfl Tryz.ntmps233 rfl ?_
 refine aa.sr (ab.evn (h':=[.live (.arr 3 a1.length false (row ag a1)),.live (.var (aK a0))]) [0,0,0] [(3,.ptr 1 0)] [] ?_)
 refine aa.seq ?_
 refine aa.sr (ab.ev0n [0,0,0,0,0] [(11,db (decide (a0.low=a0.high)))] [] ?_)
 refine aa.condI h rfl (fun hc1 h=>?_) (fun hc1 h=>?_)
 ·
  refine aa.seq ?_
  refine aa.regionAny mixed (s':=?s2) (qs:=[⟨[0],[],[],[0],[]⟩,⟨[3],[],[],[1],[]⟩,⟨[13],[1],[],[],[]⟩,⟨[12],[],[],[0],[]⟩,⟨[14],[],[],[],[]⟩]) ?_ (by kernel_rfl) ?_
  rotate_left
  ·
   refine Steps.runQ [0] [] [0] (v:=.osl 0 0 a1.length 3) (ae.move rfl rfl) rfl (by kernel_rfl) (by kernel_rfl) ?_
   refine Steps.runQ [3] [] [1] (v:=.ptr 1 1) (ae.fieldAddr (id:=1) (off:=0) (fo:=1) rfl rfl dn rfl rfl) rfl (by kernel_rfl) (by kernel_rfl) ?_
   refine Steps.runQ [13] [1] [] (v:=di a0.low) (ae.load rfl rfl aX rfl rfl) rfl (by kernel_rfl) (by kernel_rfl) ?_
   refine Steps.runQ [12] [] [0] (v:=.osl 0 0 a1.length 3) (ae.assign rfl rfl) rfl (by kernel_rfl) (by kernel_rfl) ?_
   refine Steps.runQ [14] [] [] (v:=di a0.low) (ae.assign rfl rfl) rfl (by kernel_rfl) (by kernel_rfl) ?_
   exact Steps.nil _
  refine aa.ret ?_
  cases h
  exact ⟨_,(GStep.trans (GStep.keep [4,5]) (GStep.trans (GStep.reid 0 rfl) (GStep.ren [0,2] (by decide) rfl rfl))),.inr rfl,Fin.mk2 (aB.two (.tmp rfl) (.tmp rfl)) [0,1] (by decide) rfl rfl rfl ⟨rfl,rfl,trivial⟩⟩
 refine aa.skip ?_
 refine aa.seq ?_
 refine aa.sr (ab.ev0n [0] [(6,di 0)] [] ?_)
 refine aa.block ?_
 refine ao h fun o10 ho10 h=>?_
 refine aa.cut (Q':=fun e s'=>match o10 with | .inl r7=>((e = .ret)∧Fin P (Tryz.f233.results) 1 [.freed,.live (.arr 3 r7.2.length false (row ag r7.2))] (.tup [.osl 1 0 r7.2.length 3,di r7.1]) s') | .inr x8=>(e = .exit 0∧s'=⟨[(0,.osl 0 0 a1.length 3),(3,.ptr 1 0)],[.live (.arr 3 a1.length false (row ag a1)),.live (.var (aK a0))]⟩)) ?_ ?_
 ·
  have h:=ho10
  refine aa.ghost (GStep.keep [0,3,6]) ?_
  refine aa.loopI (F:=fun k v=>dU k a0 a1 v) (fun v=>⟨[(0,.osl 0 0 a1.length 3),(3,.ptr 1 0),(6,di v)],[.live (.arr 3 a1.length false (row ag a1)),.live (.var (aK a0))]⟩) (k:=k) (v:=0) h rfl (fun _=>rfl) ?_
  intro k v0_0 ih h
  have h:=(km ..).symm.trans h
  refine aa.seq ?_
  refine aa.sr (ab.ev0n [0,0,0,0] [(18,db (decide (v0_0 < (a1.length:Int))))] [] ?_)
  refine aa.condI h rfl (fun hc3 h=>?_) (fun hc3 h=>?_)
  ·
   refine aa.skip ?_
   refine aa.seq ?_
   refine aa.block ?_
   refine aa.seq ?_
   refine aD h fun hb4 h=>?_
   refine aa.regionAny mixed (s':=?s6) (qs:=[⟨[0],[],[],[0],[]⟩,⟨[6],[],[],[],[]⟩,⟨[21,22],[],[],[0],[]⟩,⟨[23],[0],[],[],[]⟩,⟨[3],[1],[],[],[]⟩,⟨[24,25],[],[],[],[]⟩]) ?_ (by kernel_rfl) ?_
   rotate_left
   ·
    refine Steps.runQ [0] [] [0] (v:=.osl 0 0 a1.length 3) (ae.move rfl rfl) rfl (by kernel_rfl) (by kernel_rfl) ?_
    refine Steps.runQ [6] [] [] (v:=di v0_0) (ae.move rfl rfl) rfl (by kernel_rfl) (by kernel_rfl) ?_
    refine Steps.runQ [21,22] [] [0] (v:=.eptr 0 (Int.toNat v0_0) 0 3) (ae.indexO0 rfl rfl rfl dP hb4.1 hb4.2) rfl (by kernel_rfl) (by kernel_rfl) ?_
    refine Steps.runQ [23] [0] [] (ae.loadEA rfl rfl jh rfl (by have:=hb4; omega) rfl) rfl (by kernel_rfl) (by kernel_rfl) ?_
    refine Steps.runQ [3] [1] [] (ae.loadA rfl rfl jh rfl rfl) rfl (by kernel_rfl) (by kernel_rfl) ?_
    refine Steps.runQ [24,25] [] [] (v:=db ((decide ((a1.getD (Int.toNat v0_0) default).var=a0.var))&&((decide ((a1.getD (Int.toNat v0_0) default).low=a0.low))&&(decide ((a1.getD (Int.toNat v0_0) default).high=a0.high))))) (ae.eqlA [.int .i64 ((a1.getD (Int.toNat v0_0) default).var),.int .i64 ((a1.getD (Int.toNat v0_0) default).low),.int .i64 ((a1.getD (Int.toNat v0_0) default).high)] [.int .i64 a0.var,.int .i64 a0.low,.int .i64 a0.high] rfl rfl rfl pt rfl rfl) rfl (by kernel_rfl) (by kernel_rfl) ?_
    exact Steps.nil _
   refine aa.condI h rfl (fun hc5 h=>?_) (fun hc5 h=>?_)
   ·
    refine aa.sr (ab.ev0n [0,0,0,0,0] [(4,.osl 0 0 a1.length 3),(5,di (IntKind.wrap .i64 (v0_0+2)))] [] ?_)
    refine aa.ret ?_
    cases h
    exact ⟨_,(GStep.trans (GStep.keep [4,5]) (GStep.trans (GStep.reid 0 rfl) (GStep.ren [0,2] (by decide) rfl rfl))),rfl,Fin.mk2 (aB.two (.tmp rfl) (.tmp rfl)) [0,1] (by decide) rfl rfl rfl ⟨rfl,rfl,trivial⟩⟩
   refine aa.skip ?_
   refine aa.region (ab.ev0n [0,0,0] [(6,di (IntKind.wrap .i64 (v0_0+1)))] [] ?_)
   exact aM.ghost (GStep.keep [0,3,6]) (ih (IntKind.wrap .i64 (v0_0+1)) h)
  refine aa.exit ?_
  cases h
  exact ⟨_,(GStep.keep [0,3]),rfl,rfl⟩
 rcases o10 with r7 | x8
 ·
  rintro e s' hq
  obtain ⟨rfl,hq⟩:=hq
  cases h
  exact ⟨_,GStep.refl _ _,.inr rfl,hq⟩
 rintro e s' hq
 obtain ⟨rfl,rfl⟩:=hq
 refine aa.seq ?_
 refine aD h fun hz9 h=>?_
 refine aa.region (ab.ev0 [0,0] [(30,.osl 0 0 a1.length 3),(31,.agg (aK a0))] [] ?_)
 refine ab.step (v:=.d (af 3 ag ([a0]:List ai))) (ae.bsliceX [di a0.var,di a0.low,di a0.high] [.d (.int .i64 a0.var),.d (.int .i64 a0.low),.d (.int .i64 a0.high)] (row ag ([a0]:List ai)) rfl dP ji rfl rfl (by kernel_rfl) ⟨rfl,rfl,rfl,trivial⟩ (by kernel_rfl) (by kernel_rfl)) rfl rfl rfl ?_
 refine ab.step (v:=.osl 2 0 ((a1++([a0]:List ai)).length) 3) (ae.appTn ag a1 ([a0]:List ai) rfl rfl rfl rfl rfl dP mY pF rfl hz9) rfl rfl rfl ?_
 refine ab.hp (h':=[.freed,.live (.var (aK a0)),.live (.arr 3 ((a1++([a0]:List ai)).length) false (row ag (a1++([a0]:List ai))))]) (by kernel_rfl) ?_
 refine ab.ev0n [0] [(0,.osl 2 0 ((a1++([a0]:List ai)).length) 3)] [] ?_
 refine aa.sr (ab.ev0n [0,0,0,0,0,0] [(4,.osl 2 0 ((a1++([a0]:List ai)).length) 3),(5,di (IntKind.wrap .i64 (((a1++([a0]:List ai)).length:Int)+1)))] [] ?_)
 refine aa.ret ?_
 cases h
 exact ⟨_,(GStep.trans (GStep.keep [4,5]) (GStep.ren [0,2] (by decide) rfl rfl)),.inr rfl,Fin.mk2 (aB.two (.tmp rfl) (.tmp rfl)) [0,1] (by decide) rfl rfl rfl ⟨rfl,rfl,trivial⟩⟩
noncomputable def eN (a0:Int)(a1:Int)(a2:List ai)(a3:Int)(a4:List ai)(a5:Int)(a6:Int)(a7:List ai)(a8:List aR):Option Int:=(if (decide (a6=0))=true then some (IntKind.wrap .i64 (a0*a1)) else (if (decide (a6=1))=true then some (if a1 > a0 then a1 else a0) else some (Int.tmod (IntKind.wrap .i64 (a0+a1)) 2)))
set_option maxRecDepth 100000 in
set_option maxHeartbeats 4000000 in
theorem jq (a0:Int)(a1:Int)(a2:List ai)(a3:Int)(a4:List ai)(a5:Int)(a6:Int)(a7:List ai)(a8:List aR)(r:Int)(h:eN a0 a1 a2 a3 a4 a5 a6 a7 a8=some r):SC P 230 [.ptr 0 0,di a0,di a1] [(.var [.d (af 3 ag a2),di a3,.d (af 3 ag a4),di a5,di a6,.osl 1 0 a7.length 3,.osl 2 0 a8.length 3]),(.arr 3 a7.length false (row ag a7)),(.arr 3 a8.length false (row aZ a8))] (di r) [.live (.var [.d (af 3 ag a2),di a3,.d (af 3 ag a4),di a5,di a6,.osl 1 0 a7.length 3,.osl 2 0 a8.length 3]),.live (.arr 3 a7.length false (row ag a7)),.live (.arr 3 a8.length false (row aZ a8))]:=by
 unfold eN at h
 refine SC.intro3 (N:=25) Tryz.func230 rfl rfl Tryz.ntmps230 rfl ?_
 refine aa.sr (ab.ev0n [0] [] [] ?_)
 refine aa.seq ?_
 refine aa.sr (ab.ev0n [0,0,0,0] [(10,di a6)] [] ?_)
 refine aa.block ?_
 refine aa.sr (ab.ev0n [0,0] [(11,db (decide (a6=0)))] [] ?_)
 refine aa.condI h rfl (fun hc1 h=>?_) (fun hc1 h=>?_)
 ·
  refine aa.sr (ab.ev0n [0,0,0,0] [(6,di (IntKind.wrap .i64 (a0*a1)))] [] ?_)
  refine aa.ret ?_
  cases h
  exact ⟨_,(GStep.keep [6]),.inr rfl,Fin.mk2 (aB.one (.tmp rfl)) [0,1,2] (by decide) rfl rfl rfl rfl⟩
 refine aa.sr (ab.ev0n [0,0] [(16,db (decide (a6=1)))] [] ?_)
 refine aa.condI h rfl (fun hc2 h=>?_) (fun hc2 h=>?_)
 ·
  refine aa.sr (ab.ev0 [0,0] [(18,di a0),(19,di a1)] [] ?_)
  refine ab.step (v:=di (if a1 > a0 then a1 else a0)) (jC rfl rfl) rfl rfl rfl ?_
  refine ab.ev0n [0] [(6,di (if a1 > a0 then a1 else a0))] [] ?_
  refine aa.ret ?_
  cases h
  exact ⟨_,(GStep.keep [6]),.inr rfl,Fin.mk2 (aB.one (.tmp rfl)) [0,1,2] (by decide) rfl rfl rfl rfl⟩
 refine aa.skip ?_
 refine aa.sr (ab.ev0n [0,0,0,0,0] [(6,di (Int.tmod (IntKind.wrap .i64 (a0+a1)) 2))] [] ?_)
 refine aa.ret ?_
 cases h
 exact ⟨_,(GStep.keep [6]),.inr rfl,Fin.mk2 (aB.one (.tmp rfl)) [0,1,2] (by decide) rfl rfl rfl rfl⟩
noncomputable def cH (k:Nat)(a0:Int)(a1:Int)(a2:List ai)(a3:Int)(a4:List ai)(a5:Int)(a6:Int)(a7:List ai)(a8:List aR)(v:Int):Option ((Int×(List ai)×(List aR))⊕Unit):=match k,v with
  | 0,_=>none
  | k+1,v0_0=>(if (decide (v0_0 < (a8.length:Int)))=true then (((if (0:Int)≤v0_0∧v0_0 < (a8.length:Int) then (if (decide ((a8.getD (Int.toNat v0_0) default).a0=a0))=true then (if (0:Int)≤v0_0∧v0_0 < (a8.length:Int) then some (decide ((a8.getD (Int.toNat v0_0) default).a1=a1)) else none) else some false) else none):Option Bool).bind fun x11=>(if x11=true then (if (0:Int)≤v0_0∧v0_0 < (a8.length:Int) then some (.inl ((a8.getD (Int.toNat v0_0) default).a2,a7,a8)) else none) else (cH k a0 a1 a2 a3 a4 a5 a6 a7 a8 (IntKind.wrap .i64 (v0_0+1))))) else some (.inr ()))
theorem iP:type_of% (@cH.eq_2):=@cH.eq_2
noncomputable def du:(k:Nat)→(a0:Int)→(a1:Int)→(a2:List ai)→(a3:Int)→(a4:List ai)→(a5:Int)→(a6:Int)→(a7:List ai)→(a8:List aR)→Option (Int×(List ai)×(List aR))
  | 0,_,_,_,_,_,_,_,_,_=>none
  | k+1,a0,a1,a2,a3,a4,a5,a6,a7,a8=>(((if (decide (a0 < 2))=true then some (decide (a1 < 2)) else some false):Option Bool).bind fun x3=>(if x3=true then ((eN a0 a1 a2 a3 a4 a5 a6 a7 a8).bind fun y5=>some (y5,a7,a8)) else (((cH k a0 a1 a2 a3 a4 a5 a6 a7 a8 0):Option ((Int×(List ai)×(List aR))⊕Unit)).bind fun o25=>match o25 with | .inl r14=>(some r14) | .inr x15=>((dO (⟨a2,a3⟩:ap) a0).bind fun y16=>((dO (⟨a4,a5⟩:ap) a1).bind fun y17=>((fX (⟨a2,a3⟩:ap) a0 (if y17 < y16 then y17 else y16)).bind fun y18=>((fX (⟨a4,a5⟩:ap) a1 (if y17 < y16 then y17 else y16)).bind fun y19=>((du k y18.1 y19.1 a2 a3 a4 a5 a6 a7 a8).bind fun y20=>((du k y18.2 y19.2 a2 a3 a4 a5 a6 y20.2.1 y20.2.2).bind fun y21=>((ir k (⟨(if y17 < y16 then y17 else y16),y20.1,y21.1⟩:ai) y21.2.1).bind fun y22=>(if (y21.2.2.length+([(⟨a0,a1,y22.1⟩:aR)]:List aR).length)*24≤140737488355328 then some (y22.1,y22.2,(y21.2.2++([(⟨a0,a1,y22.1⟩:aR)]:List aR))) else none)))))))))))
theorem k7:type_of% (@du.eq_2):=@du.eq_2
set_option maxRecDepth 100000 in
set_option maxHeartbeats 4000000 in
theorem l5 (k:Nat)(a0:Int)(a1:Int)(a2:List ai)(a3:Int)(a4:List ai)(a5:Int)(a6:Int)(a7:List ai)(a8:List aR)(r:Int×(List ai)×(List aR))(h:du k a0 a1 a2 a3 a4 a5 a6 a7 a8=some r):SC P 213 [.ptr 0 0,di a0,di a1] [(.var [.d (af 3 ag a2),di a3,.d (af 3 ag a4),di a5,di a6,.osl 1 0 a7.length 3,.osl 2 0 a8.length 3]),(.arr 3 a7.length false (row ag a7)),(.arr 3 a8.length false (row aZ a8))] (di r.1) [.live (.var [.d (af 3 ag a2),di a3,.d (af 3 ag a4),di a5,di a6,.osl 3 0 r.2.1.length 3,.osl 4 0 r.2.2.length 3]),.freed,.freed,.live (.arr 3 r.2.1.length false (row ag r.2.1)),.live (.arr 3 r.2.2.length false (row aZ r.2.2))]:=by
 induction k generalizing a0 a1 a2 a3 a4 a5 a6 a7 a8 r with
 | zero=>
  have h:(none:Option (Int×(List ai)×(List aR)))=some r:=h
  cases h
 | succ k ihr=>
 have h:=(k7 ..).symm.trans h
 refine SC.intro3 (N:=137) Tryz.func213 rfl rfl Tryz.ntmps213 rfl ?_
 refine aa.sr (ab.ev0n [0] [] [] ?_)
 refine aa.seq ?_
 refine aa.seq ?_
 refine ao h fun x3 ho2 h=>?_
 refine aa.cut (Q':=fun e s'=>e = .normal∧s'=⟨[(0,.ptr 0 0),(1,di a0),(2,di a1),(22,db x3)],[.live (.var [.d (af 3 ag a2),di a3,.d (af 3 ag a4),di a5,di a6,.osl 1 0 a7.length 3,.osl 2 0 a8.length 3]),.live (.arr 3 a7.length false (row ag a7)),.live (.arr 3 a8.length false (row aZ a8))]⟩) ?_ ?_
 ·
  have h:=ho2
  refine au h (fun hc1 h=>?_) (fun hc1 h=>?_)
  ·
   refine aa.region (ab.ev0n [0,0,0,1,0,0] [(22,db (decide (a1 < 2)))] [⟨_,hc1⟩] ?_)
   cases h
   exact ⟨_,(GStep.keep [0,1,2,22]),rfl,rfl⟩
  refine aa.region (ab.ev0n [0,0,0,2,0,0] [(22,db false)] [⟨_,hc1⟩] ?_)
  cases h
  exact ⟨_,(GStep.keep [0,1,2,22]),rfl,rfl⟩
 rintro e s' hq
 obtain ⟨rfl,rfl⟩:=hq
 refine aa.condI h rfl (fun hc4 h=>?_) (fun hc4 h=>?_)
 ·
  refine aa.seq ?_
  refine ao h fun y5 hy5 h=>?_
  refine aa.region (ab.ev0 [0,0,0] [(23,.ptr 0 0),(24,di a0),(25,di a1)] [] ?_)
  refine ab.step (v:=di y5) (ae.callS [0,1,2] (jq a0 a1 a2 a3 a4 a5 a6 a7 a8 _ hy5) rfl rfl ⟨rfl,rfl,rfl,trivial⟩ (by decide) rfl rfl ⟨⟨rfl,rfl⟩,⟨rfl,rfl⟩,⟨rfl,rfl⟩,trivial⟩) rfl rfl rfl ?_
  refine ab.ev0n [0] [(6,di y5)] [] ?_
  refine aa.ret ?_
  cases h
  exact ⟨_,(GStep.trans (GStep.keep [6]) (GStep.trans (GStep.reid 1 rfl) (GStep.reid 2 rfl))),.inr rfl,Fin.mk2 (aB.one (.tmp rfl)) [0,1,2,3,4] (by decide) rfl rfl rfl rfl⟩
 refine aa.skip ?_
 refine aa.seq ?_
 refine aa.sr (ab.ev0n [0] [(7,di 0)] [] ?_)
 refine aa.block ?_
 refine ao h fun o25 ho25 h=>?_
 refine aa.cut (Q':=fun e s'=>match o25 with | .inl r14=>((e = .ret)∧Fin P (Tryz.f213.results) 3 [.live (.var [.d (af 3 ag a2),di a3,.d (af 3 ag a4),di a5,di a6,.osl 3 0 r14.2.1.length 3,.osl 4 0 r14.2.2.length 3]),.freed,.freed,.live (.arr 3 r14.2.1.length false (row ag r14.2.1)),.live (.arr 3 r14.2.2.length false (row aZ r14.2.2))] (di r14.1) s') | .inr x15=>(e = .exit 0∧s'=⟨[(0,.ptr 0 0),(1,di a0),(2,di a1)],[.live (.var [.d (af 3 ag a2),di a3,.d (af 3 ag a4),di a5,di a6,.osl 1 0 a7.length 3,.osl 2 0 a8.length 3]),.live (.arr 3 a7.length false (row ag a7)),.live (.arr 3 a8.length false (row aZ a8))]⟩)) ?_ ?_
 ·
  have h:=ho25
  refine aa.ghost (GStep.keep [0,1,2,7]) ?_
  refine aa.loopI (F:=fun k v=>cH k a0 a1 a2 a3 a4 a5 a6 a7 a8 v) (fun v=>⟨[(0,.ptr 0 0),(1,di a0),(2,di a1),(7,di v)],[.live (.var [.d (af 3 ag a2),di a3,.d (af 3 ag a4),di a5,di a6,.osl 1 0 a7.length 3,.osl 2 0 a8.length 3]),.live (.arr 3 a7.length false (row ag a7)),.live (.arr 3 a8.length false (row aZ a8))]⟩) (k:=k) (v:=0) h rfl (fun _=>rfl) ?_
  intro k v0_0 ih h
  have h:=(iP ..).symm.trans h
  refine aa.seq ?_
  refine aa.sr (ab.ev0n [0,0,0,0,0,0,0] [(33,db (decide (v0_0 < (a8.length:Int))))] [] ?_)
  refine aa.condI h rfl (fun hc6 h=>?_) (fun hc6 h=>?_)
  ·
   refine aa.skip ?_
   refine aa.seq ?_
   refine aa.block ?_
   refine aa.seq ?_
   refine ao h fun x11 ho10 h=>?_
   refine aa.cut (Q':=fun e s'=>e = .normal∧s'=⟨[(0,.ptr 0 0),(1,di a0),(2,di a1),(7,di v0_0),(57,db x11)],[.live (.var [.d (af 3 ag a2),di a3,.d (af 3 ag a4),di a5,di a6,.osl 1 0 a7.length 3,.osl 2 0 a8.length 3]),.live (.arr 3 a7.length false (row ag a7)),.live (.arr 3 a8.length false (row aZ a8))]⟩) ?_ ?_
   ·
    have h:=ho10
    refine aD h fun hb7 h=>?_
    refine au h (fun hc8 h=>?_) (fun hc8 h=>?_)
    ·
     refine aD h fun hb9 h=>?_
     refine aa.region (ab.ev0 [0,0,0,0,0,0] [(41,.eptr 2 (Int.toNat v0_0) 0 3)] [⟨_,hb7.1⟩,⟨_,hb7.2⟩] ?_)
     refine ab.step (v:=.eptr 2 (Int.toNat v0_0) 0 3) (gf rfl rfl) rfl rfl rfl ?_
     refine ab.step (ae.loadE rfl rfl aX rfl (by have:=hb7; omega) rfl) rfl rfl rfl ?_
     refine ab.ev0 [0,0,0,3,3,3,3,3,3] [(46,db (decide ((a8.getD (Int.toNat v0_0) default).a0=a0))),(52,.eptr 2 (Int.toNat v0_0) 0 3)] [⟨_,hc8⟩,⟨_,hc8⟩,⟨_,hc8⟩,⟨_,hc8⟩,⟨_,hc8⟩,⟨_,hc8⟩,⟨_,hb9.1⟩,⟨_,hb9.2⟩] ?_
     refine ab.gstep (v:=.eptr 2 (Int.toNat v0_0) 1 3) (gf rfl rfl) rfl rfl rfl hc8 rfl rfl ?_
     refine ab.gstep (ae.loadE rfl rfl aX rfl (by have:=hb9; omega) rfl) rfl rfl rfl hc8 rfl rfl ?_
     refine ab.ev0n [3,3,10] [(57,db (decide ((a8.getD (Int.toNat v0_0) default).a1=a1)))] [⟨_,hc8⟩,⟨_,hc8⟩,⟨_,hc8⟩] ?_
     cases h
     exact ⟨_,(GStep.keep [0,1,2,7,57]),rfl,rfl⟩
    refine aa.region (ab.ev0 [0,0,0,0,0,0] [(41,.eptr 2 (Int.toNat v0_0) 0 3)] [⟨_,hb7.1⟩,⟨_,hb7.2⟩] ?_)
    refine ab.step (v:=.eptr 2 (Int.toNat v0_0) 0 3) (gf rfl rfl) rfl rfl rfl ?_
    refine ab.step (ae.loadE rfl rfl aX rfl (by have:=hb7; omega) rfl) rfl rfl rfl ?_
    refine ab.ev0n [0,0,0,2,0,0,0,0,0,0,0,0,0,0] [(57,db false)] [⟨_,hc8⟩] ?_
    cases h
    exact ⟨_,(GStep.keep [0,1,2,7,57]),rfl,rfl⟩
   rintro e s' hq
   obtain ⟨rfl,rfl⟩:=hq
   refine aa.condI h rfl (fun hc12 h=>?_) (fun hc12 h=>?_)
   ·
    refine aa.seq ?_
    refine aD h fun hb13 h=>?_
    refine aa.region (ab.ev0 [0,0,0,0,0,0] [(63,.eptr 2 (Int.toNat v0_0) 0 3)] [⟨_,hb13.1⟩,⟨_,hb13.2⟩] ?_)
    refine ab.step (v:=.eptr 2 (Int.toNat v0_0) 2 3) (gf rfl rfl) rfl rfl rfl ?_
    refine ab.step (ae.loadE rfl rfl aX rfl (by have:=hb13; omega) rfl) rfl rfl rfl ?_
    refine ab.ev0n [0] [(6,di ((a8.getD (Int.toNat v0_0) default).a2))] [] ?_
    refine aa.ret ?_
    cases h
    exact ⟨_,(GStep.trans (GStep.keep [6]) (GStep.trans (GStep.reid 1 rfl) (GStep.reid 2 rfl))),rfl,Fin.mk2 (aB.one (.tmp rfl)) [0,1,2,3,4] (by decide) rfl rfl rfl rfl⟩
   refine aa.skip ?_
   refine aa.region (ab.ev0n [0,0,0] [(7,di (IntKind.wrap .i64 (v0_0+1)))] [] ?_)
   exact aM.ghost (GStep.keep [0,1,2,7]) (ih (IntKind.wrap .i64 (v0_0+1)) h)
  refine aa.exit ?_
  cases h
  exact ⟨_,(GStep.keep [0,1,2]),rfl,rfl⟩
 rcases o25 with r14 | x15
 ·
  rintro e s' hq
  obtain ⟨rfl,hq⟩:=hq
  cases h
  exact ⟨_,GStep.refl _ _,.inr rfl,hq⟩
 rintro e s' hq
 obtain ⟨rfl,rfl⟩:=hq
 refine aa.seq ?_
 refine ao h fun y16 hy16 h=>?_
 refine ao h fun y17 hy17 h=>?_
 refine aa.regionAny mixed (s':=?s24) (qs:=[⟨[0],[],[],[0],[]⟩,⟨[66],[],[],[0],[]⟩,⟨[67],[],[],[0],[]⟩,⟨[68],[0],[],[1,2],[]⟩,⟨[1],[],[],[],[]⟩,⟨[69,70],[],[],[],[]⟩,⟨[0],[],[],[0],[]⟩,⟨[72],[],[],[0],[]⟩,⟨[73],[],[],[0],[]⟩,⟨[74],[0],[],[1,2],[]⟩,⟨[2],[],[],[],[]⟩,⟨[75,76],[],[],[],[]⟩,⟨[71,77],[],[],[],[]⟩,⟨[78],[],[],[],[]⟩]) ?_ (by kernel_rfl) ?_
 rotate_left
 ·
  refine Steps.runQ [0] [] [0] (v:=.ptr 0 0) (ae.move rfl rfl) rfl (by kernel_rfl) (by kernel_rfl) ?_
  refine Steps.runQ [66] [] [0] (v:=.ptr 0 0) (ae.nilCheck rfl rfl) rfl (by kernel_rfl) (by kernel_rfl) ?_
  refine Steps.runQ [67] [] [0] (v:=.ptr 0 0) (ae.fieldAddr (id:=0) (off:=0) (fo:=0) rfl rfl qi rfl rfl) rfl (by kernel_rfl) (by kernel_rfl) ?_
  refine Steps.runQ [68] [0] [1,2] (ae.loadA rfl rfl bq rfl rfl) rfl (by kernel_rfl) (by kernel_rfl) ?_
  refine Steps.runQ [1] [] [] (v:=di a0) (ae.move rfl rfl) rfl (by kernel_rfl) (by kernel_rfl) ?_
  refine Steps.runQ [69,70] [] [] (v:=di y16) (ae.callS [] (cT (⟨a2,a3⟩:ap) a0 _ hy16) rfl rfl ⟨⟨rfl,rfl,trivial⟩,rfl,trivial⟩ (by decide) rfl rfl trivial) rfl (by kernel_rfl) (by kernel_rfl) ?_
  refine Steps.runQ [0] [] [0] (v:=.ptr 0 0) (ae.move rfl rfl) rfl (by kernel_rfl) (by kernel_rfl) ?_
  refine Steps.runQ [72] [] [0] (v:=.ptr 0 0) (ae.nilCheck rfl rfl) rfl (by kernel_rfl) (by kernel_rfl) ?_
  refine Steps.runQ [73] [] [0] (v:=.ptr 0 2) (ae.fieldAddr (id:=0) (off:=0) (fo:=2) rfl rfl qi rfl rfl) rfl (by kernel_rfl) (by kernel_rfl) ?_
  refine Steps.runQ [74] [0] [1,2] (ae.loadA rfl rfl bq rfl rfl) rfl (by kernel_rfl) (by kernel_rfl) ?_
  refine Steps.runQ [2] [] [] (v:=di a1) (ae.move rfl rfl) rfl (by kernel_rfl) (by kernel_rfl) ?_
  refine Steps.runQ [75,76] [] [] (v:=di y17) (ae.callS [] (cT (⟨a4,a5⟩:ap) a1 _ hy17) rfl rfl ⟨⟨rfl,rfl,trivial⟩,rfl,trivial⟩ (by decide) rfl rfl trivial) rfl (by kernel_rfl) (by kernel_rfl) ?_
  refine Steps.runQ [71,77] [] [] (v:=di (if y17 < y16 then y17 else y16)) (n3 rfl rfl) rfl (by kernel_rfl) (by kernel_rfl) ?_
  refine Steps.runQ [78] [] [] (v:=di (if y17 < y16 then y17 else y16)) (ae.assign rfl rfl) rfl (by kernel_rfl) (by kernel_rfl) ?_
  exact Steps.nil _
 refine aa.seq ?_
 refine ao h fun y18 hy18 h=>?_
 refine aa.region (ab.ev0 [0,0,0,0,0,0] [(83,.agg (an (⟨a2,a3⟩:ap))),(84,di a0),(85,di (if y17 < y16 then y17 else y16))] [] ?_)
 refine ab.step (v:=.tup [di y18.1,di y18.2]) (ae.callS [] (gw (⟨a2,a3⟩:ap) a0 (if y17 < y16 then y17 else y16) _ hy18) rfl rfl ⟨⟨rfl,rfl,trivial⟩,rfl,rfl,trivial⟩ (by decide) rfl rfl trivial) rfl rfl rfl ?_
 refine ab.ev0n [0,0,0,0,0] [(9,di y18.1),(10,di y18.2)] [] ?_
 refine aa.seq ?_
 refine ao h fun y19 hy19 h=>?_
 refine aa.region (ab.ev0 [0,0,0,0,0,0] [(93,.agg (an (⟨a4,a5⟩:ap))),(94,di a1),(95,di (if y17 < y16 then y17 else y16))] [] ?_)
 refine ab.step (v:=.tup [di y19.1,di y19.2]) (ae.callS [] (gw (⟨a4,a5⟩:ap) a1 (if y17 < y16 then y17 else y16) _ hy19) rfl rfl ⟨⟨rfl,rfl,trivial⟩,rfl,rfl,trivial⟩ (by decide) rfl rfl trivial) rfl rfl rfl ?_
 refine ab.ev0n [0,0,0,0,0] [(11,di y19.1),(12,di y19.2)] [] ?_
 refine aa.seq ?_
 refine ao h fun y20 hy20 h=>?_
 refine aa.region (ab.ev0 [0,0,0] [(99,.ptr 0 0),(100,di y18.1),(101,di y19.1)] [] ?_)
 refine ab.step (v:=di y20.1) (ae.callS [0,1,2] (ihr y18.1 y19.1 a2 a3 a4 a5 a6 a7 a8 _ hy20) rfl rfl ⟨rfl,rfl,rfl,trivial⟩ (by decide) rfl rfl ⟨⟨rfl,rfl⟩,⟨rfl,rfl⟩,⟨rfl,rfl⟩,trivial⟩) rfl rfl rfl ?_
 refine ab.hp (h':=[.live (.var [.d (af 3 ag a2),di a3,.d (af 3 ag a4),di a5,di a6,.osl 3 0 y20.2.1.length 3,.osl 4 0 y20.2.2.length 3]),.freed,.freed,.live (.arr 3 y20.2.1.length false (row ag y20.2.1)),.live (.arr 3 y20.2.2.length false (row aZ y20.2.2))]) (by kernel_rfl) ?_
 refine ab.ev0n [0] [(13,di y20.1)] [] ?_
 refine aa.seq ?_
 refine ao h fun y21 hy21 h=>?_
 refine aa.region (ab.ev0 [0,0,0] [(103,.ptr 0 0),(104,di y18.2),(105,di y19.2)] [] ?_)
 refine ab.step (v:=di y21.1) (ae.callS [0,3,4] (ihr y18.2 y19.2 a2 a3 a4 a5 a6 y20.2.1 y20.2.2 _ hy21) rfl rfl ⟨rfl,rfl,rfl,trivial⟩ (by decide) rfl rfl ⟨⟨rfl,rfl⟩,⟨rfl,rfl⟩,⟨rfl,rfl⟩,trivial⟩) rfl rfl rfl ?_
 refine ab.hp (h':=[.live (.var [.d (af 3 ag a2),di a3,.d (af 3 ag a4),di a5,di a6,.osl 5 0 y21.2.1.length 3,.osl 6 0 y21.2.2.length 3]),.freed,.freed,.freed,.freed,.live (.arr 3 y21.2.1.length false (row ag y21.2.1)),.live (.arr 3 y21.2.2.length false (row aZ y21.2.2))]) (by kernel_rfl) ?_
 refine ab.ev0n [0] [(14,di y21.1)] [] ?_
 refine aa.seq ?_
 refine ao h fun y22 hy22 h=>?_
 refine aa.region (ab.ev0 [0,0,0,0,0,0,0,0] [(111,.osl 5 0 y21.2.1.length 3),(115,.agg (aK (⟨(if y17 < y16 then y17 else y16),y20.1,y21.1⟩:ai)))] [] ?_)
 refine ab.step (v:=.tup [.osl 7 0 y22.2.length 3,di y22.1]) (ae.callS [5] (ky k (⟨(if y17 < y16 then y17 else y16),y20.1,y21.1⟩:ai) y21.2.1 _ hy22) rfl rfl ⟨rfl,⟨rfl,rfl,rfl,trivial⟩,trivial⟩ (by decide) rfl rfl ⟨⟨rfl,rfl⟩,trivial⟩) rfl rfl rfl ?_
 refine ab.hp (h':=[.live (.var [.d (af 3 ag a2),di a3,.d (af 3 ag a4),di a5,di a6,.osl 5 0 y21.2.1.length 3,.osl 6 0 y21.2.2.length 3]),.freed,.freed,.freed,.freed,.freed,.live (.arr 3 y21.2.2.length false (row aZ y21.2.2)),.live (.arr 3 y22.2.length false (row ag y22.2))]) (by kernel_rfl) ?_
 refine ab.ev0n [0,0,0,0,0] [(15,.osl 7 0 y22.2.length 3),(16,di y22.1)] [] ?_
 refine aa.sr (ab.evn (h':=[.live (.var [.d (af 3 ag a2),di a3,.d (af 3 ag a4),di a5,di a6,.osl 7 0 y22.2.length 3,.osl 6 0 y21.2.2.length 3]),.freed,.freed,.freed,.freed,.freed,.live (.arr 3 y21.2.2.length false (row aZ y21.2.2)),.live (.arr 3 y22.2.length false (row ag y22.2))]) [0,0,0,0,0] [] [] ?_)
 refine aa.seq ?_
 refine aD h fun hz23 h=>?_
 refine aa.region (ab.ev0 [0,0,0,0,0,0,0,0] [(123,.ptr 0 0),(127,.osl 6 0 y21.2.2.length 3),(128,di a0),(129,di a1),(130,di y22.1)] [] ?_)
 refine ab.step (v:=.agg (xb (⟨a0,a1,y22.1⟩:aR))) (jX rfl rfl) rfl rfl rfl ?_
 refine ab.step (v:=.d (af 3 aZ ([(⟨a0,a1,y22.1⟩:aR)]:List aR))) (ae.bsliceX [di a0,di a1,di y22.1] [.d (.int .i64 a0),.d (.int .i64 a1),.d (.int .i64 y22.1)] (row aZ ([(⟨a0,a1,y22.1⟩:aR)]:List aR)) rfl qe xf rfl rfl (by kernel_rfl) ⟨rfl,rfl,rfl,trivial⟩ (by kernel_rfl) (by kernel_rfl)) rfl rfl rfl ?_
 refine ab.step (v:=.osl 8 0 ((y21.2.2++([(⟨a0,a1,y22.1⟩:aR)]:List aR)).length) 3) (ae.appTn aZ y21.2.2 ([(⟨a0,a1,y22.1⟩:aR)]:List aR) rfl rfl rfl rfl rfl qe wd wB rfl hz23) rfl rfl rfl ?_
 refine ab.hp (h':=[.live (.var [.d (af 3 ag a2),di a3,.d (af 3 ag a4),di a5,di a6,.osl 7 0 y22.2.length 3,.osl 6 0 y21.2.2.length 3]),.freed,.freed,.freed,.freed,.freed,.freed,.live (.arr 3 y22.2.length false (row ag y22.2)),.live (.arr 3 ((y21.2.2++([(⟨a0,a1,y22.1⟩:aR)]:List aR)).length) false (row aZ (y21.2.2++([(⟨a0,a1,y22.1⟩:aR)]:List aR))))]) (by kernel_rfl) ?_
 refine ab.evn (h':=[.live (.var [.d (af 3 ag a2),di a3,.d (af 3 ag a4),di a5,di a6,.osl 7 0 y22.2.length 3,.osl 8 0 ((y21.2.2++([(⟨a0,a1,y22.1⟩:aR)]:List aR)).length) 3]),.freed,.freed,.freed,.freed,.freed,.freed,.live (.arr 3 y22.2.length false (row ag y22.2)),.live (.arr 3 ((y21.2.2++([(⟨a0,a1,y22.1⟩:aR)]:List aR)).length) false (row aZ (y21.2.2++([(⟨a0,a1,y22.1⟩:aR)]:List aR))))]) [0,0,0] [] [] ?_
 refine aa.sr (ab.ev0n [0,0] [(6,di y22.1)] [] ?_)
 refine aa.ret ?_
 cases h
 exact ⟨_,(GStep.trans (GStep.keep [6]) (GStep.ren [0,1,2,7,8] (by decide) rfl rfl)),.inr rfl,Fin.mk2 (aB.one (.tmp rfl)) [0,1,2,3,4] (by decide) rfl rfl rfl rfl⟩
noncomputable def ej (k:Nat)(a0:Int)(a1:Int)(a2:List ai)(a3:Int)(a4:List ai)(a5:Int)(a6:Int)(v:Unit):Option Unit:=match k,v with
  | 0,_=>none
  | k+1,_=>some ()
theorem jy:type_of% (@ej.eq_2):=@ej.eq_2
noncomputable def fy:(k:Nat)→(a0:Int)→(a1:Int)→(a2:List ai)→(a3:Int)→(a4:List ai)→(a5:Int)→(a6:Int)→Option (Int×(List ai)×(List aR))
  | 0,_,_,_,_,_,_,_=>none
  | k+1,a0,a1,a2,a3,a4,a5,a6=>(((if (decide (a0 < 2))=true then some (decide (a1 < 2)) else some false):Option Bool).bind fun x3=>(if x3=true then ((fR a0 a1 a2 a3 a4 a5 a6).bind fun y5=>some (y5,([]:List ai),([]:List aR))) else (((ej k a0 a1 a2 a3 a4 a5 a6 ()):Option Unit).bind fun x6=>((dO (⟨a2,a3⟩:ap) a0).bind fun y7=>((dO (⟨a4,a5⟩:ap) a1).bind fun y8=>((fX (⟨a2,a3⟩:ap) a0 (if y8 < y7 then y8 else y7)).bind fun y9=>((fX (⟨a4,a5⟩:ap) a1 (if y8 < y7 then y8 else y7)).bind fun y10=>((fy k y9.1 y10.1 a2 a3 a4 a5 a6).bind fun y11=>((du k y9.2 y10.2 a2 a3 a4 a5 a6 y11.2.1 y11.2.2).bind fun y12=>((ir k (⟨(if y8 < y7 then y8 else y7),y11.1,y12.1⟩:ai) y12.2.1).bind fun y13=>(if (y12.2.2.length+([(⟨a0,a1,y13.1⟩:aR)]:List aR).length)*24≤140737488355328 then some (y13.1,y13.2,(y12.2.2++([(⟨a0,a1,y13.1⟩:aR)]:List aR))) else none)))))))))))
theorem mz:type_of% (@fy.eq_2):=@fy.eq_2
set_option maxRecDepth 100000 in
set_option maxHeartbeats 4000000 in
theorem oh (k:Nat)(a0:Int)(a1:Int)(a2:List ai)(a3:Int)(a4:List ai)(a5:Int)(a6:Int)(r:Int×(List ai)×(List aR))(h:fy k a0 a1 a2 a3 a4 a5 a6=some r):SC P 213 [.ptr 0 0,di a0,di a1] [(.var [.d (af 3 ag a2),di a3,.d (af 3 ag a4),di a5,di a6,.nsl,.nsl])] (di r.1) [.live (.var [.d (af 3 ag a2),di a3,.d (af 3 ag a4),di a5,di a6,.osl 1 0 r.2.1.length 3,.osl 2 0 r.2.2.length 3]),.live (.arr 3 r.2.1.length false (row ag r.2.1)),.live (.arr 3 r.2.2.length false (row aZ r.2.2))]:=by
 induction k generalizing a0 a1 a2 a3 a4 a5 a6 r with
 | zero=>
  have h:(none:Option (Int×(List ai)×(List aR)))=some r:=h
  cases h
 | succ k ihr=>
 have h:=(mz ..).symm.trans h
 refine SC.intro3 (N:=137) Tryz.func213 rfl rfl Tryz.ntmps213 rfl ?_
 refine aa.sr (ab.ev0n [0] [] [] ?_)
 refine aa.seq ?_
 refine aa.seq ?_
 refine ao h fun x3 ho2 h=>?_
 refine aa.cut (Q':=fun e s'=>e = .normal∧s'=⟨[(0,.ptr 0 0),(1,di a0),(2,di a1),(22,db x3)],[.live (.var [.d (af 3 ag a2),di a3,.d (af 3 ag a4),di a5,di a6,.nsl,.nsl])]⟩) ?_ ?_
 ·
  have h:=ho2
  refine au h (fun hc1 h=>?_) (fun hc1 h=>?_)
  ·
   refine aa.region (ab.ev0n [0,0,0,1,0,0] [(22,db (decide (a1 < 2)))] [⟨_,hc1⟩] ?_)
   cases h
   exact ⟨_,(GStep.keep [0,1,2,22]),rfl,rfl⟩
  refine aa.region (ab.ev0n [0,0,0,2,0,0] [(22,db false)] [⟨_,hc1⟩] ?_)
  cases h
  exact ⟨_,(GStep.keep [0,1,2,22]),rfl,rfl⟩
 rintro e s' hq
 obtain ⟨rfl,rfl⟩:=hq
 refine aa.condI h rfl (fun hc4 h=>?_) (fun hc4 h=>?_)
 ·
  refine aa.seq ?_
  refine ao h fun y5 hy5 h=>?_
  refine aa.region (ab.ev0 [0,0,0] [(23,.ptr 0 0),(24,di a0),(25,di a1)] [] ?_)
  refine ab.step (v:=di y5) (ae.callS [0] (kj a0 a1 a2 a3 a4 a5 a6 _ hy5) rfl rfl ⟨rfl,rfl,rfl,trivial⟩ (by decide) rfl rfl ⟨⟨rfl,rfl⟩,trivial⟩) rfl rfl rfl ?_
  refine ab.ev0n [0] [(6,di y5)] [] ?_
  refine aa.ret ?_
  cases h
  exact ⟨_,(GStep.trans (GStep.keep [6]) (GStep.trans (GStep.own 0 5 3 (row ag ([]:List ai)) rfl rfl rfl) (GStep.own 0 6 3 (row aZ ([]:List aR)) rfl rfl rfl))),.inr rfl,Fin.mk2 (aB.one (.tmp rfl)) [0,1,2] (by decide) rfl rfl rfl rfl⟩
 refine aa.skip ?_
 refine aa.seq ?_
 refine aa.sr (ab.ev0n [0] [(7,di 0)] [] ?_)
 refine aa.block ?_
 refine ao h fun x6 ho16 h=>?_
 refine aa.cut (Q':=fun e s'=>e = .exit 0∧s'=⟨[(0,.ptr 0 0),(1,di a0),(2,di a1)],[.live (.var [.d (af 3 ag a2),di a3,.d (af 3 ag a4),di a5,di a6,.nsl,.nsl])]⟩) ?_ ?_
 ·
  have h:=ho16
  refine aa.ghost (GStep.keep [0,1,2,7]) ?_
  refine aa.loopI (F:=fun k v=>ej k a0 a1 a2 a3 a4 a5 a6 v) (fun v=>⟨[(0,.ptr 0 0),(1,di a0),(2,di a1),(7,di 0)],[.live (.var [.d (af 3 ag a2),di a3,.d (af 3 ag a4),di a5,di a6,.nsl,.nsl])]⟩) (k:=k) (v:=()) h rfl (fun _=>rfl) ?_
  intro k v ih h
  have h:=(jy ..).symm.trans h
  refine aa.seq ?_
  refine aa.sr (ab.ev0n [0,0,0,0,0,0,0] [(33,db false)] [] ?_)
  refine aa.condF (t:=false) rfl rfl ?_
  refine aa.exit ?_
  cases h
  exact ⟨_,(GStep.keep [0,1,2]),rfl,rfl⟩
 rintro e s' hq
 obtain ⟨rfl,rfl⟩:=hq
 refine aa.seq ?_
 refine ao h fun y7 hy7 h=>?_
 refine ao h fun y8 hy8 h=>?_
 refine aa.regionAny mixed (s':=?s15) (qs:=[⟨[0],[],[],[0],[]⟩,⟨[66],[],[],[0],[]⟩,⟨[67],[],[],[0],[]⟩,⟨[68],[0],[],[],[]⟩,⟨[1],[],[],[],[]⟩,⟨[69,70],[],[],[],[]⟩,⟨[0],[],[],[0],[]⟩,⟨[72],[],[],[0],[]⟩,⟨[73],[],[],[0],[]⟩,⟨[74],[0],[],[],[]⟩,⟨[2],[],[],[],[]⟩,⟨[75,76],[],[],[],[]⟩,⟨[71,77],[],[],[],[]⟩,⟨[78],[],[],[],[]⟩]) ?_ (by kernel_rfl) ?_
 rotate_left
 ·
  refine Steps.runQ [0] [] [0] (v:=.ptr 0 0) (ae.move rfl rfl) rfl (by kernel_rfl) (by kernel_rfl) ?_
  refine Steps.runQ [66] [] [0] (v:=.ptr 0 0) (ae.nilCheck rfl rfl) rfl (by kernel_rfl) (by kernel_rfl) ?_
  refine Steps.runQ [67] [] [0] (v:=.ptr 0 0) (ae.fieldAddr (id:=0) (off:=0) (fo:=0) rfl rfl qi rfl rfl) rfl (by kernel_rfl) (by kernel_rfl) ?_
  refine Steps.runQ [68] [0] [] (ae.loadA rfl rfl bq rfl rfl) rfl (by kernel_rfl) (by kernel_rfl) ?_
  refine Steps.runQ [1] [] [] (v:=di a0) (ae.move rfl rfl) rfl (by kernel_rfl) (by kernel_rfl) ?_
  refine Steps.runQ [69,70] [] [] (v:=di y7) (ae.callS [] (cT (⟨a2,a3⟩:ap) a0 _ hy7) rfl rfl ⟨⟨rfl,rfl,trivial⟩,rfl,trivial⟩ (by decide) rfl rfl trivial) rfl (by kernel_rfl) (by kernel_rfl) ?_
  refine Steps.runQ [0] [] [0] (v:=.ptr 0 0) (ae.move rfl rfl) rfl (by kernel_rfl) (by kernel_rfl) ?_
  refine Steps.runQ [72] [] [0] (v:=.ptr 0 0) (ae.nilCheck rfl rfl) rfl (by kernel_rfl) (by kernel_rfl) ?_
  refine Steps.runQ [73] [] [0] (v:=.ptr 0 2) (ae.fieldAddr (id:=0) (off:=0) (fo:=2) rfl rfl qi rfl rfl) rfl (by kernel_rfl) (by kernel_rfl) ?_
  refine Steps.runQ [74] [0] [] (ae.loadA rfl rfl bq rfl rfl) rfl (by kernel_rfl) (by kernel_rfl) ?_
  refine Steps.runQ [2] [] [] (v:=di a1) (ae.move rfl rfl) rfl (by kernel_rfl) (by kernel_rfl) ?_
  refine Steps.runQ [75,76] [] [] (v:=di y8) (ae.callS [] (cT (⟨a4,a5⟩:ap) a1 _ hy8) rfl rfl ⟨⟨rfl,rfl,trivial⟩,rfl,trivial⟩ (by decide) rfl rfl trivial) rfl (by kernel_rfl) (by kernel_rfl) ?_
  refine Steps.runQ [71,77] [] [] (v:=di (if y8 < y7 then y8 else y7)) (n3 rfl rfl) rfl (by kernel_rfl) (by kernel_rfl) ?_
  refine Steps.runQ [78] [] [] (v:=di (if y8 < y7 then y8 else y7)) (ae.assign rfl rfl) rfl (by kernel_rfl) (by kernel_rfl) ?_
  exact Steps.nil _
 refine aa.seq ?_
 refine ao h fun y9 hy9 h=>?_
 refine aa.region (ab.ev0 [0,0,0,0,0,0] [(83,.agg (an (⟨a2,a3⟩:ap))),(84,di a0),(85,di (if y8 < y7 then y8 else y7))] [] ?_)
 refine ab.step (v:=.tup [di y9.1,di y9.2]) (ae.callS [] (gw (⟨a2,a3⟩:ap) a0 (if y8 < y7 then y8 else y7) _ hy9) rfl rfl ⟨⟨rfl,rfl,trivial⟩,rfl,rfl,trivial⟩ (by decide) rfl rfl trivial) rfl rfl rfl ?_
 refine ab.ev0n [0,0,0,0,0] [(9,di y9.1),(10,di y9.2)] [] ?_
 refine aa.seq ?_
 refine ao h fun y10 hy10 h=>?_
 refine aa.region (ab.ev0 [0,0,0,0,0,0] [(93,.agg (an (⟨a4,a5⟩:ap))),(94,di a1),(95,di (if y8 < y7 then y8 else y7))] [] ?_)
 refine ab.step (v:=.tup [di y10.1,di y10.2]) (ae.callS [] (gw (⟨a4,a5⟩:ap) a1 (if y8 < y7 then y8 else y7) _ hy10) rfl rfl ⟨⟨rfl,rfl,trivial⟩,rfl,rfl,trivial⟩ (by decide) rfl rfl trivial) rfl rfl rfl ?_
 refine ab.ev0n [0,0,0,0,0] [(11,di y10.1),(12,di y10.2)] [] ?_
 refine aa.seq ?_
 refine ao h fun y11 hy11 h=>?_
 refine aa.region (ab.ev0 [0,0,0] [(99,.ptr 0 0),(100,di y9.1),(101,di y10.1)] [] ?_)
 refine ab.step (v:=di y11.1) (ae.callS [0] (ihr y9.1 y10.1 a2 a3 a4 a5 a6 _ hy11) rfl rfl ⟨rfl,rfl,rfl,trivial⟩ (by decide) rfl rfl ⟨⟨rfl,rfl⟩,trivial⟩) rfl rfl rfl ?_
 refine ab.hp (h':=[.live (.var [.d (af 3 ag a2),di a3,.d (af 3 ag a4),di a5,di a6,.osl 1 0 y11.2.1.length 3,.osl 2 0 y11.2.2.length 3]),.live (.arr 3 y11.2.1.length false (row ag y11.2.1)),.live (.arr 3 y11.2.2.length false (row aZ y11.2.2))]) (by kernel_rfl) ?_
 refine ab.ev0n [0] [(13,di y11.1)] [] ?_
 refine aa.seq ?_
 refine ao h fun y12 hy12 h=>?_
 refine aa.region (ab.ev0 [0,0,0] [(103,.ptr 0 0),(104,di y9.2),(105,di y10.2)] [] ?_)
 refine ab.step (v:=di y12.1) (ae.callS [0,1,2] (l5 k y9.2 y10.2 a2 a3 a4 a5 a6 y11.2.1 y11.2.2 _ hy12) rfl rfl ⟨rfl,rfl,rfl,trivial⟩ (by decide) rfl rfl ⟨⟨rfl,rfl⟩,⟨rfl,rfl⟩,⟨rfl,rfl⟩,trivial⟩) rfl rfl rfl ?_
 refine ab.hp (h':=[.live (.var [.d (af 3 ag a2),di a3,.d (af 3 ag a4),di a5,di a6,.osl 3 0 y12.2.1.length 3,.osl 4 0 y12.2.2.length 3]),.freed,.freed,.live (.arr 3 y12.2.1.length false (row ag y12.2.1)),.live (.arr 3 y12.2.2.length false (row aZ y12.2.2))]) (by kernel_rfl) ?_
 refine ab.ev0n [0] [(14,di y12.1)] [] ?_
 refine aa.seq ?_
 refine ao h fun y13 hy13 h=>?_
 refine aa.region (ab.ev0 [0,0,0,0,0,0,0,0] [(111,.osl 3 0 y12.2.1.length 3),(115,.agg (aK (⟨(if y8 < y7 then y8 else y7),y11.1,y12.1⟩:ai)))] [] ?_)
 refine ab.step (v:=.tup [.osl 5 0 y13.2.length 3,di y13.1]) (ae.callS [3] (ky k (⟨(if y8 < y7 then y8 else y7),y11.1,y12.1⟩:ai) y12.2.1 _ hy13) rfl rfl ⟨rfl,⟨rfl,rfl,rfl,trivial⟩,trivial⟩ (by decide) rfl rfl ⟨⟨rfl,rfl⟩,trivial⟩) rfl rfl rfl ?_
 refine ab.hp (h':=[.live (.var [.d (af 3 ag a2),di a3,.d (af 3 ag a4),di a5,di a6,.osl 3 0 y12.2.1.length 3,.osl 4 0 y12.2.2.length 3]),.freed,.freed,.freed,.live (.arr 3 y12.2.2.length false (row aZ y12.2.2)),.live (.arr 3 y13.2.length false (row ag y13.2))]) (by kernel_rfl) ?_
 refine ab.ev0n [0,0,0,0,0] [(15,.osl 5 0 y13.2.length 3),(16,di y13.1)] [] ?_
 refine aa.sr (ab.evn (h':=[.live (.var [.d (af 3 ag a2),di a3,.d (af 3 ag a4),di a5,di a6,.osl 5 0 y13.2.length 3,.osl 4 0 y12.2.2.length 3]),.freed,.freed,.freed,.live (.arr 3 y12.2.2.length false (row aZ y12.2.2)),.live (.arr 3 y13.2.length false (row ag y13.2))]) [0,0,0,0,0] [] [] ?_)
 refine aa.seq ?_
 refine aD h fun hz14 h=>?_
 refine aa.region (ab.ev0 [0,0,0,0,0,0,0,0] [(123,.ptr 0 0),(127,.osl 4 0 y12.2.2.length 3),(128,di a0),(129,di a1),(130,di y13.1)] [] ?_)
 refine ab.step (v:=.agg (xb (⟨a0,a1,y13.1⟩:aR))) (jX rfl rfl) rfl rfl rfl ?_
 refine ab.step (v:=.d (af 3 aZ ([(⟨a0,a1,y13.1⟩:aR)]:List aR))) (ae.bsliceX [di a0,di a1,di y13.1] [.d (.int .i64 a0),.d (.int .i64 a1),.d (.int .i64 y13.1)] (row aZ ([(⟨a0,a1,y13.1⟩:aR)]:List aR)) rfl qe xf rfl rfl (by kernel_rfl) ⟨rfl,rfl,rfl,trivial⟩ (by kernel_rfl) (by kernel_rfl)) rfl rfl rfl ?_
 refine ab.step (v:=.osl 6 0 ((y12.2.2++([(⟨a0,a1,y13.1⟩:aR)]:List aR)).length) 3) (ae.appTn aZ y12.2.2 ([(⟨a0,a1,y13.1⟩:aR)]:List aR) rfl rfl rfl rfl rfl qe wd wB rfl hz14) rfl rfl rfl ?_
 refine ab.hp (h':=[.live (.var [.d (af 3 ag a2),di a3,.d (af 3 ag a4),di a5,di a6,.osl 5 0 y13.2.length 3,.osl 4 0 y12.2.2.length 3]),.freed,.freed,.freed,.freed,.live (.arr 3 y13.2.length false (row ag y13.2)),.live (.arr 3 ((y12.2.2++([(⟨a0,a1,y13.1⟩:aR)]:List aR)).length) false (row aZ (y12.2.2++([(⟨a0,a1,y13.1⟩:aR)]:List aR))))]) (by kernel_rfl) ?_
 refine ab.evn (h':=[.live (.var [.d (af 3 ag a2),di a3,.d (af 3 ag a4),di a5,di a6,.osl 5 0 y13.2.length 3,.osl 6 0 ((y12.2.2++([(⟨a0,a1,y13.1⟩:aR)]:List aR)).length) 3]),.freed,.freed,.freed,.freed,.live (.arr 3 y13.2.length false (row ag y13.2)),.live (.arr 3 ((y12.2.2++([(⟨a0,a1,y13.1⟩:aR)]:List aR)).length) false (row aZ (y12.2.2++([(⟨a0,a1,y13.1⟩:aR)]:List aR))))]) [0,0,0] [] [] ?_
 refine aa.sr (ab.ev0n [0,0] [(6,di y13.1)] [] ?_)
 refine aa.ret ?_
 cases h
 exact ⟨_,(GStep.trans (GStep.keep [6]) (GStep.ren [0,5,6] (by decide) rfl rfl)),.inr rfl,Fin.mk2 (aB.one (.tmp rfl)) [0,1,2] (by decide) rfl rfl rfl rfl⟩
noncomputable def cL:(k:Nat)→(a0:Int)→(a1:List ai)→(a2:List Int)→(a3:List ai)→Option (Int×(List Int)×(List ai))
  | 0,_,_,_,_=>none
  | k+1,a0,a1,a2,a3=>(if (decide (a0 < 2))=true then some (a0,a2,a3) else (if (0:Int)≤(IntKind.wrap .i64 (a0 - 2))∧(IntKind.wrap .i64 (a0 - 2)) < (a2.length:Int) then (if (decide ((a2.getD (Int.toNat (IntKind.wrap .i64 (a0 - 2))) default) > 0))=true then (if (0:Int)≤(IntKind.wrap .i64 (a0 - 2))∧(IntKind.wrap .i64 (a0 - 2)) < (a2.length:Int) then some ((a2.getD (Int.toNat (IntKind.wrap .i64 (a0 - 2))) default),a2,a3) else none) else (if (0:Int)≤(IntKind.wrap .i64 (a0 - 2))∧(IntKind.wrap .i64 (a0 - 2)) < (a1.length:Int) then ((cL k ((nth a1 (IntKind.wrap .i64 (a0 - 2))).low) a1 a2 a3).bind fun y6=>((cL k ((nth a1 (IntKind.wrap .i64 (a0 - 2))).high) a1 y6.2.1 y6.2.2).bind fun y7=>(if (y7.2.2.length+([(⟨(nth a1 (IntKind.wrap .i64 (a0 - 2))).var,y6.1,y7.1⟩:ai)]:List ai).length)*24≤140737488355328 then (if (0:Int)≤(IntKind.wrap .i64 (a0 - 2))∧(IntKind.wrap .i64 (a0 - 2)) < (y7.2.1.length:Int) then some ((IntKind.wrap .i64 (((y7.2.2++([(⟨(nth a1 (IntKind.wrap .i64 (a0 - 2))).var,y6.1,y7.1⟩:ai)]:List ai)).length:Int)+1)),(y7.2.1.set (Int.toNat (IntKind.wrap .i64 (a0 - 2))) (IntKind.wrap .i64 (((y7.2.2++([(⟨(nth a1 (IntKind.wrap .i64 (a0 - 2))).var,y6.1,y7.1⟩:ai)]:List ai)).length:Int)+1))),(y7.2.2++([(⟨(nth a1 (IntKind.wrap .i64 (a0 - 2))).var,y6.1,y7.1⟩:ai)]:List ai))) else none) else none))) else none)) else none))
theorem j3:type_of% (@cL.eq_2):=@cL.eq_2
set_option maxRecDepth 100000 in
set_option maxHeartbeats 4000000 in
theorem k8 (k:Nat)(a0:Int)(a1:List ai)(a2:List Int)(a3:List ai)(r:Int×(List Int)×(List ai))(h:cL k a0 a1 a2 a3=some r):SC P 234 [.ptr 0 0,di a0] [(.var [.d (af 3 ag a1),.osl 1 0 a2.length 1,.osl 2 0 a3.length 3]),(.arr 1 a2.length false (row (eI .i64) a2)),(.arr 3 a3.length false (row ag a3))] (di r.1) [.live (.var [.d (af 3 ag a1),.osl 1 0 r.2.1.length 1,.osl 3 0 r.2.2.length 3]),.live (.arr 1 r.2.1.length false (row (eI .i64) r.2.1)),.freed,.live (.arr 3 r.2.2.length false (row ag r.2.2))]:=by
 induction k generalizing a0 a1 a2 a3 r with
 | zero=>
  have h:(none:Option (Int×(List Int)×(List ai)))=some r:=h
  cases h
 | succ k ihr=>
 have h:=(j3 ..).symm.trans h
 refine SC.intro3 (N:=77) Tryz.func234 rfl rfl Tryz.ntmps234 rfl ?_
 refine aa.sr (ab.ev0n [0] [] [] ?_)
 refine aa.seq ?_
 refine aa.sr (ab.ev0n [0,0] [(9,db (decide (a0 < 2)))] [] ?_)
 refine aa.condI h rfl (fun hc1 h=>?_) (fun hc1 h=>?_)
 ·
  refine aa.sr (ab.ev0n [0,0] [(4,di a0)] [] ?_)
  refine aa.ret ?_
  cases h
  exact ⟨_,(GStep.trans (GStep.keep [4]) (GStep.reid 2 rfl)),.inr rfl,Fin.mk2 (aB.one (.tmp rfl)) [0,1,2,3] (by decide) rfl rfl rfl rfl⟩
 refine aa.skip ?_
 refine aa.seq ?_
 refine aa.seq ?_
 refine aD h fun hb2 h=>?_
 refine aa.region (ab.ev0 [0,0,0,0,0,0,0] [(17,.eptr 1 (Int.toNat (IntKind.wrap .i64 (a0 - 2))) 0 1)] [⟨_,hb2.1⟩,⟨_,hb2.2⟩] ?_)
 refine ab.step (ae.loadE rfl rfl aX rfl (by have:=hb2; omega) rfl) rfl rfl rfl ?_
 refine ab.ev0n [0] [(19,db (decide ((a2.getD (Int.toNat (IntKind.wrap .i64 (a0 - 2))) default) > 0)))] [] ?_
 refine aa.condI h rfl (fun hc3 h=>?_) (fun hc3 h=>?_)
 ·
  refine aa.seq ?_
  refine aD h fun hb4 h=>?_
  refine aa.region (ab.ev0 [0,0,0,0,0,0,0] [(26,.eptr 1 (Int.toNat (IntKind.wrap .i64 (a0 - 2))) 0 1)] [⟨_,hb4.1⟩,⟨_,hb4.2⟩] ?_)
  refine ab.step (ae.loadE rfl rfl aX rfl (by have:=hb4; omega) rfl) rfl rfl rfl ?_
  refine ab.ev0n [0] [(4,di (a2.getD (Int.toNat (IntKind.wrap .i64 (a0 - 2))) default))] [] ?_
  refine aa.ret ?_
  cases h
  exact ⟨_,(GStep.trans (GStep.keep [4]) (GStep.reid 2 rfl)),.inr rfl,Fin.mk2 (aB.one (.tmp rfl)) [0,1,2,3] (by decide) rfl rfl rfl rfl⟩
 refine aa.skip ?_
 refine aa.seq ?_
 refine aD h fun hb5 h=>?_
 refine aa.region (ab.evn (h':=[.live (.var [.d (af 3 ag a1),.osl 1 0 a2.length 1,.osl 2 0 a3.length 3]),.live (.arr 1 a2.length false (row (eI .i64) a2)),.live (.arr 3 a3.length false (row ag a3)),.live (.var (aK (nth a1 (IntKind.wrap .i64 (a0 - 2)))))]) [0,0,0,0,0,0,0,0,0,0] [(5,.ptr 3 0)] [⟨_,hb5.1⟩,⟨_,hb5.2⟩] ?_)
 refine aa.seq ?_
 refine ao h fun y6 hy6 h=>?_
 refine aa.region (ab.ev0 [0,0,0] [(36,.ptr 0 0),(38,di ((nth a1 (IntKind.wrap .i64 (a0 - 2))).low))] [] ?_)
 refine ab.step (v:=di y6.1) (ae.callS [0,1,2] (ihr ((nth a1 (IntKind.wrap .i64 (a0 - 2))).low) a1 a2 a3 _ hy6) rfl rfl ⟨rfl,rfl,trivial⟩ (by decide) rfl rfl ⟨⟨rfl,rfl⟩,⟨rfl,rfl⟩,⟨rfl,rfl⟩,trivial⟩) rfl rfl rfl ?_
 refine ab.hp (h':=[.live (.var [.d (af 3 ag a1),.osl 1 0 y6.2.1.length 1,.osl 4 0 y6.2.2.length 3]),.live (.arr 1 y6.2.1.length false (row (eI .i64) y6.2.1)),.freed,.live (.var (aK (nth a1 (IntKind.wrap .i64 (a0 - 2))))),.live (.arr 3 y6.2.2.length false (row ag y6.2.2))]) (by kernel_rfl) ?_
 refine ab.ev0n [0] [(6,di y6.1)] [] ?_
 refine aa.seq ?_
 refine ao h fun y7 hy7 h=>?_
 refine aa.region (ab.ev0 [0,0,0] [(40,.ptr 0 0),(42,di ((nth a1 (IntKind.wrap .i64 (a0 - 2))).high))] [] ?_)
 refine ab.step (v:=di y7.1) (ae.callS [0,1,4] (ihr ((nth a1 (IntKind.wrap .i64 (a0 - 2))).high) a1 y6.2.1 y6.2.2 _ hy7) rfl rfl ⟨rfl,rfl,trivial⟩ (by decide) rfl rfl ⟨⟨rfl,rfl⟩,⟨rfl,rfl⟩,⟨rfl,rfl⟩,trivial⟩) rfl rfl rfl ?_
 refine ab.hp (h':=[.live (.var [.d (af 3 ag a1),.osl 1 0 y7.2.1.length 1,.osl 5 0 y7.2.2.length 3]),.live (.arr 1 y7.2.1.length false (row (eI .i64) y7.2.1)),.freed,.live (.var (aK (nth a1 (IntKind.wrap .i64 (a0 - 2))))),.freed,.live (.arr 3 y7.2.2.length false (row ag y7.2.2))]) (by kernel_rfl) ?_
 refine ab.ev0n [0] [(7,di y7.1)] [] ?_
 refine aa.seq ?_
 refine aD h fun hz8 h=>?_
 refine aa.ghost (GStep.resv 1) ?_
 refine aa.regionAny mixed (s':=?s11) (qs:=[⟨[0],[],[],[0],[]⟩,⟨[0],[],[],[0],[]⟩,⟨[45],[],[],[0],[]⟩,⟨[46],[],[],[0],[]⟩,⟨[47],[0],[],[1,5],[]⟩,⟨[5],[],[],[3],[]⟩,⟨[49],[3],[],[],[]⟩,⟨[6],[],[],[],[]⟩,⟨[7],[],[],[],[]⟩,⟨[50,51,52],[],[],[],[]⟩,⟨[53],[],[],[],[]⟩,⟨[48,54],[],[5,6],[],[6]⟩,⟨[44],[],[],[0],[]⟩,⟨[56],[],[],[0],[]⟩,⟨[55,57],[],[0],[1,5,6],[]⟩]) ?_ (by kernel_rfl) ?_
 rotate_left
 ·
  refine Steps.runQ [0] [] [0] (v:=.ptr 0 0) (ae.move rfl rfl) rfl (by kernel_rfl) (by kernel_rfl) ?_
  refine Steps.runQ [0] [] [0] (v:=.ptr 0 0) (ae.move rfl rfl) rfl (by kernel_rfl) (by kernel_rfl) ?_
  refine Steps.runQ [45] [] [0] (v:=.ptr 0 0) (ae.nilCheck rfl rfl) rfl (by kernel_rfl) (by kernel_rfl) ?_
  refine Steps.runQ [46] [] [0] (v:=.ptr 0 2) (ae.fieldAddr (id:=0) (off:=0) (fo:=2) rfl rfl jg rfl rfl) rfl (by kernel_rfl) (by kernel_rfl) ?_
  refine Steps.runQ [47] [0] [1,5] (v:=.osl 5 0 y7.2.2.length 3) (ae.load rfl rfl gN rfl rfl) rfl (by kernel_rfl) (by kernel_rfl) ?_
  refine Steps.runQ [5] [] [3] (v:=.ptr 3 0) (ae.fieldAddr (id:=3) (off:=0) (fo:=0) rfl rfl dn rfl rfl) rfl (by kernel_rfl) (by kernel_rfl) ?_
  refine Steps.runQ [49] [3] [] (v:=di ((nth a1 (IntKind.wrap .i64 (a0 - 2))).var)) (ae.load rfl rfl aX rfl rfl) rfl (by kernel_rfl) (by kernel_rfl) ?_
  refine Steps.runQ [6] [] [] (v:=di y6.1) (ae.move rfl rfl) rfl (by kernel_rfl) (by kernel_rfl) ?_
  refine Steps.runQ [7] [] [] (v:=di y7.1) (ae.move rfl rfl) rfl (by kernel_rfl) (by kernel_rfl) ?_
  refine Steps.runQ [50,51,52] [] [] (v:=.agg (aK (⟨(nth a1 (IntKind.wrap .i64 (a0 - 2))).var,y6.1,y7.1⟩:ai))) (ae.build rfl dn ji rfl) rfl (by kernel_rfl) (by kernel_rfl) ?_
  refine Steps.runQ [53] [] [] (v:=.d (af 3 ag ([(⟨(nth a1 (IntKind.wrap .i64 (a0 - 2))).var,y6.1,y7.1⟩:ai)]:List ai))) (ae.bsliceX [di ((nth a1 (IntKind.wrap .i64 (a0 - 2))).var),di y6.1,di y7.1] [.d (.int .i64 ((nth a1 (IntKind.wrap .i64 (a0 - 2))).var)),.d (.int .i64 y6.1),.d (.int .i64 y7.1)] (row ag ([(⟨(nth a1 (IntKind.wrap .i64 (a0 - 2))).var,y6.1,y7.1⟩:ai)]:List ai)) rfl dP ji rfl rfl (by kernel_rfl) ⟨rfl,rfl,rfl,trivial⟩ (by kernel_rfl) (by kernel_rfl)) rfl (by kernel_rfl) (by kernel_rfl) ?_
  refine Steps.run [48,54] [] [5,6] [] [6] (v:=.osl 6 0 ((y7.2.2++([(⟨(nth a1 (IntKind.wrap .i64 (a0 - 2))).var,y6.1,y7.1⟩:ai)]:List ai)).length) 3) (ae.put [6] (ae.appTn ag y7.2.2 ([(⟨(nth a1 (IntKind.wrap .i64 (a0 - 2))).var,y6.1,y7.1⟩:ai)]:List ai) rfl rfl rfl rfl rfl dP mY pF rfl hz8) (by decide) rfl rfl rfl) rfl (by kernel_rfl) (by kernel_rfl) (by kernel_rfl) (by kernel_rfl) ?_
  refine Steps.hp (h':=[.live (.var [.d (af 3 ag a1),.osl 1 0 y7.2.1.length 1,.osl 5 0 y7.2.2.length 3]),.live (.arr 1 y7.2.1.length false (row (eI .i64) y7.2.1)),.freed,.live (.var (aK (nth a1 (IntKind.wrap .i64 (a0 - 2))))),.freed,.freed,.live (.arr 3 ((y7.2.2++([(⟨(nth a1 (IntKind.wrap .i64 (a0 - 2))).var,y6.1,y7.1⟩:ai)]:List ai)).length) false (row ag (y7.2.2++([(⟨(nth a1 (IntKind.wrap .i64 (a0 - 2))).var,y6.1,y7.1⟩:ai)]:List ai))))]) rfl ?_
  refine Steps.runQ [44] [] [0] (v:=.ptr 0 0) (ae.nilCheck rfl rfl) rfl (by kernel_rfl) (by kernel_rfl) ?_
  refine Steps.runQ [56] [] [0] (v:=.ptr 0 2) (ae.fieldAddr (id:=0) (off:=0) (fo:=2) rfl rfl jg rfl rfl) rfl (by kernel_rfl) (by kernel_rfl) ?_
  refine Steps.run [55,57] [] [0] [1,5,6] [] (ae.store rfl rfl rfl gN rfl rfl rfl rfl rfl) rfl (by kernel_rfl) (by kernel_rfl) (by kernel_rfl) (by kernel_rfl) ?_
  refine Steps.hp (h':=[.live (.var [.d (af 3 ag a1),.osl 1 0 y7.2.1.length 1,.osl 6 0 ((y7.2.2++([(⟨(nth a1 (IntKind.wrap .i64 (a0 - 2))).var,y6.1,y7.1⟩:ai)]:List ai)).length) 3]),.live (.arr 1 y7.2.1.length false (row (eI .i64) y7.2.1)),.freed,.live (.var (aK (nth a1 (IntKind.wrap .i64 (a0 - 2))))),.freed,.freed,.live (.arr 3 ((y7.2.2++([(⟨(nth a1 (IntKind.wrap .i64 (a0 - 2))).var,y6.1,y7.1⟩:ai)]:List ai)).length) false (row ag (y7.2.2++([(⟨(nth a1 (IntKind.wrap .i64 (a0 - 2))).var,y6.1,y7.1⟩:ai)]:List ai))))]) rfl ?_
  exact Steps.nil _
 refine aa.seq ?_
 refine aD h fun hb9 h=>?_
 refine aa.regionAny mixed (s':=?s10) (qs:=[⟨[0],[],[],[0],[]⟩,⟨[58],[],[],[0],[]⟩,⟨[59],[],[],[0],[]⟩,⟨[60],[0],[],[1,6],[]⟩,⟨[1],[],[],[],[]⟩,⟨[62],[],[],[],[]⟩,⟨[0],[],[],[0],[]⟩,⟨[64],[],[],[0],[]⟩,⟨[65],[],[],[0],[]⟩,⟨[66],[0],[],[1,6],[]⟩,⟨[67],[],[],[6],[]⟩,⟨[68],[],[],[],[]⟩,⟨[61,63],[],[],[1],[]⟩,⟨[69,70],[],[1],[],[]⟩]) ?_ (by kernel_rfl) ?_
 rotate_left
 ·
  refine Steps.runQ [0] [] [0] (v:=.ptr 0 0) (ae.move rfl rfl) rfl (by kernel_rfl) (by kernel_rfl) ?_
  refine Steps.runQ [58] [] [0] (v:=.ptr 0 0) (ae.nilCheck rfl rfl) rfl (by kernel_rfl) (by kernel_rfl) ?_
  refine Steps.runQ [59] [] [0] (v:=.ptr 0 1) (ae.fieldAddr (id:=0) (off:=0) (fo:=1) rfl rfl jg rfl rfl) rfl (by kernel_rfl) (by kernel_rfl) ?_
  refine Steps.runQ [60] [0] [1,6] (v:=.osl 1 0 y7.2.1.length 1) (ae.load rfl rfl yI rfl rfl) rfl (by kernel_rfl) (by kernel_rfl) ?_
  refine Steps.runQ [1] [] [] (v:=di a0) (ae.move rfl rfl) rfl (by kernel_rfl) (by kernel_rfl) ?_
  refine Steps.runQ [62] [] [] (v:=di (IntKind.wrap .i64 (a0 - 2))) (ae.subI (k:=.i64) (m:=a0) (n:=2) rfl rfl rfl) rfl (by kernel_rfl) (by kernel_rfl) ?_
  refine Steps.runQ [0] [] [0] (v:=.ptr 0 0) (ae.move rfl rfl) rfl (by kernel_rfl) (by kernel_rfl) ?_
  refine Steps.runQ [64] [] [0] (v:=.ptr 0 0) (ae.nilCheck rfl rfl) rfl (by kernel_rfl) (by kernel_rfl) ?_
  refine Steps.runQ [65] [] [0] (v:=.ptr 0 2) (ae.fieldAddr (id:=0) (off:=0) (fo:=2) rfl rfl jg rfl rfl) rfl (by kernel_rfl) (by kernel_rfl) ?_
  refine Steps.runQ [66] [0] [1,6] (v:=.osl 6 0 ((y7.2.2++([(⟨(nth a1 (IntKind.wrap .i64 (a0 - 2))).var,y6.1,y7.1⟩:ai)]:List ai)).length) 3) (ae.load rfl rfl gN rfl rfl) rfl (by kernel_rfl) (by kernel_rfl) ?_
  refine Steps.runQ [67] [] [6] (v:=di ((y7.2.2++([(⟨(nth a1 (IntKind.wrap .i64 (a0 - 2))).var,y6.1,y7.1⟩:ai)]:List ai)).length:Int)) (ae.lenO rfl rfl dP) rfl (by kernel_rfl) (by kernel_rfl) ?_
  refine Steps.runQ [68] [] [] (v:=di (IntKind.wrap .i64 (((y7.2.2++([(⟨(nth a1 (IntKind.wrap .i64 (a0 - 2))).var,y6.1,y7.1⟩:ai)]:List ai)).length:Int)+1))) (ae.addI (k:=.i64) (m:=((y7.2.2++([(⟨(nth a1 (IntKind.wrap .i64 (a0 - 2))).var,y6.1,y7.1⟩:ai)]:List ai)).length:Int)) (n:=1) rfl rfl rfl) rfl (by kernel_rfl) (by kernel_rfl) ?_
  refine Steps.runQ [61,63] [] [1] (v:=.eptr 1 (Int.toNat (IntKind.wrap .i64 (a0 - 2))) 0 1) (ae.indexO0 rfl rfl rfl dQ hb9.1 hb9.2) rfl (by kernel_rfl) (by kernel_rfl) ?_
  refine Steps.run [69,70] [] [1] [] [] (ae.storeN (eI .i64) y7.2.1 (IntKind.wrap .i64 (((y7.2.2++([(⟨(nth a1 (IntKind.wrap .i64 (a0 - 2))).var,y6.1,y7.1⟩:ai)]:List ai)).length:Int)+1)) rfl rfl rfl rfl aX rfl (by have:=hb9; omega) rfl rfl rfl rfl rfl rfl ⟨rfl,trivial⟩) rfl (by kernel_rfl) (by kernel_rfl) (by kernel_rfl) (by kernel_rfl) ?_
  refine Steps.hp (h':=[.live (.var [.d (af 3 ag a1),.osl 1 0 y7.2.1.length 1,.osl 6 0 ((y7.2.2++([(⟨(nth a1 (IntKind.wrap .i64 (a0 - 2))).var,y6.1,y7.1⟩:ai)]:List ai)).length) 3]),.live (.arr 1 y7.2.1.length false (row (eI .i64) (y7.2.1.set (Int.toNat (IntKind.wrap .i64 (a0 - 2))) (IntKind.wrap .i64 (((y7.2.2++([(⟨(nth a1 (IntKind.wrap .i64 (a0 - 2))).var,y6.1,y7.1⟩:ai)]:List ai)).length:Int)+1))))),.freed,.live (.var (aK (nth a1 (IntKind.wrap .i64 (a0 - 2))))),.freed,.freed,.live (.arr 3 ((y7.2.2++([(⟨(nth a1 (IntKind.wrap .i64 (a0 - 2))).var,y6.1,y7.1⟩:ai)]:List ai)).length) false (row ag (y7.2.2++([(⟨(nth a1 (IntKind.wrap .i64 (a0 - 2))).var,y6.1,y7.1⟩:ai)]:List ai))))]) rfl ?_
  exact Steps.nil _
 refine aa.sr (ab.ev0n [0,0,0,0,0,0,0] [(4,di (IntKind.wrap .i64 (((y7.2.2++([(⟨(nth a1 (IntKind.wrap .i64 (a0 - 2))).var,y6.1,y7.1⟩:ai)]:List ai)).length:Int)+1)))] [] ?_)
 refine aa.ret ?_
 cases h
 exact ⟨_,(GStep.trans (GStep.keep [4]) (GStep.trans (GStep.ren [0,1,2,6] (by decide) rfl rfl) (GStep.eqv (s1:=⟨[(4,di (IntKind.wrap .i64 (((y7.2.2++([(⟨(nth a1 (IntKind.wrap .i64 (a0 - 2))).var,y6.1,y7.1⟩:ai)]:List ai)).length:Int)+1)))],[.live (.var [.d (af 3 ag a1),.osl 1 0 y7.2.1.length 1,.osl 3 0 ((y7.2.2++([(⟨(nth a1 (IntKind.wrap .i64 (a0 - 2))).var,y6.1,y7.1⟩:ai)]:List ai)).length) 3]),.live (.arr 1 y7.2.1.length false (row (eI .i64) (y7.2.1.set (Int.toNat (IntKind.wrap .i64 (a0 - 2))) (IntKind.wrap .i64 (((y7.2.2++([(⟨(nth a1 (IntKind.wrap .i64 (a0 - 2))).var,y6.1,y7.1⟩:ai)]:List ai)).length:Int)+1))))),.freed,.live (.arr 3 ((y7.2.2++([(⟨(nth a1 (IntKind.wrap .i64 (a0 - 2))).var,y6.1,y7.1⟩:ai)]:List ai)).length) false (row ag (y7.2.2++([(⟨(nth a1 (IntKind.wrap .i64 (a0 - 2))).var,y6.1,y7.1⟩:ai)]:List ai))))]⟩) (s':=⟨[(4,di (IntKind.wrap .i64 (((y7.2.2++([(⟨(nth a1 (IntKind.wrap .i64 (a0 - 2))).var,y6.1,y7.1⟩:ai)]:List ai)).length:Int)+1)))],[.live (.var [.d (af 3 ag a1),.osl 1 0 ((y7.2.1.set (Int.toNat (IntKind.wrap .i64 (a0 - 2))) (IntKind.wrap .i64 (((y7.2.2++([(⟨(nth a1 (IntKind.wrap .i64 (a0 - 2))).var,y6.1,y7.1⟩:ai)]:List ai)).length:Int)+1))).length) 1,.osl 3 0 ((y7.2.2++([(⟨(nth a1 (IntKind.wrap .i64 (a0 - 2))).var,y6.1,y7.1⟩:ai)]:List ai)).length) 3]),.live (.arr 1 ((y7.2.1.set (Int.toNat (IntKind.wrap .i64 (a0 - 2))) (IntKind.wrap .i64 (((y7.2.2++([(⟨(nth a1 (IntKind.wrap .i64 (a0 - 2))).var,y6.1,y7.1⟩:ai)]:List ai)).length:Int)+1))).length) false (row (eI .i64) (y7.2.1.set (Int.toNat (IntKind.wrap .i64 (a0 - 2))) (IntKind.wrap .i64 (((y7.2.2++([(⟨(nth a1 (IntKind.wrap .i64 (a0 - 2))).var,y6.1,y7.1⟩:ai)]:List ai)).length:Int)+1))))),.freed,.live (.arr 3 ((y7.2.2++([(⟨(nth a1 (IntKind.wrap .i64 (a0 - 2))).var,y6.1,y7.1⟩:ai)]:List ai)).length) false (row ag (y7.2.2++([(⟨(nth a1 (IntKind.wrap .i64 (a0 - 2))).var,y6.1,y7.1⟩:ai)]:List ai))))]⟩) rfl (by simp only [List.length_set])))),.inr rfl,Fin.mk2 (aB.one (.tmp rfl)) [0,1,2,3] (by decide) rfl rfl rfl rfl⟩
noncomputable def ez:(k:Nat)→(a0:Int)→(a1:List ai)→(a2:List Int)→Option (Int×(List Int)×(List ai))
  | 0,_,_,_=>none
  | k+1,a0,a1,a2=>(if (decide (a0 < 2))=true then some (a0,a2,([]:List ai)) else (if (0:Int)≤(IntKind.wrap .i64 (a0 - 2))∧(IntKind.wrap .i64 (a0 - 2)) < (a2.length:Int) then (if (decide ((a2.getD (Int.toNat (IntKind.wrap .i64 (a0 - 2))) default) > 0))=true then (if (0:Int)≤(IntKind.wrap .i64 (a0 - 2))∧(IntKind.wrap .i64 (a0 - 2)) < (a2.length:Int) then some ((a2.getD (Int.toNat (IntKind.wrap .i64 (a0 - 2))) default),a2,([]:List ai)) else none) else (if (0:Int)≤(IntKind.wrap .i64 (a0 - 2))∧(IntKind.wrap .i64 (a0 - 2)) < (a1.length:Int) then ((ez k ((nth a1 (IntKind.wrap .i64 (a0 - 2))).low) a1 a2).bind fun y6=>((cL k ((nth a1 (IntKind.wrap .i64 (a0 - 2))).high) a1 y6.2.1 y6.2.2).bind fun y7=>(if (y7.2.2.length+([(⟨(nth a1 (IntKind.wrap .i64 (a0 - 2))).var,y6.1,y7.1⟩:ai)]:List ai).length)*24≤140737488355328 then (if (0:Int)≤(IntKind.wrap .i64 (a0 - 2))∧(IntKind.wrap .i64 (a0 - 2)) < (y7.2.1.length:Int) then some ((IntKind.wrap .i64 (((y7.2.2++([(⟨(nth a1 (IntKind.wrap .i64 (a0 - 2))).var,y6.1,y7.1⟩:ai)]:List ai)).length:Int)+1)),(y7.2.1.set (Int.toNat (IntKind.wrap .i64 (a0 - 2))) (IntKind.wrap .i64 (((y7.2.2++([(⟨(nth a1 (IntKind.wrap .i64 (a0 - 2))).var,y6.1,y7.1⟩:ai)]:List ai)).length:Int)+1))),(y7.2.2++([(⟨(nth a1 (IntKind.wrap .i64 (a0 - 2))).var,y6.1,y7.1⟩:ai)]:List ai))) else none) else none))) else none)) else none))
theorem lt:type_of% (@ez.eq_2):=@ez.eq_2
set_option maxRecDepth 100000 in
set_option maxHeartbeats 4000000 in
theorem mA (k:Nat)(a0:Int)(a1:List ai)(a2:List Int)(r:Int×(List Int)×(List ai))(h:ez k a0 a1 a2=some r):SC P 234 [.ptr 0 0,di a0] [(.var [.d (af 3 ag a1),.osl 1 0 a2.length 1,.nsl]),(.arr 1 a2.length false (row (eI .i64) a2))] (di r.1) [.live (.var [.d (af 3 ag a1),.osl 1 0 r.2.1.length 1,.osl 2 0 r.2.2.length 3]),.live (.arr 1 r.2.1.length false (row (eI .i64) r.2.1)),.live (.arr 3 r.2.2.length false (row ag r.2.2))]:=by
 induction k generalizing a0 a1 a2 r with
 | zero=>
  have h:(none:Option (Int×(List Int)×(List ai)))=some r:=h
  cases h
 | succ k ihr=>
 have h:=(lt ..).symm.trans h
 refine SC.intro3 (N:=77) Tryz.func234 rfl rfl Tryz.ntmps234 rfl ?_
 refine aa.sr (ab.ev0n [0] [] [] ?_)
 refine aa.seq ?_
 refine aa.sr (ab.ev0n [0,0] [(9,db (decide (a0 < 2)))] [] ?_)
 refine aa.condI h rfl (fun hc1 h=>?_) (fun hc1 h=>?_)
 ·
  refine aa.sr (ab.ev0n [0,0] [(4,di a0)] [] ?_)
  refine aa.ret ?_
  cases h
  exact ⟨_,(GStep.trans (GStep.keep [4]) (GStep.own 0 2 3 (row ag ([]:List ai)) rfl rfl rfl)),.inr rfl,Fin.mk2 (aB.one (.tmp rfl)) [0,1,2] (by decide) rfl rfl rfl rfl⟩
 refine aa.skip ?_
 refine aa.seq ?_
 refine aa.seq ?_
 refine aD h fun hb2 h=>?_
 refine aa.region (ab.ev0 [0,0,0,0,0,0,0] [(17,.eptr 1 (Int.toNat (IntKind.wrap .i64 (a0 - 2))) 0 1)] [⟨_,hb2.1⟩,⟨_,hb2.2⟩] ?_)
 refine ab.step (ae.loadE rfl rfl aX rfl (by have:=hb2; omega) rfl) rfl rfl rfl ?_
 refine ab.ev0n [0] [(19,db (decide ((a2.getD (Int.toNat (IntKind.wrap .i64 (a0 - 2))) default) > 0)))] [] ?_
 refine aa.condI h rfl (fun hc3 h=>?_) (fun hc3 h=>?_)
 ·
  refine aa.seq ?_
  refine aD h fun hb4 h=>?_
  refine aa.region (ab.ev0 [0,0,0,0,0,0,0] [(26,.eptr 1 (Int.toNat (IntKind.wrap .i64 (a0 - 2))) 0 1)] [⟨_,hb4.1⟩,⟨_,hb4.2⟩] ?_)
  refine ab.step (ae.loadE rfl rfl aX rfl (by have:=hb4; omega) rfl) rfl rfl rfl ?_
  refine ab.ev0n [0] [(4,di (a2.getD (Int.toNat (IntKind.wrap .i64 (a0 - 2))) default))] [] ?_
  refine aa.ret ?_
  cases h
  exact ⟨_,(GStep.trans (GStep.keep [4]) (GStep.own 0 2 3 (row ag ([]:List ai)) rfl rfl rfl)),.inr rfl,Fin.mk2 (aB.one (.tmp rfl)) [0,1,2] (by decide) rfl rfl rfl rfl⟩
 refine aa.skip ?_
 refine aa.seq ?_
 refine aD h fun hb5 h=>?_
 refine aa.region (ab.evn (h':=[.live (.var [.d (af 3 ag a1),.osl 1 0 a2.length 1,.nsl]),.live (.arr 1 a2.length false (row (eI .i64) a2)),.live (.var (aK (nth a1 (IntKind.wrap .i64 (a0 - 2)))))]) [0,0,0,0,0,0,0,0,0,0] [(5,.ptr 2 0)] [⟨_,hb5.1⟩,⟨_,hb5.2⟩] ?_)
 refine aa.seq ?_
 refine ao h fun y6 hy6 h=>?_
 refine aa.region (ab.ev0 [0,0,0] [(36,.ptr 0 0),(38,di ((nth a1 (IntKind.wrap .i64 (a0 - 2))).low))] [] ?_)
 refine ab.step (v:=di y6.1) (ae.callS [0,1] (ihr ((nth a1 (IntKind.wrap .i64 (a0 - 2))).low) a1 a2 _ hy6) rfl rfl ⟨rfl,rfl,trivial⟩ (by decide) rfl rfl ⟨⟨rfl,rfl⟩,⟨rfl,rfl⟩,trivial⟩) rfl rfl rfl ?_
 refine ab.hp (h':=[.live (.var [.d (af 3 ag a1),.osl 1 0 y6.2.1.length 1,.osl 3 0 y6.2.2.length 3]),.live (.arr 1 y6.2.1.length false (row (eI .i64) y6.2.1)),.live (.var (aK (nth a1 (IntKind.wrap .i64 (a0 - 2))))),.live (.arr 3 y6.2.2.length false (row ag y6.2.2))]) (by kernel_rfl) ?_
 refine ab.ev0n [0] [(6,di y6.1)] [] ?_
 refine aa.seq ?_
 refine ao h fun y7 hy7 h=>?_
 refine aa.region (ab.ev0 [0,0,0] [(40,.ptr 0 0),(42,di ((nth a1 (IntKind.wrap .i64 (a0 - 2))).high))] [] ?_)
 refine ab.step (v:=di y7.1) (ae.callS [0,1,3] (k8 k ((nth a1 (IntKind.wrap .i64 (a0 - 2))).high) a1 y6.2.1 y6.2.2 _ hy7) rfl rfl ⟨rfl,rfl,trivial⟩ (by decide) rfl rfl ⟨⟨rfl,rfl⟩,⟨rfl,rfl⟩,⟨rfl,rfl⟩,trivial⟩) rfl rfl rfl ?_
 refine ab.hp (h':=[.live (.var [.d (af 3 ag a1),.osl 1 0 y7.2.1.length 1,.osl 4 0 y7.2.2.length 3]),.live (.arr 1 y7.2.1.length false (row (eI .i64) y7.2.1)),.live (.var (aK (nth a1 (IntKind.wrap .i64 (a0 - 2))))),.freed,.live (.arr 3 y7.2.2.length false (row ag y7.2.2))]) (by kernel_rfl) ?_
 refine ab.ev0n [0] [(7,di y7.1)] [] ?_
 refine aa.seq ?_
 refine aD h fun hz8 h=>?_
 refine aa.ghost (GStep.resv 1) ?_
 refine aa.regionAny mixed (s':=?s11) (qs:=[⟨[0],[],[],[0],[]⟩,⟨[0],[],[],[0],[]⟩,⟨[45],[],[],[0],[]⟩,⟨[46],[],[],[0],[]⟩,⟨[47],[0],[],[1,4],[]⟩,⟨[5],[],[],[2],[]⟩,⟨[49],[2],[],[],[]⟩,⟨[6],[],[],[],[]⟩,⟨[7],[],[],[],[]⟩,⟨[50,51,52],[],[],[],[]⟩,⟨[53],[],[],[],[]⟩,⟨[48,54],[],[4,5],[],[5]⟩,⟨[44],[],[],[0],[]⟩,⟨[56],[],[],[0],[]⟩,⟨[55,57],[],[0],[1,4,5],[]⟩]) ?_ (by kernel_rfl) ?_
 rotate_left
 ·
  refine Steps.runQ [0] [] [0] (v:=.ptr 0 0) (ae.move rfl rfl) rfl (by kernel_rfl) (by kernel_rfl) ?_
  refine Steps.runQ [0] [] [0] (v:=.ptr 0 0) (ae.move rfl rfl) rfl (by kernel_rfl) (by kernel_rfl) ?_
  refine Steps.runQ [45] [] [0] (v:=.ptr 0 0) (ae.nilCheck rfl rfl) rfl (by kernel_rfl) (by kernel_rfl) ?_
  refine Steps.runQ [46] [] [0] (v:=.ptr 0 2) (ae.fieldAddr (id:=0) (off:=0) (fo:=2) rfl rfl jg rfl rfl) rfl (by kernel_rfl) (by kernel_rfl) ?_
  refine Steps.runQ [47] [0] [1,4] (v:=.osl 4 0 y7.2.2.length 3) (ae.load rfl rfl gN rfl rfl) rfl (by kernel_rfl) (by kernel_rfl) ?_
  refine Steps.runQ [5] [] [2] (v:=.ptr 2 0) (ae.fieldAddr (id:=2) (off:=0) (fo:=0) rfl rfl dn rfl rfl) rfl (by kernel_rfl) (by kernel_rfl) ?_
  refine Steps.runQ [49] [2] [] (v:=di ((nth a1 (IntKind.wrap .i64 (a0 - 2))).var)) (ae.load rfl rfl aX rfl rfl) rfl (by kernel_rfl) (by kernel_rfl) ?_
  refine Steps.runQ [6] [] [] (v:=di y6.1) (ae.move rfl rfl) rfl (by kernel_rfl) (by kernel_rfl) ?_
  refine Steps.runQ [7] [] [] (v:=di y7.1) (ae.move rfl rfl) rfl (by kernel_rfl) (by kernel_rfl) ?_
  refine Steps.runQ [50,51,52] [] [] (v:=.agg (aK (⟨(nth a1 (IntKind.wrap .i64 (a0 - 2))).var,y6.1,y7.1⟩:ai))) (ae.build rfl dn ji rfl) rfl (by kernel_rfl) (by kernel_rfl) ?_
  refine Steps.runQ [53] [] [] (v:=.d (af 3 ag ([(⟨(nth a1 (IntKind.wrap .i64 (a0 - 2))).var,y6.1,y7.1⟩:ai)]:List ai))) (ae.bsliceX [di ((nth a1 (IntKind.wrap .i64 (a0 - 2))).var),di y6.1,di y7.1] [.d (.int .i64 ((nth a1 (IntKind.wrap .i64 (a0 - 2))).var)),.d (.int .i64 y6.1),.d (.int .i64 y7.1)] (row ag ([(⟨(nth a1 (IntKind.wrap .i64 (a0 - 2))).var,y6.1,y7.1⟩:ai)]:List ai)) rfl dP ji rfl rfl (by kernel_rfl) ⟨rfl,rfl,rfl,trivial⟩ (by kernel_rfl) (by kernel_rfl)) rfl (by kernel_rfl) (by kernel_rfl) ?_
  refine Steps.run [48,54] [] [4,5] [] [5] (v:=.osl 5 0 ((y7.2.2++([(⟨(nth a1 (IntKind.wrap .i64 (a0 - 2))).var,y6.1,y7.1⟩:ai)]:List ai)).length) 3) (ae.put [5] (ae.appTn ag y7.2.2 ([(⟨(nth a1 (IntKind.wrap .i64 (a0 - 2))).var,y6.1,y7.1⟩:ai)]:List ai) rfl rfl rfl rfl rfl dP mY pF rfl hz8) (by decide) rfl rfl rfl) rfl (by kernel_rfl) (by kernel_rfl) (by kernel_rfl) (by kernel_rfl) ?_
  refine Steps.hp (h':=[.live (.var [.d (af 3 ag a1),.osl 1 0 y7.2.1.length 1,.osl 4 0 y7.2.2.length 3]),.live (.arr 1 y7.2.1.length false (row (eI .i64) y7.2.1)),.live (.var (aK (nth a1 (IntKind.wrap .i64 (a0 - 2))))),.freed,.freed,.live (.arr 3 ((y7.2.2++([(⟨(nth a1 (IntKind.wrap .i64 (a0 - 2))).var,y6.1,y7.1⟩:ai)]:List ai)).length) false (row ag (y7.2.2++([(⟨(nth a1 (IntKind.wrap .i64 (a0 - 2))).var,y6.1,y7.1⟩:ai)]:List ai))))]) rfl ?_
  refine Steps.runQ [44] [] [0] (v:=.ptr 0 0) (ae.nilCheck rfl rfl) rfl (by kernel_rfl) (by kernel_rfl) ?_
  refine Steps.runQ [56] [] [0] (v:=.ptr 0 2) (ae.fieldAddr (id:=0) (off:=0) (fo:=2) rfl rfl jg rfl rfl) rfl (by kernel_rfl) (by kernel_rfl) ?_
  refine Steps.run [55,57] [] [0] [1,4,5] [] (ae.store rfl rfl rfl gN rfl rfl rfl rfl rfl) rfl (by kernel_rfl) (by kernel_rfl) (by kernel_rfl) (by kernel_rfl) ?_
  refine Steps.hp (h':=[.live (.var [.d (af 3 ag a1),.osl 1 0 y7.2.1.length 1,.osl 5 0 ((y7.2.2++([(⟨(nth a1 (IntKind.wrap .i64 (a0 - 2))).var,y6.1,y7.1⟩:ai)]:List ai)).length) 3]),.live (.arr 1 y7.2.1.length false (row (eI .i64) y7.2.1)),.live (.var (aK (nth a1 (IntKind.wrap .i64 (a0 - 2))))),.freed,.freed,.live (.arr 3 ((y7.2.2++([(⟨(nth a1 (IntKind.wrap .i64 (a0 - 2))).var,y6.1,y7.1⟩:ai)]:List ai)).length) false (row ag (y7.2.2++([(⟨(nth a1 (IntKind.wrap .i64 (a0 - 2))).var,y6.1,y7.1⟩:ai)]:List ai))))]) rfl ?_
  exact Steps.nil _
 refine aa.seq ?_
 refine aD h fun hb9 h=>?_
 refine aa.regionAny mixed (s':=?s10) (qs:=[⟨[0],[],[],[0],[]⟩,⟨[58],[],[],[0],[]⟩,⟨[59],[],[],[0],[]⟩,⟨[60],[0],[],[1,5],[]⟩,⟨[1],[],[],[],[]⟩,⟨[62],[],[],[],[]⟩,⟨[0],[],[],[0],[]⟩,⟨[64],[],[],[0],[]⟩,⟨[65],[],[],[0],[]⟩,⟨[66],[0],[],[1,5],[]⟩,⟨[67],[],[],[5],[]⟩,⟨[68],[],[],[],[]⟩,⟨[61,63],[],[],[1],[]⟩,⟨[69,70],[],[1],[],[]⟩]) ?_ (by kernel_rfl) ?_
 rotate_left
 ·
  refine Steps.runQ [0] [] [0] (v:=.ptr 0 0) (ae.move rfl rfl) rfl (by kernel_rfl) (by kernel_rfl) ?_
  refine Steps.runQ [58] [] [0] (v:=.ptr 0 0) (ae.nilCheck rfl rfl) rfl (by kernel_rfl) (by kernel_rfl) ?_
  refine Steps.runQ [59] [] [0] (v:=.ptr 0 1) (ae.fieldAddr (id:=0) (off:=0) (fo:=1) rfl rfl jg rfl rfl) rfl (by kernel_rfl) (by kernel_rfl) ?_
  refine Steps.runQ [60] [0] [1,5] (v:=.osl 1 0 y7.2.1.length 1) (ae.load rfl rfl yI rfl rfl) rfl (by kernel_rfl) (by kernel_rfl) ?_
  refine Steps.runQ [1] [] [] (v:=di a0) (ae.move rfl rfl) rfl (by kernel_rfl) (by kernel_rfl) ?_
  refine Steps.runQ [62] [] [] (v:=di (IntKind.wrap .i64 (a0 - 2))) (ae.subI (k:=.i64) (m:=a0) (n:=2) rfl rfl rfl) rfl (by kernel_rfl) (by kernel_rfl) ?_
  refine Steps.runQ [0] [] [0] (v:=.ptr 0 0) (ae.move rfl rfl) rfl (by kernel_rfl) (by kernel_rfl) ?_
  refine Steps.runQ [64] [] [0] (v:=.ptr 0 0) (ae.nilCheck rfl rfl) rfl (by kernel_rfl) (by kernel_rfl) ?_
  refine Steps.runQ [65] [] [0] (v:=.ptr 0 2) (ae.fieldAddr (id:=0) (off:=0) (fo:=2) rfl rfl jg rfl rfl) rfl (by kernel_rfl) (by kernel_rfl) ?_
  refine Steps.runQ [66] [0] [1,5] (v:=.osl 5 0 ((y7.2.2++([(⟨(nth a1 (IntKind.wrap .i64 (a0 - 2))).var,y6.1,y7.1⟩:ai)]:List ai)).length) 3) (ae.load rfl rfl gN rfl rfl) rfl (by kernel_rfl) (by kernel_rfl) ?_
  refine Steps.runQ [67] [] [5] (v:=di ((y7.2.2++([(⟨(nth a1 (IntKind.wrap .i64 (a0 - 2))).var,y6.1,y7.1⟩:ai)]:List ai)).length:Int)) (ae.lenO rfl rfl dP) rfl (by kernel_rfl) (by kernel_rfl) ?_
  refine Steps.runQ [68] [] [] (v:=di (IntKind.wrap .i64 (((y7.2.2++([(⟨(nth a1 (IntKind.wrap .i64 (a0 - 2))).var,y6.1,y7.1⟩:ai)]:List ai)).length:Int)+1))) (ae.addI (k:=.i64) (m:=((y7.2.2++([(⟨(nth a1 (IntKind.wrap .i64 (a0 - 2))).var,y6.1,y7.1⟩:ai)]:List ai)).length:Int)) (n:=1) rfl rfl rfl) rfl (by kernel_rfl) (by kernel_rfl) ?_
  refine Steps.runQ [61,63] [] [1] (v:=.eptr 1 (Int.toNat (IntKind.wrap .i64 (a0 - 2))) 0 1) (ae.indexO0 rfl rfl rfl dQ hb9.1 hb9.2) rfl (by kernel_rfl) (by kernel_rfl) ?_
  refine Steps.run [69,70] [] [1] [] [] (ae.storeN (eI .i64) y7.2.1 (IntKind.wrap .i64 (((y7.2.2++([(⟨(nth a1 (IntKind.wrap .i64 (a0 - 2))).var,y6.1,y7.1⟩:ai)]:List ai)).length:Int)+1)) rfl rfl rfl rfl aX rfl (by have:=hb9; omega) rfl rfl rfl rfl rfl rfl ⟨rfl,trivial⟩) rfl (by kernel_rfl) (by kernel_rfl) (by kernel_rfl) (by kernel_rfl) ?_
  refine Steps.hp (h':=[.live (.var [.d (af 3 ag a1),.osl 1 0 y7.2.1.length 1,.osl 5 0 ((y7.2.2++([(⟨(nth a1 (IntKind.wrap .i64 (a0 - 2))).var,y6.1,y7.1⟩:ai)]:List ai)).length) 3]),.live (.arr 1 y7.2.1.length false (row (eI .i64) (y7.2.1.set (Int.toNat (IntKind.wrap .i64 (a0 - 2))) (IntKind.wrap .i64 (((y7.2.2++([(⟨(nth a1 (IntKind.wrap .i64 (a0 - 2))).var,y6.1,y7.1⟩:ai)]:List ai)).length:Int)+1))))),.live (.var (aK (nth a1 (IntKind.wrap .i64 (a0 - 2))))),.freed,.freed,.live (.arr 3 ((y7.2.2++([(⟨(nth a1 (IntKind.wrap .i64 (a0 - 2))).var,y6.1,y7.1⟩:ai)]:List ai)).length) false (row ag (y7.2.2++([(⟨(nth a1 (IntKind.wrap .i64 (a0 - 2))).var,y6.1,y7.1⟩:ai)]:List ai))))]) rfl ?_
  exact Steps.nil _
 refine aa.sr (ab.ev0n [0,0,0,0,0,0,0] [(4,di (IntKind.wrap .i64 (((y7.2.2++([(⟨(nth a1 (IntKind.wrap .i64 (a0 - 2))).var,y6.1,y7.1⟩:ai)]:List ai)).length:Int)+1)))] [] ?_)
 refine aa.ret ?_
 cases h
 exact ⟨_,(GStep.trans (GStep.keep [4]) (GStep.trans (GStep.ren [0,1,5] (by decide) rfl rfl) (GStep.eqv (s1:=⟨[(4,di (IntKind.wrap .i64 (((y7.2.2++([(⟨(nth a1 (IntKind.wrap .i64 (a0 - 2))).var,y6.1,y7.1⟩:ai)]:List ai)).length:Int)+1)))],[.live (.var [.d (af 3 ag a1),.osl 1 0 y7.2.1.length 1,.osl 2 0 ((y7.2.2++([(⟨(nth a1 (IntKind.wrap .i64 (a0 - 2))).var,y6.1,y7.1⟩:ai)]:List ai)).length) 3]),.live (.arr 1 y7.2.1.length false (row (eI .i64) (y7.2.1.set (Int.toNat (IntKind.wrap .i64 (a0 - 2))) (IntKind.wrap .i64 (((y7.2.2++([(⟨(nth a1 (IntKind.wrap .i64 (a0 - 2))).var,y6.1,y7.1⟩:ai)]:List ai)).length:Int)+1))))),.live (.arr 3 ((y7.2.2++([(⟨(nth a1 (IntKind.wrap .i64 (a0 - 2))).var,y6.1,y7.1⟩:ai)]:List ai)).length) false (row ag (y7.2.2++([(⟨(nth a1 (IntKind.wrap .i64 (a0 - 2))).var,y6.1,y7.1⟩:ai)]:List ai))))]⟩) (s':=⟨[(4,di (IntKind.wrap .i64 (((y7.2.2++([(⟨(nth a1 (IntKind.wrap .i64 (a0 - 2))).var,y6.1,y7.1⟩:ai)]:List ai)).length:Int)+1)))],[.live (.var [.d (af 3 ag a1),.osl 1 0 ((y7.2.1.set (Int.toNat (IntKind.wrap .i64 (a0 - 2))) (IntKind.wrap .i64 (((y7.2.2++([(⟨(nth a1 (IntKind.wrap .i64 (a0 - 2))).var,y6.1,y7.1⟩:ai)]:List ai)).length:Int)+1))).length) 1,.osl 2 0 ((y7.2.2++([(⟨(nth a1 (IntKind.wrap .i64 (a0 - 2))).var,y6.1,y7.1⟩:ai)]:List ai)).length) 3]),.live (.arr 1 ((y7.2.1.set (Int.toNat (IntKind.wrap .i64 (a0 - 2))) (IntKind.wrap .i64 (((y7.2.2++([(⟨(nth a1 (IntKind.wrap .i64 (a0 - 2))).var,y6.1,y7.1⟩:ai)]:List ai)).length:Int)+1))).length) false (row (eI .i64) (y7.2.1.set (Int.toNat (IntKind.wrap .i64 (a0 - 2))) (IntKind.wrap .i64 (((y7.2.2++([(⟨(nth a1 (IntKind.wrap .i64 (a0 - 2))).var,y6.1,y7.1⟩:ai)]:List ai)).length:Int)+1))))),.live (.arr 3 ((y7.2.2++([(⟨(nth a1 (IntKind.wrap .i64 (a0 - 2))).var,y6.1,y7.1⟩:ai)]:List ai)).length) false (row ag (y7.2.2++([(⟨(nth a1 (IntKind.wrap .i64 (a0 - 2))).var,y6.1,y7.1⟩:ai)]:List ai))))]⟩) rfl (by simp only [List.length_set])))),.inr rfl,Fin.mk2 (aB.one (.tmp rfl)) [0,1,2] (by decide) rfl rfl rfl rfl⟩
noncomputable def gv (k:Nat)(a0:List ai)(a1:Int):Option ap:=(if 0≤(a0.length:Int)∧Int.toNat (a0.length:Int)*8≤140737488355328 then ((ez k a1 a0 (List.replicate (Int.toNat (a0.length:Int)) (0:Int))).bind fun y2=>some (⟨y2.2.2,y2.1⟩:ap)) else none)
set_option maxRecDepth 100000 in
set_option maxHeartbeats 4000000 in
theorem jt (k:Nat)(a0:List ai)(a1:Int)(r:ap)(h:gv k a0 a1=some r):SC P 214 [.d (af 3 ag a0),di a1] [] (.agg (an r)) []:=by
 unfold gv at h
 refine SC.intro3 (N:=22) Tryz.func214 rfl rfl Tryz.ntmps214 rfl ?_
 refine aa.sr (ab.evn (h':=[.live (.var [.nsl,di 0])]) [0] [(4,.ptr 0 0)] [] ?_)
 refine aa.seq ?_
 refine aD h fun hz1 h=>?_
 refine aa.region (ab.ev0 [0,0,0] [(7,.d (af 3 ag a0)),(9,di (a0.length:Int))] [] ?_)
 refine ab.step (v:=.osl 1 0 ((List.replicate (Int.toNat (a0.length:Int)) (0:Int)).length) 1) (ae.unex (ae.makeT (eI .i64) 0 rfl rfl rfl dQ zw nI rfl rfl rfl rfl ⟨rfl,trivial⟩ hz1.1 hz1.2)) rfl rfl rfl ?_
 refine ab.hp (h':=[.live (.var [.nsl,di 0]),.live (.arr 1 ((List.replicate (Int.toNat (a0.length:Int)) (0:Int)).length) false (row (eI .i64) (List.replicate (Int.toNat (a0.length:Int)) (0:Int))))]) (by kernel_rfl) ?_
 refine ab.evn (h':=[.live (.var [.nsl,di 0]),.live (.arr 1 ((List.replicate (Int.toNat (a0.length:Int)) (0:Int)).length) false (row (eI .i64) (List.replicate (Int.toNat (a0.length:Int)) (0:Int)))),.live (.var [.d (af 3 ag a0),.osl 1 0 ((List.replicate (Int.toNat (a0.length:Int)) (0:Int)).length) 1,.nsl])]) [0,0,0] [(5,.ptr 2 0)] [] ?_
 refine aa.seq ?_
 refine ao h fun y2 hy2 h=>?_
 refine aa.region (ab.ev0 [0,0] [(13,.ptr 2 0),(14,di a1)] [] ?_)
 refine ab.step (v:=di y2.1) (ae.callS [2,1] (mA k a1 a0 (List.replicate (Int.toNat (a0.length:Int)) (0:Int)) _ hy2) rfl rfl ⟨rfl,rfl,trivial⟩ (by decide) rfl rfl ⟨⟨rfl,rfl⟩,⟨rfl,rfl⟩,trivial⟩) rfl rfl rfl ?_
 refine ab.hp (h':=[.live (.var [.nsl,di 0]),.live (.arr 1 y2.2.1.length false (row (eI .i64) y2.2.1)),.live (.var [.d (af 3 ag a0),.osl 1 0 y2.2.1.length 1,.osl 3 0 y2.2.2.length 3]),.live (.arr 3 y2.2.2.length false (row ag y2.2.2))]) (by kernel_rfl) ?_
 refine ab.ev0n [0] [(6,di y2.1)] [] ?_
 refine aa.sr (ab.evn (h':=[.live (.var [.osl 3 0 y2.2.2.length 3,di y2.1]),.live (.arr 1 y2.2.1.length false (row (eI .i64) y2.2.1)),.live (.var [.d (af 3 ag a0),.osl 1 0 y2.2.1.length 1,.osl 3 0 y2.2.2.length 3]),.live (.arr 3 y2.2.2.length false (row ag y2.2.2))]) [0,0,0,0,0,0,0] [] [] ?_)
 refine aa.ret ?_
 cases h
 exact ⟨_,(GStep.trans (GStep.keep [4]) (GStep.trans (GStep.shutG 3 rfl ⟨trivial,trivial⟩ ⟨⟨(fun _=>⟨Nat.le_of_eq (Nat.zero_add _),rfl⟩),trivial,trivial⟩,trivial,⟨trivial,(fun h=>absurd h (by decide)),(fun _=>⟨Nat.le_of_eq (Nat.zero_add _),rfl⟩),trivial⟩,trivial,trivial⟩) (GStep.ren [0] (by decide) rfl rfl))),.inr rfl,Fin.mk2 (aB.one (.cellA rfl bq rfl rfl)) [] (by decide) rfl rfl rfl ⟨rfl,rfl,trivial⟩⟩
noncomputable def fW (k:Nat)(a0:ap)(a1:ap)(a2:Int):Option ap:=((fy k a0.root a1.root a0.nodes a0.root a1.nodes a1.root a2).bind fun y1=>((gv k y1.2.1 y1.1).bind fun y2=>some y2))
set_option maxRecDepth 100000 in
set_option maxHeartbeats 4000000 in
theorem gZ (k:Nat)(a0:ap)(a1:ap)(a2:Int)(r:ap)(h:fW k a0 a1 a2=some r):SC P 166 [.agg (an a0),.agg (an a1),di a2] [] (.agg (an r)) []:=by
 unfold fW at h
 refine SC.intro3 (N:=26) Tryz.func166 rfl rfl Tryz.ntmps166 rfl ?_
 refine aa.sr (ab.evn (h':=[.live (.var (an a0)),.live (.var (an a1)),.live (.var [.nsl,di 0])]) [0,0,0] [(3,.ptr 0 0),(4,.ptr 1 0),(6,.ptr 2 0)] [] ?_)
 refine aa.sr (ab.evn (h':=[.live (.var (an a0)),.live (.var (an a1)),.live (.var [.nsl,di 0]),.live (.var [.d (af 3 ag a0.nodes),di a0.root,.d (af 3 ag a1.nodes),di a1.root,di a2,.nsl,.nsl])]) [0,0,0,0,0,0] [(7,.ptr 3 0)] [] ?_)
 refine aa.seq ?_
 refine ao h fun y1 hy1 h=>?_
 refine aa.region (ab.ev0 [0,0,0,0,0] [(14,.ptr 3 0),(16,di a0.root),(18,di a1.root)] [] ?_)
 refine ab.step (v:=di y1.1) (ae.callS [3] (oh k a0.root a1.root a0.nodes a0.root a1.nodes a1.root a2 _ hy1) rfl rfl ⟨rfl,rfl,rfl,trivial⟩ (by decide) rfl rfl ⟨⟨rfl,rfl⟩,trivial⟩) rfl rfl rfl ?_
 refine ab.hp (h':=[.live (.var (an a0)),.live (.var (an a1)),.live (.var [.nsl,di 0]),.live (.var [.d (af 3 ag a0.nodes),di a0.root,.d (af 3 ag a1.nodes),di a1.root,di a2,.osl 4 0 y1.2.1.length 3,.osl 5 0 y1.2.2.length 3]),.live (.arr 3 y1.2.1.length false (row ag y1.2.1)),.live (.arr 3 y1.2.2.length false (row aZ y1.2.2))]) (by kernel_rfl) ?_
 refine ab.ev0n [0] [(8,di y1.1)] [] ?_
 refine aa.seq ?_
 refine ao h fun y2 hy2 h=>?_
 refine aa.region (ab.ev0 [0,0,0,0,0] [(23,.osl 4 0 y1.2.1.length 3),(24,di y1.1)] [] ?_)
 refine ab.ghost (GStep.trans (GStep.keep [6,23,24]) (GStep.shutG 4 rfl ⟨trivial,(fun _=>⟨Nat.le_of_eq (Nat.zero_add _),rfl⟩),trivial,trivial⟩ ⟨⟨trivial,trivial,trivial⟩,⟨trivial,trivial,trivial⟩,⟨trivial,trivial,trivial⟩,⟨trivial,trivial,trivial,trivial,trivial,(fun _=>⟨Nat.le_of_eq (Nat.zero_add _),rfl⟩),(fun h=>absurd h (by decide)),trivial⟩,trivial,trivial,trivial⟩)) ?_
 refine ab.step (v:=.agg (an y2)) (ae.callS [] (jt k y1.2.1 y1.1 _ hy2) rfl rfl ⟨rfl,rfl,trivial⟩ (by decide) rfl rfl trivial) rfl rfl rfl ?_
 refine ab.evn (h':=[.live (.var (an a0)),.live (.var (an a1)),.live (.var (an y2)),.live (.var [.d (af 3 ag a0.nodes),di a0.root,.d (af 3 ag a1.nodes),di a1.root,di a2,.d (af 3 ag y1.2.1),.osl 5 0 y1.2.2.length 3]),.freed,.live (.arr 3 y1.2.2.length false (row aZ y1.2.2))]) [0] [] [] ?_
 refine aa.ret ?_
 cases h
 exact ⟨_,(GStep.trans (GStep.keep [6]) (GStep.ren [2] (by decide) rfl rfl)),.inr rfl,Fin.mk2 (aB.one (.cellA rfl bq rfl rfl)) [] (by decide) rfl rfl rfl ⟨rfl,rfl,trivial⟩⟩
noncomputable def eY (k:Nat)(a0:ap)(a1:ap):Option ap:=((fW k a0 a1 0).bind fun y1=>some y1)
set_option maxRecDepth 100000 in
set_option maxHeartbeats 4000000 in
theorem hJ (k:Nat)(a0:ap)(a1:ap)(r:ap)(h:eY k a0 a1=some r):SC P 170 [.agg (an a0),.agg (an a1)] [] (.agg (an r)) []:=by
 unfold eY at h
 refine SC.intro3 (N:=8) Tryz.func170 rfl rfl Tryz.ntmps170 rfl ?_
 refine aa.sr (ab.evn (h':=[.live (.var (an a0)),.live (.var (an a1)),.live (.var [.nsl,di 0])]) [0,0,0] [(2,.ptr 0 0),(3,.ptr 1 0),(4,.ptr 2 0)] [] ?_)
 refine aa.seq ?_
 refine ao h fun y1 hy1 h=>?_
 refine aa.region (ab.ev0 [0,0] [(5,.agg (an a0)),(6,.agg (an a1))] [] ?_)
 refine ab.step (v:=.agg (an y1)) (ae.callS [] (gZ k a0 a1 0 _ hy1) rfl rfl ⟨⟨rfl,rfl,trivial⟩,⟨rfl,rfl,trivial⟩,rfl,trivial⟩ (by decide) rfl rfl trivial) rfl rfl rfl ?_
 refine ab.evn (h':=[.live (.var (an a0)),.live (.var (an a1)),.live (.var (an y1))]) [0] [] [] ?_
 refine aa.ret ?_
 cases h
 exact ⟨_,(GStep.trans (GStep.keep [4]) (GStep.ren [2] (by decide) rfl rfl)),.inr rfl,Fin.mk2 (aB.one (.cellA rfl bq rfl rfl)) [] (by decide) rfl rfl rfl ⟨rfl,rfl,trivial⟩⟩
noncomputable def fQ (k:Nat)(a0:ap):Option ap:=((cG true).bind fun y1=>((fW k a0 (⟨[],y1⟩:ap) 2).bind fun y2=>some y2))
set_option maxRecDepth 100000 in
set_option maxHeartbeats 4000000 in
theorem iE (k:Nat)(a0:ap)(r:ap)(h:fQ k a0=some r):SC P 97 [.agg (an a0)] [] (.agg (an r)) []:=by
 unfold fQ at h
 refine SC.intro3 (N:=6) Tryz.func97 rfl rfl Tryz.ntmps97 rfl ?_
 refine aa.sr (ab.evn (h':=[.live (.var (an a0)),.live (.var [.nsl,di 0])]) [0,0] [(1,.ptr 0 0),(2,.ptr 1 0)] [] ?_)
 refine aa.seq ?_
 refine ao h fun y1 hy1 h=>?_
 refine ao h fun y2 hy2 h=>?_
 refine aa.regionAny mixed (s':=?s3) (qs:=[⟨[1],[0],[],[],[]⟩,⟨[],[],[],[],[]⟩,⟨[3,4],[],[],[],[]⟩,⟨[2,5],[],[1],[],[]⟩]) ?_ (by kernel_rfl) ?_
 rotate_left
 ·
  refine Steps.runQ [1] [0] [] (ae.loadA rfl rfl bq rfl rfl) rfl (by kernel_rfl) (by kernel_rfl) ?_
  refine Steps.runQ [] [] [] (v:=.agg [.nsl,di y1]) (ae.callS [] (cI true _ hy1) rfl rfl ⟨rfl,trivial⟩ (by decide) rfl rfl trivial) rfl (by kernel_rfl) (by kernel_rfl) ?_
  refine Steps.runQ [3,4] [] [] (v:=.agg (an y2)) (ae.callS [] (gZ k a0 (⟨[],y1⟩:ap) 2 _ hy2) rfl rfl ⟨⟨rfl,rfl,trivial⟩,⟨trivial,rfl,trivial⟩,rfl,trivial⟩ (by decide) rfl rfl trivial) rfl (by kernel_rfl) (by kernel_rfl) ?_
  refine Steps.run [2,5] [] [1] [] [] (ae.store rfl rfl rfl bq rfl rfl rfl rfl rfl) rfl (by kernel_rfl) (by kernel_rfl) (by kernel_rfl) (by kernel_rfl) ?_
  refine Steps.hp (h':=[.live (.var (an a0)),.live (.var (an y2))]) rfl ?_
  exact Steps.nil _
 refine aa.ret ?_
 cases h
 exact ⟨_,(GStep.trans (GStep.keep [2]) (GStep.ren [1] (by decide) rfl rfl)),.inr rfl,Fin.mk2 (aB.one (.cellA rfl bq rfl rfl)) [] (by decide) rfl rfl rfl ⟨rfl,rfl,trivial⟩⟩
noncomputable def kY (k:Nat)(a0:ap)(a1:ap):Option ap:=((fQ k a1).bind fun y1=>((eY k a0 y1).bind fun y2=>some y2))
set_option maxRecDepth 100000 in
set_option maxHeartbeats 4000000 in
theorem qE (k:Nat)(a0:ap)(a1:ap)(r:ap)(h:kY k a0 a1=some r):SC P 171 [.agg (an a0),.agg (an a1)] [] (.agg (an r)) []:=by
 unfold kY at h
 refine SC.intro3 (N:=9) Tryz.func171 rfl rfl Tryz.ntmps171 rfl ?_
 refine aa.sr (ab.evn (h':=[.live (.var (an a0)),.live (.var (an a1)),.live (.var [.nsl,di 0])]) [0,0,0] [(2,.ptr 0 0),(3,.ptr 1 0),(4,.ptr 2 0)] [] ?_)
 refine aa.seq ?_
 refine ao h fun y1 hy1 h=>?_
 refine ao h fun y2 hy2 h=>?_
 refine aa.regionAny mixed (s':=?s3) (qs:=[⟨[2],[0],[],[],[]⟩,⟨[3],[1],[],[],[]⟩,⟨[6],[],[],[],[]⟩,⟨[5,7],[],[],[],[]⟩,⟨[4,8],[],[2],[],[]⟩]) ?_ (by kernel_rfl) ?_
 rotate_left
 ·
  refine Steps.runQ [2] [0] [] (ae.loadA rfl rfl bq rfl rfl) rfl (by kernel_rfl) (by kernel_rfl) ?_
  refine Steps.runQ [3] [1] [] (ae.loadA rfl rfl bq rfl rfl) rfl (by kernel_rfl) (by kernel_rfl) ?_
  refine Steps.runQ [6] [] [] (v:=.agg (an y1)) (ae.callS [] (iE k a1 _ hy1) rfl rfl ⟨⟨rfl,rfl,trivial⟩,trivial⟩ (by decide) rfl rfl trivial) rfl (by kernel_rfl) (by kernel_rfl) ?_
  refine Steps.runQ [5,7] [] [] (v:=.agg (an y2)) (ae.callS [] (hJ k a0 y1 _ hy2) rfl rfl ⟨⟨rfl,rfl,trivial⟩,⟨rfl,rfl,trivial⟩,trivial⟩ (by decide) rfl rfl trivial) rfl (by kernel_rfl) (by kernel_rfl) ?_
  refine Steps.run [4,8] [] [2] [] [] (ae.store rfl rfl rfl bq rfl rfl rfl rfl rfl) rfl (by kernel_rfl) (by kernel_rfl) (by kernel_rfl) (by kernel_rfl) ?_
  refine Steps.hp (h':=[.live (.var (an a0)),.live (.var (an a1)),.live (.var (an y2))]) rfl ?_
  exact Steps.nil _
 refine aa.ret ?_
 cases h
 exact ⟨_,(GStep.trans (GStep.keep [4]) (GStep.ren [2] (by decide) rfl rfl)),.inr rfl,Fin.mk2 (aB.one (.cellA rfl bq rfl rfl)) [] (by decide) rfl rfl rfl ⟨rfl,rfl,trivial⟩⟩
noncomputable def kZ (k:Nat)(a0:ap)(a1:ap):Option ap:=((fW k a0 a1 1).bind fun y1=>some y1)
set_option maxRecDepth 100000 in
set_option maxHeartbeats 4000000 in
theorem qF (k:Nat)(a0:ap)(a1:ap)(r:ap)(h:kZ k a0 a1=some r):SC P 169 [.agg (an a0),.agg (an a1)] [] (.agg (an r)) []:=by
 unfold kZ at h
 refine SC.intro3 (N:=8) Tryz.func169 rfl rfl Tryz.ntmps169 rfl ?_
 refine aa.sr (ab.evn (h':=[.live (.var (an a0)),.live (.var (an a1)),.live (.var [.nsl,di 0])]) [0,0,0] [(2,.ptr 0 0),(3,.ptr 1 0),(4,.ptr 2 0)] [] ?_)
 refine aa.seq ?_
 refine ao h fun y1 hy1 h=>?_
 refine aa.region (ab.ev0 [0,0] [(5,.agg (an a0)),(6,.agg (an a1))] [] ?_)
 refine ab.step (v:=.agg (an y1)) (ae.callS [] (gZ k a0 a1 1 _ hy1) rfl rfl ⟨⟨rfl,rfl,trivial⟩,⟨rfl,rfl,trivial⟩,rfl,trivial⟩ (by decide) rfl rfl trivial) rfl rfl rfl ?_
 refine ab.evn (h':=[.live (.var (an a0)),.live (.var (an a1)),.live (.var (an y1))]) [0] [] [] ?_
 refine aa.ret ?_
 cases h
 exact ⟨_,(GStep.trans (GStep.keep [4]) (GStep.ren [2] (by decide) rfl rfl)),.inr rfl,Fin.mk2 (aB.one (.cellA rfl bq rfl rfl)) [] (by decide) rfl rfl rfl ⟨rfl,rfl,trivial⟩⟩
noncomputable def ck:(k:Nat)→(a0:List Int)→(a1:Int)→(a2:Int)→(a3:Int)→Option ap
  | 0,_,_,_,_=>none
  | k+1,a0,a1,a2,a3=>(if (decide (a2=a1))=true then (((if (decide ((IntKind.wrap .i64 (Int.tdiv a3 8)) < (a0.length:Int)))=true then (if (0:Int)≤(IntKind.wrap .i64 (Int.tdiv a3 8))∧(IntKind.wrap .i64 (Int.tdiv a3 8)) < (a0.length:Int) then (if ¬ IntKind.wrap .u64 (Int.tmod a3 8) < 0 then ((cG (decide ((IntKind.wrap .u8 (BitVec.ofInt (IntKind.bits .u8) (Int.fdiv (nth a0 (IntKind.wrap .i64 (Int.tdiv a3 8))) (2 ^ (min (Int.toNat (IntKind.wrap .u64 (Int.tmod a3 8))) (IntKind.bits .u8)))) &&& BitVec.ofInt (IntKind.bits .u8) 1).toNat)=1))).bind fun y5=>some y5) else none) else none) else ((cG false).bind fun y6=>some y6)):Option Int).bind fun x8=>some (⟨[],x8⟩:ap)) else ((kx a2).bind fun y9=>(if ¬ IntKind.wrap .u64 a2 < 0 then ((ck k a0 a1 (IntKind.wrap .i64 (a2+1)) (IntKind.wrap .i64 (a3+(IntKind.wrap .i64 (1*2 ^ (min (Int.toNat (IntKind.wrap .u64 a2)) (IntKind.bits .i64))))))).bind fun y11=>((eY k y9.1 y11).bind fun y12=>((ck k a0 a1 (IntKind.wrap .i64 (a2+1)) a3).bind fun y13=>((kY k y13 y9.1).bind fun y14=>((kZ k y12 y14).bind fun y15=>some y15))))) else none)))
theorem o5:type_of% (@ck.eq_2):=@ck.eq_2
set_option maxRecDepth 100000 in
set_option maxHeartbeats 4000000 in
theorem qH (k:Nat)(a0:List Int)(a1:Int)(a2:Int)(a3:Int)(r:ap)(h:ck k a0 a1 a2 a3=some r):SC P 106 [.d (af 1 (eI .u8) a0),di a1,di a2,di a3] [] (.agg (an r)) []:=by
 induction k generalizing a0 a1 a2 a3 r with
 | zero=>
  have h:(none:Option ap)=some r:=h
  cases h
 | succ k ihr=>
 have h:=(o5 ..).symm.trans h
 refine SC.intro3 (N:=59) Tryz.func106 rfl rfl Tryz.ntmps106 rfl ?_
 refine aa.sr (ab.evn (h':=[.live (.var [.nsl,di 0])]) [0] [(8,.ptr 0 0)] [] ?_)
 refine aa.seq ?_
 refine aa.sr (ab.ev0n [0,0,0] [(13,db (decide (a2=a1)))] [] ?_)
 refine aa.condI h rfl (fun hc1 h=>?_) (fun hc1 h=>?_)
 ·
  refine aa.seq ?_
  refine ao h fun x8 ho7 h=>?_
  refine aa.cut (Q':=fun e s'=>e = .normal∧s'=⟨[(8,.ptr 0 0)],[.live (.var [.nsl,di x8])]⟩) ?_ ?_
  ·
   have h:=ho7
   refine au h (fun hc2 h=>?_) (fun hc2 h=>?_)
   ·
    refine aD h fun hb3 h=>?_
    refine aD h fun hz4 h=>?_
    refine ao h fun y5 hy5 h=>?_
    refine aa.region (ab.ev0 [0,0,0,0,0,0,3,3,3,3,3,3,3,3] [(19,db (decide ((IntKind.wrap .i64 (Int.tdiv a3 8)) < (a0.length:Int)))),(24,.d (.int .u8 (nth a0 (IntKind.wrap .i64 (Int.tdiv a3 8))))),(27,.d (.int .u64 (IntKind.wrap .u64 (Int.tmod a3 8))))] [⟨_,hc2⟩,⟨_,hc2⟩,⟨_,hc2⟩,⟨_,hc2⟩,⟨_,hb3.1⟩,⟨_,hb3.2⟩,⟨_,hc2⟩,⟨_,hc2⟩,⟨_,hc2⟩,⟨_,hc2⟩] ?_)
    refine ab.gstep (v:=.d (.int .u8 (Int.fdiv (nth a0 (IntKind.wrap .i64 (Int.tdiv a3 8))) (2 ^ (min (Int.toNat (IntKind.wrap .u64 (Int.tmod a3 8))) (IntKind.bits .u8)))))) (ae.shrI rfl rfl rfl hz4) rfl rfl rfl hc2 rfl rfl ?_
    refine ab.ev0 [3,3,10] [(31,db (decide ((IntKind.wrap .u8 (BitVec.ofInt (IntKind.bits .u8) (Int.fdiv (nth a0 (IntKind.wrap .i64 (Int.tdiv a3 8))) (2 ^ (min (Int.toNat (IntKind.wrap .u64 (Int.tmod a3 8))) (IntKind.bits .u8)))) &&& BitVec.ofInt (IntKind.bits .u8) 1).toNat)=1)))] [⟨_,hc2⟩,⟨_,hc2⟩,⟨_,hc2⟩] ?_
    refine ab.step (v:=.agg [.nsl,di y5]) (ae.callS [] (cI (decide ((IntKind.wrap .u8 (BitVec.ofInt (IntKind.bits .u8) (Int.fdiv (nth a0 (IntKind.wrap .i64 (Int.tdiv a3 8))) (2 ^ (min (Int.toNat (IntKind.wrap .u64 (Int.tmod a3 8))) (IntKind.bits .u8)))) &&& BitVec.ofInt (IntKind.bits .u8) 1).toNat)=1)) _ hy5) rfl rfl ⟨rfl,trivial⟩ (by decide) rfl rfl trivial) rfl rfl rfl ?_
    refine ab.evn (h':=[.live (.var [.nsl,di y5])]) [0] [] [] ?_
    cases h
    exact ⟨_,(GStep.keep [8]),rfl,rfl⟩
   refine ao h fun y6 hy6 h=>?_
   refine aa.region (ab.ev0 [0,0,0,0,0,0,2,0,0,0,0,0,0,0,0,0,0,0] [(31,db false)] [⟨_,hc2⟩] ?_)
   refine ab.step (v:=.agg [.nsl,di y6]) (ae.callS [] (cI false _ hy6) rfl rfl ⟨rfl,trivial⟩ (by decide) rfl rfl trivial) rfl rfl rfl ?_
   refine ab.evn (h':=[.live (.var [.nsl,di y6])]) [0] [] [] ?_
   cases h
   exact ⟨_,(GStep.keep [8]),rfl,rfl⟩
  rintro e s' hq
  obtain ⟨rfl,rfl⟩:=hq
  refine aa.ret ?_
  cases h
  exact ⟨_,(GStep.keep [8]),.inr rfl,Fin.mk2 (aB.one (.cellA rfl bq rfl rfl)) [] (by decide) rfl rfl rfl ⟨trivial,rfl,trivial⟩⟩
 refine aa.skip ?_
 refine aa.seq ?_
 refine ao h fun y9 hy9 h=>?_
 refine aa.region (ab.ev0 [0] [(34,di a2)] [] ?_)
 refine ab.step (v:=.tup [.agg (an y9.1),di y9.2]) (ae.callS [] (ny a2 _ hy9) rfl rfl ⟨rfl,trivial⟩ (by decide) rfl rfl trivial) rfl rfl rfl ?_
 refine ab.evn (h':=[.live (.var [.nsl,di 0]),.live (.var (an y9.1))]) [0,0,0,0,0,0] [(9,.ptr 1 0)] [] ?_
 refine aa.seq ?_
 refine aD h fun hz10 h=>?_
 refine ao h fun y11 hy11 h=>?_
 refine ao h fun y12 hy12 h=>?_
 refine ao h fun y13 hy13 h=>?_
 refine ao h fun y14 hy14 h=>?_
 refine ao h fun y15 hy15 h=>?_
 refine aa.regionAny mixed (s':=?s16) (qs:=[⟨[9],[1],[],[],[]⟩,⟨[0],[],[],[],[]⟩,⟨[1],[],[],[],[]⟩,⟨[2],[],[],[],[]⟩,⟨[41],[],[],[],[]⟩,⟨[3],[],[],[],[]⟩,⟨[2],[],[],[],[]⟩,⟨[44],[],[],[],[]⟩,⟨[45],[],[],[],[]⟩,⟨[43,46],[],[],[],[]⟩,⟨[39,40,42,47],[],[],[],[]⟩,⟨[38,48],[],[],[],[]⟩,⟨[0],[],[],[],[]⟩,⟨[1],[],[],[],[]⟩,⟨[2],[],[],[],[]⟩,⟨[52],[],[],[],[]⟩,⟨[3],[],[],[],[]⟩,⟨[50,51,53,54],[],[],[],[]⟩,⟨[9],[1],[],[],[]⟩,⟨[55,56],[],[],[],[]⟩,⟨[49,57],[],[],[],[]⟩,⟨[8,58],[],[0],[],[]⟩]) ?_ (by kernel_rfl) ?_
 rotate_left
 ·
  refine Steps.runQ [9] [1] [] (ae.loadA rfl rfl bq rfl rfl) rfl (by kernel_rfl) (by kernel_rfl) ?_
  refine Steps.runQ [0] [] [] (v:=.d (af 1 (eI .u8) a0)) (ae.move rfl rfl) rfl (by kernel_rfl) (by kernel_rfl) ?_
  refine Steps.runQ [1] [] [] (v:=di a1) (ae.move rfl rfl) rfl (by kernel_rfl) (by kernel_rfl) ?_
  refine Steps.runQ [2] [] [] (v:=di a2) (ae.move rfl rfl) rfl (by kernel_rfl) (by kernel_rfl) ?_
  refine Steps.runQ [41] [] [] (v:=di (IntKind.wrap .i64 (a2+1))) (ae.addI (k:=.i64) (m:=a2) (n:=1) rfl rfl rfl) rfl (by kernel_rfl) (by kernel_rfl) ?_
  refine Steps.runQ [3] [] [] (v:=di a3) (ae.move rfl rfl) rfl (by kernel_rfl) (by kernel_rfl) ?_
  refine Steps.runQ [2] [] [] (v:=di a2) (ae.move rfl rfl) rfl (by kernel_rfl) (by kernel_rfl) ?_
  refine Steps.runQ [44] [] [] (v:=.d (.int .u64 (IntKind.wrap .u64 a2))) (ae.convI rfl rfl zK zt) rfl (by kernel_rfl) (by kernel_rfl) ?_
  refine Steps.runQ [45] [] [] (v:=di (IntKind.wrap .i64 (1*2 ^ (min (Int.toNat (IntKind.wrap .u64 a2)) (IntKind.bits .i64))))) (ae.shlI rfl rfl rfl hz10) rfl (by kernel_rfl) (by kernel_rfl) ?_
  refine Steps.runQ [43,46] [] [] (v:=di (IntKind.wrap .i64 (a3+(IntKind.wrap .i64 (1*2 ^ (min (Int.toNat (IntKind.wrap .u64 a2)) (IntKind.bits .i64))))))) (ae.addI (k:=.i64) (m:=a3) (n:=(IntKind.wrap .i64 (1*2 ^ (min (Int.toNat (IntKind.wrap .u64 a2)) (IntKind.bits .i64))))) rfl rfl rfl) rfl (by kernel_rfl) (by kernel_rfl) ?_
  refine Steps.runQ [39,40,42,47] [] [] (v:=.agg (an y11)) (ae.callS [] (ihr a0 a1 (IntKind.wrap .i64 (a2+1)) (IntKind.wrap .i64 (a3+(IntKind.wrap .i64 (1*2 ^ (min (Int.toNat (IntKind.wrap .u64 a2)) (IntKind.bits .i64)))))) _ hy11) rfl rfl ⟨rfl,rfl,rfl,rfl,trivial⟩ (by decide) rfl rfl trivial) rfl (by kernel_rfl) (by kernel_rfl) ?_
  refine Steps.runQ [38,48] [] [] (v:=.agg (an y12)) (ae.callS [] (hJ k y9.1 y11 _ hy12) rfl rfl ⟨⟨rfl,rfl,trivial⟩,⟨rfl,rfl,trivial⟩,trivial⟩ (by decide) rfl rfl trivial) rfl (by kernel_rfl) (by kernel_rfl) ?_
  refine Steps.runQ [0] [] [] (v:=.d (af 1 (eI .u8) a0)) (ae.move rfl rfl) rfl (by kernel_rfl) (by kernel_rfl) ?_
  refine Steps.runQ [1] [] [] (v:=di a1) (ae.move rfl rfl) rfl (by kernel_rfl) (by kernel_rfl) ?_
  refine Steps.runQ [2] [] [] (v:=di a2) (ae.move rfl rfl) rfl (by kernel_rfl) (by kernel_rfl) ?_
  refine Steps.runQ [52] [] [] (v:=di (IntKind.wrap .i64 (a2+1))) (ae.addI (k:=.i64) (m:=a2) (n:=1) rfl rfl rfl) rfl (by kernel_rfl) (by kernel_rfl) ?_
  refine Steps.runQ [3] [] [] (v:=di a3) (ae.move rfl rfl) rfl (by kernel_rfl) (by kernel_rfl) ?_
  refine Steps.runQ [50,51,53,54] [] [] (v:=.agg (an y13)) (ae.callS [] (ihr a0 a1 (IntKind.wrap .i64 (a2+1)) a3 _ hy13) rfl rfl ⟨rfl,rfl,rfl,rfl,trivial⟩ (by decide) rfl rfl trivial) rfl (by kernel_rfl) (by kernel_rfl) ?_
  refine Steps.runQ [9] [1] [] (ae.loadA rfl rfl bq rfl rfl) rfl (by kernel_rfl) (by kernel_rfl) ?_
  refine Steps.runQ [55,56] [] [] (v:=.agg (an y14)) (ae.callS [] (qE k y13 y9.1 _ hy14) rfl rfl ⟨⟨rfl,rfl,trivial⟩,⟨rfl,rfl,trivial⟩,trivial⟩ (by decide) rfl rfl trivial) rfl (by kernel_rfl) (by kernel_rfl) ?_
  refine Steps.runQ [49,57] [] [] (v:=.agg (an y15)) (ae.callS [] (qF k y12 y14 _ hy15) rfl rfl ⟨⟨rfl,rfl,trivial⟩,⟨rfl,rfl,trivial⟩,trivial⟩ (by decide) rfl rfl trivial) rfl (by kernel_rfl) (by kernel_rfl) ?_
  refine Steps.run [8,58] [] [0] [] [] (ae.store rfl rfl rfl bq rfl rfl rfl rfl rfl) rfl (by kernel_rfl) (by kernel_rfl) (by kernel_rfl) (by kernel_rfl) ?_
  refine Steps.hp (h':=[.live (.var (an y15)),.live (.var (an y9.1))]) rfl ?_
  exact Steps.nil _
 refine aa.ret ?_
 cases h
 exact ⟨_,(GStep.trans (GStep.keep [8]) (GStep.ren [0] (by decide) rfl rfl)),.inr rfl,Fin.mk2 (aB.one (.cellA rfl bq rfl rfl)) [] (by decide) rfl rfl rfl ⟨rfl,rfl,trivial⟩⟩
noncomputable def dN (k:Nat)(a0:List Int)(a1:Int):Option ap:=((ck k a0 (if (if 6 < a1 then 6 else a1) > 0 then (if 6 < a1 then 6 else a1) else 0) 0 0).bind fun y1=>some y1)
set_option maxRecDepth 100000 in
set_option maxHeartbeats 4000000 in
theorem mu (k:Nat)(a0:List Int)(a1:Int)(r:ap)(h:dN k a0 a1=some r):SC P 35 [.d (af 1 (eI .u8) a0),di a1] [] (.agg (an r)) []:=by
 unfold dN at h
 refine SC.intro3 (N:=11) Tryz.func35 rfl rfl Tryz.ntmps35 rfl ?_
 refine aa.sr (ab.evn (h':=[.live (.var [.nsl,di 0])]) [0] [(4,.ptr 0 0)] [] ?_)
 refine aa.sr (ab.ev0 [0] [(5,di a1)] [] ?_)
 refine ab.step (v:=di (if 6 < a1 then 6 else a1)) (n3 rfl rfl) rfl rfl rfl ?_
 refine ab.step (v:=di (if (if 6 < a1 then 6 else a1) > 0 then (if 6 < a1 then 6 else a1) else 0)) (jC rfl rfl) rfl rfl rfl ?_
 refine ab.ev0n [0] [(1,di (if (if 6 < a1 then 6 else a1) > 0 then (if 6 < a1 then 6 else a1) else 0))] [] ?_
 refine aa.seq ?_
 refine ao h fun y1 hy1 h=>?_
 refine aa.region (ab.ev0 [0,0] [(8,.d (af 1 (eI .u8) a0)),(9,di (if (if 6 < a1 then 6 else a1) > 0 then (if 6 < a1 then 6 else a1) else 0))] [] ?_)
 refine ab.step (v:=.agg (an y1)) (ae.callS [] (qH k a0 (if (if 6 < a1 then 6 else a1) > 0 then (if 6 < a1 then 6 else a1) else 0) 0 0 _ hy1) rfl rfl ⟨rfl,rfl,rfl,rfl,trivial⟩ (by decide) rfl rfl trivial) rfl rfl rfl ?_
 refine ab.evn (h':=[.live (.var (an y1))]) [0] [] [] ?_
 refine aa.ret ?_
 cases h
 exact ⟨_,(GStep.keep [4]),.inr rfl,Fin.mk2 (aB.one (.cellA rfl bq rfl rfl)) [] (by decide) rfl rfl rfl ⟨rfl,rfl,trivial⟩⟩
noncomputable def gL (a0:ByteArray)(a1:Int):Option (ByteArray×Int×Int×Bool×Int×Bool×Int×Int×Int×Int):=((cG true).bind fun y1=>some (a0,a1,y1,false,0,false,0,0,0,0))
set_option maxRecDepth 100000 in
set_option maxHeartbeats 4000000 in
theorem pd (a0:ByteArray)(a1:Int)(r:ByteArray×Int×Int×Bool×Int×Bool×Int×Int×Int×Int)(h:gL a0 a1=some r):SC P 39 [.d (.str a0),di a1,.nsl] [] (.agg [.d (.str r.1),di r.2.1,.nsl,.nsl,di r.2.2.1,db r.2.2.2.1,di r.2.2.2.2.1,.nsl,db r.2.2.2.2.2.1,di r.2.2.2.2.2.2.1,di r.2.2.2.2.2.2.2.1,di r.2.2.2.2.2.2.2.2.1,di r.2.2.2.2.2.2.2.2.2]) []:=by
 unfold gL at h
 refine SC.intro3 (N:=12) Tryz.func39 rfl rfl Tryz.ntmps39 rfl ?_
 refine aa.sr (ab.evn (h':=[.live (.var [.d (.str (⟨#[]⟩:ByteArray)),di 0,.nsl,.nsl,di 0,db false,di 0,.nsl,db false,di 0,di 0,di 0,di 0])]) [0] [(6,.ptr 0 0)] [] ?_)
 refine aa.seq ?_
 refine ao h fun y1 hy1 h=>?_
 refine aa.region (ab.ev0 [0,0,0] [(7,.d (.str a0)),(8,di a1),(9,.nsl)] [] ?_)
 refine ab.step (v:=.agg [.nsl,di y1]) (ae.callS [] (cI true _ hy1) rfl rfl ⟨rfl,trivial⟩ (by decide) rfl rfl trivial) rfl rfl rfl ?_
 refine ab.evn (h':=[.live (.var [.d (.str a0),di a1,.nsl,.nsl,di y1,db false,di 0,.nsl,db false,di 0,di 0,di 0,di 0])]) [0,0] [] [] ?_
 refine aa.ret ?_
 cases h
 exact ⟨_,(GStep.keep [6]),.inr rfl,Fin.mk2 (aB.one (.cellA rfl n9 rfl rfl)) [] (by decide) rfl rfl rfl ⟨rfl,rfl,rfl,rfl,rfl,rfl,rfl,rfl,rfl,rfl,rfl,rfl,rfl,trivial⟩⟩
noncomputable def lw (a0:Int):Option aw:=some (⟨false,a0⟩:aw)
set_option maxRecDepth 100000 in
set_option maxHeartbeats 4000000 in
theorem vz (a0:Int)(r:aw)(h:lw a0=some r):SC P 114 [di a0] [] (.agg (bW r)) []:=by
 unfold lw at h
 refine SC.intro3 (N:=5) Tryz.func114 rfl rfl Tryz.ntmps114 rfl ?_
 refine aa.sr (ab.evn (h':=[.live (.var (bW (⟨false,0⟩:aw)))]) [0] [(2,.ptr 0 0)] [] ?_)
 refine aa.sr (ab.evn (h':=[.live (.var (bW (⟨false,a0⟩:aw)))]) [0,0,0] [] [] ?_)
 refine aa.ret ?_
 cases h
 exact ⟨_,(GStep.keep [2]),.inr rfl,Fin.mk2 (aB.one (.cellA rfl qk rfl rfl)) [] (by decide) rfl rfl rfl ⟨rfl,rfl,trivial⟩⟩
noncomputable def iu (a0:Int):Option ap:=((kx a0).bind fun y1=>some y1.1)
set_option maxRecDepth 100000 in
set_option maxHeartbeats 4000000 in
theorem nC (a0:Int)(r:ap)(h:iu a0=some r):SC P 96 [di a0] [] (.agg (an r)) []:=by
 unfold iu at h
 refine SC.intro3 (N:=11) Tryz.func96 rfl rfl Tryz.ntmps96 rfl ?_
 refine aa.sr (ab.evn (h':=[.live (.var [.nsl,di 0])]) [0] [(2,.ptr 0 0)] [] ?_)
 refine aa.seq ?_
 refine ao h fun y1 hy1 h=>?_
 refine aa.region (ab.ev0 [0] [(6,di a0)] [] ?_)
 refine ab.step (v:=.tup [.agg (an y1.1),di y1.2]) (ae.callS [] (ny a0 _ hy1) rfl rfl ⟨rfl,trivial⟩ (by decide) rfl rfl trivial) rfl rfl rfl ?_
 refine ab.evn (h':=[.live (.var [.nsl,di 0]),.live (.var (an y1.1))]) [0,0,0,0,0,0] [(3,.ptr 1 0)] [] ?_
 refine aa.sr (ab.evn (h':=[.live (.var (an y1.1)),.live (.var (an y1.1))]) [0,0] [] [] ?_)
 refine aa.ret ?_
 cases h
 exact ⟨_,(GStep.trans (GStep.keep [2]) (GStep.ren [0] (by decide) rfl rfl)),.inr rfl,Fin.mk2 (aB.one (.cellA rfl bq rfl rfl)) [] (by decide) rfl rfl rfl ⟨rfl,rfl,trivial⟩⟩
noncomputable def fI (k:Nat)(a0:Int)(a1:Int):Option ap:=(((if (decide (a1=0))=true then some true else some (decide ((Int.tmod a0 6) < 3))):Option Bool).bind fun x3=>(if x3=true then ((cG true).bind fun y5=>some (⟨[],y5⟩:ap)) else (if a1≠0 then ((iu (Int.tmod (IntKind.wrap .i64 (IntKind.wrap .u8 (Int.tdiv a0 6))) a1)).bind fun y7=>(if (decide ((Int.tmod a0 6)=3))=true then some y7 else (if (decide ((Int.tmod a0 6)=4))=true then ((fQ k y7).bind fun y10=>some y10) else ((dN k ([a0]:List Int) a1).bind fun y11=>some y11)))) else none)))
set_option maxRecDepth 100000 in
set_option maxHeartbeats 4000000 in
theorem nA (k:Nat)(a0:Int)(a1:Int)(r:ap)(h:fI k a0 a1=some r):SC P 28 [.d (.int .u8 a0),di a1] [] (.agg (an r)) []:=by
 unfold fI at h
 refine SC.intro3 (N:=33) Tryz.func28 rfl rfl Tryz.ntmps28 rfl ?_
 refine aa.sr (ab.evn (h':=[.live (.var [.nsl,di 0])]) [0] [(4,.ptr 0 0)] [] ?_)
 refine aa.seq ?_
 refine aa.seq ?_
 refine ao h fun x3 ho2 h=>?_
 refine aa.cut (Q':=fun e s'=>e = .normal∧s'=⟨[(0,.d (.int .u8 a0)),(1,di a1),(4,.ptr 0 0),(12,db x3)],[.live (.var [.nsl,di 0])]⟩) ?_ ?_
 ·
  have h:=ho2
  refine au h (fun hc1 h=>?_) (fun hc1 h=>?_)
  ·
   refine aa.region (ab.ev0n [0,0,0,2,0,0,0] [(12,db true)] [⟨_,hc1⟩] ?_)
   cases h
   exact ⟨_,(GStep.keep [0,1,4,12]),rfl,rfl⟩
  refine aa.region (ab.ev0n [0,0,0,1,0,0,0] [(12,db (decide ((Int.tmod a0 6) < 3)))] [⟨_,hc1⟩] ?_)
  cases h
  exact ⟨_,(GStep.keep [0,1,4,12]),rfl,rfl⟩
 rintro e s' hq
 obtain ⟨rfl,rfl⟩:=hq
 refine aa.condI h rfl (fun hc4 h=>?_) (fun hc4 h=>?_)
 ·
  refine aa.seq ?_
  refine ao h fun y5 hy5 h=>?_
  refine aa.region ?_
  refine ab.step (v:=.agg [.nsl,di y5]) (ae.callS [] (cI true _ hy5) rfl rfl ⟨rfl,trivial⟩ (by decide) rfl rfl trivial) rfl rfl rfl ?_
  refine ab.evn (h':=[.live (.var [.nsl,di y5])]) [0] [] [] ?_
  refine aa.ret ?_
  cases h
  exact ⟨_,(GStep.keep [4]),.inr rfl,Fin.mk2 (aB.one (.cellA rfl bq rfl rfl)) [] (by decide) rfl rfl rfl ⟨trivial,rfl,trivial⟩⟩
 refine aa.skip ?_
 refine aa.seq ?_
 refine aD h fun hz6 h=>?_
 refine ao h fun y7 hy7 h=>?_
 refine aa.region (ab.ev0 [0,0,0,0] [(16,di (IntKind.wrap .i64 (IntKind.wrap .u8 (Int.tdiv a0 6)))),(17,di a1)] [] ?_)
 refine ab.step (v:=di (Int.tmod (IntKind.wrap .i64 (IntKind.wrap .u8 (Int.tdiv a0 6))) a1)) (ae.remI rfl rfl rfl hz6) rfl rfl rfl ?_
 refine ab.step (v:=.agg (an y7)) (ae.callS [] (nC (Int.tmod (IntKind.wrap .i64 (IntKind.wrap .u8 (Int.tdiv a0 6))) a1) _ hy7) rfl rfl ⟨rfl,trivial⟩ (by decide) rfl rfl trivial) rfl rfl rfl ?_
 refine ab.evn (h':=[.live (.var [.nsl,di 0]),.live (.var (an y7))]) [0,0] [(5,.ptr 1 0)] [] ?_
 refine aa.seq ?_
 refine aa.sr (ab.ev0n [0,0] [(21,.d (.int .u8 (Int.tmod a0 6)))] [] ?_)
 refine aa.block ?_
 refine aa.sr (ab.ev0n [0,0] [(22,db (decide ((Int.tmod a0 6)=3)))] [] ?_)
 refine aa.condI h rfl (fun hc8 h=>?_) (fun hc8 h=>?_)
 ·
  refine aa.sr (ab.evn (h':=[.live (.var (an y7)),.live (.var (an y7))]) [0,0] [] [] ?_)
  refine aa.ret ?_
  cases h
  exact ⟨_,(GStep.trans (GStep.keep [4]) (GStep.ren [0] (by decide) rfl rfl)),.inr rfl,Fin.mk2 (aB.one (.cellA rfl bq rfl rfl)) [] (by decide) rfl rfl rfl ⟨rfl,rfl,trivial⟩⟩
 refine aa.sr (ab.ev0n [0,0] [(25,db (decide ((Int.tmod a0 6)=4)))] [] ?_)
 refine aa.condI h rfl (fun hc9 h=>?_) (fun hc9 h=>?_)
 ·
  refine aa.seq ?_
  refine ao h fun y10 hy10 h=>?_
  refine aa.region (ab.ev0 [0] [(27,.agg (an y7))] [] ?_)
  refine ab.step (v:=.agg (an y10)) (ae.callS [] (iE k y7 _ hy10) rfl rfl ⟨⟨rfl,rfl,trivial⟩,trivial⟩ (by decide) rfl rfl trivial) rfl rfl rfl ?_
  refine ab.evn (h':=[.live (.var (an y10)),.live (.var (an y7))]) [0] [] [] ?_
  refine aa.ret ?_
  cases h
  exact ⟨_,(GStep.trans (GStep.keep [4]) (GStep.ren [0] (by decide) rfl rfl)),.inr rfl,Fin.mk2 (aB.one (.cellA rfl bq rfl rfl)) [] (by decide) rfl rfl rfl ⟨rfl,rfl,trivial⟩⟩
 refine aa.skip ?_
 refine aa.seq ?_
 refine ao h fun y11 hy11 h=>?_
 refine aa.region (ab.ev0 [0] [(29,.d (.int .u8 a0))] [] ?_)
 refine ab.step (v:=.d (af 1 (eI .u8) ([a0]:List Int))) (ae.bsliceX [.d (.int .u8 a0)] [.d (.int .u8 a0)] (row (eI .u8) ([a0]:List Int)) rfl yD zS rfl rfl (by kernel_rfl) ⟨rfl,trivial⟩ (by kernel_rfl) (by kernel_rfl)) rfl rfl rfl ?_
 refine ab.ev0 [0] [(31,di a1)] [] ?_
 refine ab.step (v:=.agg (an y11)) (ae.callS [] (mu k ([a0]:List Int) a1 _ hy11) rfl rfl ⟨rfl,rfl,trivial⟩ (by decide) rfl rfl trivial) rfl rfl rfl ?_
 refine ab.evn (h':=[.live (.var (an y11)),.live (.var (an y7))]) [0] [] [] ?_
 refine aa.ret ?_
 cases h
 exact ⟨_,(GStep.trans (GStep.keep [4]) (GStep.ren [0] (by decide) rfl rfl)),.inr rfl,Fin.mk2 (aB.one (.cellA rfl bq rfl rfl)) [] (by decide) rfl rfl rfl ⟨rfl,rfl,trivial⟩⟩
noncomputable def dx (a0:aj):Option Bool:=(((if (!decide ((a0.right.length:Int)=3))=true then some true else (if (!decide (a0.rank=0))=true then some true else (if (decide ((a0.layout.length:Int) > 0))=true then some true else some (!((a0.scope.opens == false)&&((decide (a0.scope.declares=0))&&((decide (a0.scope.kind=0))&&((decide (a0.scope.uses=0))&&(decide (a0.scope.allowed=0)))))))))):Option Bool).bind fun x5=>(if x5=true then some false else (((if (0:Int)≤0∧0 < (a0.right.length:Int) then (if (nth a0.right 0).token=true then (if (0:Int)≤2∧2 < (a0.right.length:Int) then (if (nth a0.right 2).token=true then (if (0:Int)≤1∧1 < (a0.right.length:Int) then (if (!((nth a0.right 1).token))=true then (if (0:Int)≤1∧1 < (a0.right.length:Int) then some (decide ((nth a0.right 1).index=a0.left)) else none) else some false) else none) else some false) else none) else some false) else none):Option Bool).bind fun x19=>some x19)))
set_option maxRecDepth 100000 in
set_option maxHeartbeats 4000000 in
theorem pc (a0:aj)(r:Bool)(h:dx a0=some r):SC P 174 [.agg (az a0)] [] (db r) []:=by
 unfold dx at h
 refine SC.intro3 (N:=54) Tryz.func174 rfl rfl Tryz.ntmps174 rfl ?_
 refine aa.sr (ab.evn (h':=[.live (.var (az a0))]) [0,0] [(1,.ptr 0 0)] [] ?_)
 refine aa.seq ?_
 refine aa.seq ?_
 refine ao h fun x5 ho4 h=>?_
 refine aa.cut (Q':=fun e s'=>e = .normal∧s'=⟨[(1,.ptr 0 0),(23,db x5)],[.live (.var (az a0))]⟩) ?_ ?_
 ·
  have h:=ho4
  refine au h (fun hc1 h=>?_) (fun hc1 h=>?_)
  ·
   refine aa.region (ab.ev0n [0,0,0,0,0,2,0,0,0,0,0,0,0,0,0,0,0,0,0,0,0] [(23,db true)] [⟨_,hc1⟩] ?_)
   cases h
   exact ⟨_,(GStep.keep [1,23]),rfl,rfl⟩
  refine au h (fun hc2 h=>?_) (fun hc2 h=>?_)
  ·
   refine aa.region (ab.ev0n [0,0,0,0,0,1,0,0,0,0,2,0,0,0,0,0,0,0,0,0,0] [(23,db true)] [⟨_,hc1⟩,⟨_,hc2⟩] ?_)
   cases h
   exact ⟨_,(GStep.keep [1,23]),rfl,rfl⟩
  refine au h (fun hc3 h=>?_) (fun hc3 h=>?_)
  ·
   refine aa.region (ab.ev0n [0,0,0,0,0,1,0,0,0,0,1,0,0,0,0,0,2,0,0,0,0] [(23,db true)] [⟨_,hc1⟩,⟨_,hc2⟩,⟨_,hc3⟩] ?_)
   cases h
   exact ⟨_,(GStep.keep [1,23]),rfl,rfl⟩
  refine aa.region (ab.ev0n [0,0,0,0,0,1,0,0,0,0,1,0,0,0,0,0,1,0,0,0,0] [(23,db (!((a0.scope.opens == false)&&((decide (a0.scope.declares=0))&&((decide (a0.scope.kind=0))&&((decide (a0.scope.uses=0))&&(decide (a0.scope.allowed=0))))))))] [⟨_,hc1⟩,⟨_,hc2⟩,⟨_,hc3⟩] ?_)
  cases h
  exact ⟨_,(GStep.keep [1,23]),rfl,rfl⟩
 rintro e s' hq
 obtain ⟨rfl,rfl⟩:=hq
 refine aa.condI h rfl (fun hc6 h=>?_) (fun hc6 h=>?_)
 ·
  refine aa.sr (ab.ev0n [0] [(2,db false)] [] ?_)
  refine aa.ret ?_
  cases h
  exact ⟨_,(GStep.trans (GStep.keep [2]) (GStep.ren [] (by decide) rfl rfl)),.inr rfl,Fin.mk2 (aB.one (.tmp rfl)) [] (by decide) rfl rfl rfl rfl⟩
 refine aa.skip ?_
 refine aa.seq ?_
 refine ao h fun x19 ho18 h=>?_
 refine aa.cut (Q':=fun e s'=>e = .normal∧s'=⟨[(2,db x19)],[]⟩) ?_ ?_
 ·
  have h:=ho18
  refine aD h fun hb7 h=>?_
  refine au h (fun hc8 h=>?_) (fun hc8 h=>?_)
  ·
   refine aD h fun hb9 h=>?_
   refine au h (fun hc10 h=>?_) (fun hc10 h=>?_)
   ·
    refine aD h fun hb11 h=>?_
    refine au h (fun hc12 h=>?_) (fun hc12 h=>?_)
    ·
     refine aD h fun hb13 h=>?_
     refine aa.regionAny mixed (s':=?s14) (qs:=[⟨[1],[],[],[0],[]⟩,⟨[24],[0],[],[],[]⟩,⟨[25],[],[],[],[]⟩,⟨[26],[],[],[],[]⟩,⟨[27],[],[],[],[]⟩,⟨[28],[],[],[],[]⟩,⟨[1,29],[],[],[0],[]⟩,⟨[29,30],[0],[],[],[]⟩,⟨[29,31],[],[],[],[]⟩,⟨[29,32],[],[],[],[]⟩,⟨[29,33],[],[],[],[]⟩,⟨[29,34],[],[],[],[]⟩,⟨[35],[],[],[],[]⟩,⟨[1,36],[],[],[0],[]⟩,⟨[36,37],[0],[],[],[]⟩,⟨[36,38],[],[],[],[]⟩,⟨[36,39],[],[],[],[]⟩,⟨[36,40],[],[],[],[]⟩,⟨[36,41],[],[],[],[]⟩,⟨[36,42],[],[],[],[]⟩,⟨[43],[],[],[],[]⟩,⟨[1,44],[],[],[0],[]⟩,⟨[44,45],[0],[],[],[]⟩,⟨[44,46],[],[],[],[]⟩,⟨[44,47],[],[],[],[]⟩,⟨[44,48],[],[],[],[]⟩,⟨[1,44],[],[],[0],[]⟩,⟨[44,50],[0],[],[],[]⟩,⟨[44,49,51],[],[],[],[]⟩,⟨[44,52],[],[],[],[]⟩,⟨[53],[],[],[],[]⟩]) ?_ (by kernel_rfl) ?_
     rotate_left
     ·
      refine Steps.runQ [1] [] [0] (v:=.ptr 0 2) (ae.fieldAddr (id:=0) (off:=0) (fo:=2) rfl rfl cz rfl rfl) rfl (by kernel_rfl) (by kernel_rfl) ?_
      refine Steps.runQ [24] [0] [] (v:=.d (af 2 ay a0.right)) (ae.load rfl rfl cV rfl rfl) rfl (by kernel_rfl) (by kernel_rfl) ?_
      refine Steps.runQ [25] [] [] (ae.index rfl rfl rfl bL hb7.1 hb7.2) rfl (by kernel_rfl) (by kernel_rfl) ?_
      refine Steps.runQ [26] [] [] (ae.fieldAddrV rfl rfl dA rfl rfl) rfl (by kernel_rfl) (by kernel_rfl) ?_
      refine Steps.runQ [27] [] [] (ae.loadV rfl rfl fF rfl) rfl (by kernel_rfl) (by kernel_rfl) ?_
      refine Steps.runQ [28] [] [] (v:=db ((nth a0.right 0).token)) (ae.move rfl rfl) rfl (by kernel_rfl) (by kernel_rfl) ?_
      refine Steps.grunQ [1,29] [] [0] (v:=.ptr 0 2) (ae.fieldAddr (id:=0) (off:=0) (fo:=2) rfl rfl cz rfl rfl) rfl rfl rfl hc8 (by kernel_rfl) (by kernel_rfl) (by kernel_rfl) ?_
      refine Steps.grunQ [29,30] [0] [] (v:=.d (af 2 ay a0.right)) (ae.load rfl rfl cV rfl rfl) rfl rfl rfl hc8 (by kernel_rfl) (by kernel_rfl) (by kernel_rfl) ?_
      refine Steps.grunQ [29,31] [] [] (ae.index rfl rfl rfl bL hb9.1 hb9.2) rfl rfl rfl hc8 (by kernel_rfl) (by kernel_rfl) (by kernel_rfl) ?_
      refine Steps.grunQ [29,32] [] [] (ae.fieldAddrV rfl rfl dA rfl rfl) rfl rfl rfl hc8 (by kernel_rfl) (by kernel_rfl) (by kernel_rfl) ?_
      refine Steps.grunQ [29,33] [] [] (ae.loadV rfl rfl fF rfl) rfl rfl rfl hc8 (by kernel_rfl) (by kernel_rfl) (by kernel_rfl) ?_
      refine Steps.runQ [29,34] [] [] (v:=db ((nth a0.right 2).token)) (ae.pickT rfl rfl hc8 rfl) rfl (by kernel_rfl) (by kernel_rfl) ?_
      refine Steps.runQ [35] [] [] (v:=db ((nth a0.right 2).token)) (ae.move rfl rfl) rfl (by kernel_rfl) (by kernel_rfl) ?_
      refine Steps.grunQ [1,36] [] [0] (v:=.ptr 0 2) (ae.fieldAddr (id:=0) (off:=0) (fo:=2) rfl rfl cz rfl rfl) rfl rfl rfl hc10 (by kernel_rfl) (by kernel_rfl) (by kernel_rfl) ?_
      refine Steps.grunQ [36,37] [0] [] (v:=.d (af 2 ay a0.right)) (ae.load rfl rfl cV rfl rfl) rfl rfl rfl hc10 (by kernel_rfl) (by kernel_rfl) (by kernel_rfl) ?_
      refine Steps.grunQ [36,38] [] [] (ae.index rfl rfl rfl bL hb11.1 hb11.2) rfl rfl rfl hc10 (by kernel_rfl) (by kernel_rfl) (by kernel_rfl) ?_
      refine Steps.grunQ [36,39] [] [] (ae.fieldAddrV rfl rfl dA rfl rfl) rfl rfl rfl hc10 (by kernel_rfl) (by kernel_rfl) (by kernel_rfl) ?_
      refine Steps.grunQ [36,40] [] [] (ae.loadV rfl rfl fF rfl) rfl rfl rfl hc10 (by kernel_rfl) (by kernel_rfl) (by kernel_rfl) ?_
      refine Steps.grunQ [36,41] [] [] (v:=db (!((nth a0.right 1).token))) (ae.not rfl rfl) rfl rfl rfl hc10 (by kernel_rfl) (by kernel_rfl) (by kernel_rfl) ?_
      refine Steps.runQ [36,42] [] [] (v:=db (!((nth a0.right 1).token))) (ae.pickT rfl rfl hc10 rfl) rfl (by kernel_rfl) (by kernel_rfl) ?_
      refine Steps.runQ [43] [] [] (v:=db (!((nth a0.right 1).token))) (ae.move rfl rfl) rfl (by kernel_rfl) (by kernel_rfl) ?_
      refine Steps.grunQ [1,44] [] [0] (v:=.ptr 0 2) (ae.fieldAddr (id:=0) (off:=0) (fo:=2) rfl rfl cz rfl rfl) rfl rfl rfl hc12 (by kernel_rfl) (by kernel_rfl) (by kernel_rfl) ?_
      refine Steps.grunQ [44,45] [0] [] (v:=.d (af 2 ay a0.right)) (ae.load rfl rfl cV rfl rfl) rfl rfl rfl hc12 (by kernel_rfl) (by kernel_rfl) (by kernel_rfl) ?_
      refine Steps.grunQ [44,46] [] [] (ae.index rfl rfl rfl bL hb13.1 hb13.2) rfl rfl rfl hc12 (by kernel_rfl) (by kernel_rfl) (by kernel_rfl) ?_
      refine Steps.grunQ [44,47] [] [] (ae.fieldAddrV rfl rfl dA rfl rfl) rfl rfl rfl hc12 (by kernel_rfl) (by kernel_rfl) (by kernel_rfl) ?_
      refine Steps.grunQ [44,48] [] [] (ae.loadV rfl rfl aX rfl) rfl rfl rfl hc12 (by kernel_rfl) (by kernel_rfl) (by kernel_rfl) ?_
      refine Steps.grunQ [1,44] [] [0] (v:=.ptr 0 1) (ae.fieldAddr (id:=0) (off:=0) (fo:=1) rfl rfl cz rfl rfl) rfl rfl rfl hc12 (by kernel_rfl) (by kernel_rfl) (by kernel_rfl) ?_
      refine Steps.grunQ [44,50] [0] [] (v:=di a0.left) (ae.load rfl rfl aX rfl rfl) rfl rfl rfl hc12 (by kernel_rfl) (by kernel_rfl) (by kernel_rfl) ?_
      refine Steps.grunQ [44,49,51] [] [] (v:=db (decide ((nth a0.right 1).index=a0.left))) (ae.eqlI (k:=.i64) (m:=(nth a0.right 1).index) (n:=a0.left) rfl rfl rfl) rfl rfl rfl hc12 (by kernel_rfl) (by kernel_rfl) (by kernel_rfl) ?_
      refine Steps.runQ [44,52] [] [] (v:=db (decide ((nth a0.right 1).index=a0.left))) (ae.pickT rfl rfl hc12 rfl) rfl (by kernel_rfl) (by kernel_rfl) ?_
      refine Steps.runQ [53] [] [] (v:=db (decide ((nth a0.right 1).index=a0.left))) (ae.assign rfl rfl) rfl (by kernel_rfl) (by kernel_rfl) ?_
      exact Steps.nil _
     cases h
     exact ⟨_,(GStep.trans (GStep.keep [2]) (GStep.ren [] (by decide) rfl rfl)),rfl,rfl⟩
    refine aa.regionAny mixed (s':=?s15) (qs:=[⟨[1],[],[],[0],[]⟩,⟨[24],[0],[],[],[]⟩,⟨[25],[],[],[],[]⟩,⟨[26],[],[],[],[]⟩,⟨[27],[],[],[],[]⟩,⟨[28],[],[],[],[]⟩,⟨[1,29],[],[],[0],[]⟩,⟨[29,30],[0],[],[],[]⟩,⟨[29,31],[],[],[],[]⟩,⟨[29,32],[],[],[],[]⟩,⟨[29,33],[],[],[],[]⟩,⟨[29,34],[],[],[],[]⟩,⟨[35],[],[],[],[]⟩,⟨[1,36],[],[],[0],[]⟩,⟨[36,37],[0],[],[],[]⟩,⟨[36,38],[],[],[],[]⟩,⟨[36,39],[],[],[],[]⟩,⟨[36,40],[],[],[],[]⟩,⟨[36,41],[],[],[],[]⟩,⟨[36,42],[],[],[],[]⟩,⟨[43],[],[],[],[]⟩,⟨[1,44],[],[],[],[]⟩,⟨[44,45],[],[],[],[]⟩,⟨[44,46],[],[],[],[]⟩,⟨[44,47],[],[],[],[]⟩,⟨[44,48],[],[],[],[]⟩,⟨[1,44],[],[],[],[]⟩,⟨[44,50],[],[],[],[]⟩,⟨[44,49,51],[],[],[],[]⟩,⟨[44,52],[],[],[],[]⟩,⟨[53],[],[],[],[]⟩]) ?_ (by kernel_rfl) ?_
    rotate_left
    ·
     refine Steps.runQ [1] [] [0] (v:=.ptr 0 2) (ae.fieldAddr (id:=0) (off:=0) (fo:=2) rfl rfl cz rfl rfl) rfl (by kernel_rfl) (by kernel_rfl) ?_
     refine Steps.runQ [24] [0] [] (v:=.d (af 2 ay a0.right)) (ae.load rfl rfl cV rfl rfl) rfl (by kernel_rfl) (by kernel_rfl) ?_
     refine Steps.runQ [25] [] [] (ae.index rfl rfl rfl bL hb7.1 hb7.2) rfl (by kernel_rfl) (by kernel_rfl) ?_
     refine Steps.runQ [26] [] [] (ae.fieldAddrV rfl rfl dA rfl rfl) rfl (by kernel_rfl) (by kernel_rfl) ?_
     refine Steps.runQ [27] [] [] (ae.loadV rfl rfl fF rfl) rfl (by kernel_rfl) (by kernel_rfl) ?_
     refine Steps.runQ [28] [] [] (v:=db ((nth a0.right 0).token)) (ae.move rfl rfl) rfl (by kernel_rfl) (by kernel_rfl) ?_
     refine Steps.grunQ [1,29] [] [0] (v:=.ptr 0 2) (ae.fieldAddr (id:=0) (off:=0) (fo:=2) rfl rfl cz rfl rfl) rfl rfl rfl hc8 (by kernel_rfl) (by kernel_rfl) (by kernel_rfl) ?_
     refine Steps.grunQ [29,30] [0] [] (v:=.d (af 2 ay a0.right)) (ae.load rfl rfl cV rfl rfl) rfl rfl rfl hc8 (by kernel_rfl) (by kernel_rfl) (by kernel_rfl) ?_
     refine Steps.grunQ [29,31] [] [] (ae.index rfl rfl rfl bL hb9.1 hb9.2) rfl rfl rfl hc8 (by kernel_rfl) (by kernel_rfl) (by kernel_rfl) ?_
     refine Steps.grunQ [29,32] [] [] (ae.fieldAddrV rfl rfl dA rfl rfl) rfl rfl rfl hc8 (by kernel_rfl) (by kernel_rfl) (by kernel_rfl) ?_
     refine Steps.grunQ [29,33] [] [] (ae.loadV rfl rfl fF rfl) rfl rfl rfl hc8 (by kernel_rfl) (by kernel_rfl) (by kernel_rfl) ?_
     refine Steps.runQ [29,34] [] [] (v:=db ((nth a0.right 2).token)) (ae.pickT rfl rfl hc8 rfl) rfl (by kernel_rfl) (by kernel_rfl) ?_
     refine Steps.runQ [35] [] [] (v:=db ((nth a0.right 2).token)) (ae.move rfl rfl) rfl (by kernel_rfl) (by kernel_rfl) ?_
     refine Steps.grunQ [1,36] [] [0] (v:=.ptr 0 2) (ae.fieldAddr (id:=0) (off:=0) (fo:=2) rfl rfl cz rfl rfl) rfl rfl rfl hc10 (by kernel_rfl) (by kernel_rfl) (by kernel_rfl) ?_
     refine Steps.grunQ [36,37] [0] [] (v:=.d (af 2 ay a0.right)) (ae.load rfl rfl cV rfl rfl) rfl rfl rfl hc10 (by kernel_rfl) (by kernel_rfl) (by kernel_rfl) ?_
     refine Steps.grunQ [36,38] [] [] (ae.index rfl rfl rfl bL hb11.1 hb11.2) rfl rfl rfl hc10 (by kernel_rfl) (by kernel_rfl) (by kernel_rfl) ?_
     refine Steps.grunQ [36,39] [] [] (ae.fieldAddrV rfl rfl dA rfl rfl) rfl rfl rfl hc10 (by kernel_rfl) (by kernel_rfl) (by kernel_rfl) ?_
     refine Steps.grunQ [36,40] [] [] (ae.loadV rfl rfl fF rfl) rfl rfl rfl hc10 (by kernel_rfl) (by kernel_rfl) (by kernel_rfl) ?_
     refine Steps.grunQ [36,41] [] [] (v:=db (!((nth a0.right 1).token))) (ae.not rfl rfl) rfl rfl rfl hc10 (by kernel_rfl) (by kernel_rfl) (by kernel_rfl) ?_
     refine Steps.runQ [36,42] [] [] (v:=db (!((nth a0.right 1).token))) (ae.pickT rfl rfl hc10 rfl) rfl (by kernel_rfl) (by kernel_rfl) ?_
     refine Steps.runQ [43] [] [] (v:=db (!((nth a0.right 1).token))) (ae.move rfl rfl) rfl (by kernel_rfl) (by kernel_rfl) ?_
     refine Steps.gpass [1,44] rfl rfl rfl hc12 rfl rfl ?_
     refine Steps.gpass [44,45] rfl rfl rfl hc12 rfl rfl ?_
     refine Steps.gpass [44,46] rfl rfl rfl hc12 rfl rfl ?_
     refine Steps.gpass [44,47] rfl rfl rfl hc12 rfl rfl ?_
     refine Steps.gpass [44,48] rfl rfl rfl hc12 rfl rfl ?_
     refine Steps.gpass [1,44] rfl rfl rfl hc12 rfl rfl ?_
     refine Steps.gpass [44,50] rfl rfl rfl hc12 rfl rfl ?_
     refine Steps.gpass [44,49,51] rfl rfl rfl hc12 rfl rfl ?_
     refine Steps.runQ [44,52] [] [] (v:=db false) (ae.pickF rfl rfl hc12 rfl) rfl (by kernel_rfl) (by kernel_rfl) ?_
     refine Steps.runQ [53] [] [] (v:=db false) (ae.assign rfl rfl) rfl (by kernel_rfl) (by kernel_rfl) ?_
     exact Steps.nil _
    cases h
    exact ⟨_,(GStep.trans (GStep.keep [2]) (GStep.ren [] (by decide) rfl rfl)),rfl,rfl⟩
   refine aa.regionAny mixed (s':=?s16) (qs:=[⟨[1],[],[],[0],[]⟩,⟨[24],[0],[],[],[]⟩,⟨[25],[],[],[],[]⟩,⟨[26],[],[],[],[]⟩,⟨[27],[],[],[],[]⟩,⟨[28],[],[],[],[]⟩,⟨[1,29],[],[],[0],[]⟩,⟨[29,30],[0],[],[],[]⟩,⟨[29,31],[],[],[],[]⟩,⟨[29,32],[],[],[],[]⟩,⟨[29,33],[],[],[],[]⟩,⟨[29,34],[],[],[],[]⟩,⟨[35],[],[],[],[]⟩,⟨[1,36],[],[],[],[]⟩,⟨[36,37],[],[],[],[]⟩,⟨[36,38],[],[],[],[]⟩,⟨[36,39],[],[],[],[]⟩,⟨[36,40],[],[],[],[]⟩,⟨[36,41],[],[],[],[]⟩,⟨[36,42],[],[],[],[]⟩,⟨[43],[],[],[],[]⟩,⟨[1,44],[],[],[],[]⟩,⟨[44,45],[],[],[],[]⟩,⟨[44,46],[],[],[],[]⟩,⟨[44,47],[],[],[],[]⟩,⟨[44,48],[],[],[],[]⟩,⟨[1,44],[],[],[],[]⟩,⟨[44,50],[],[],[],[]⟩,⟨[44,49,51],[],[],[],[]⟩,⟨[44,52],[],[],[],[]⟩,⟨[53],[],[],[],[]⟩]) ?_ (by kernel_rfl) ?_
   rotate_left
   ·
    refine Steps.runQ [1] [] [0] (v:=.ptr 0 2) (ae.fieldAddr (id:=0) (off:=0) (fo:=2) rfl rfl cz rfl rfl) rfl (by kernel_rfl) (by kernel_rfl) ?_
    refine Steps.runQ [24] [0] [] (v:=.d (af 2 ay a0.right)) (ae.load rfl rfl cV rfl rfl) rfl (by kernel_rfl) (by kernel_rfl) ?_
    refine Steps.runQ [25] [] [] (ae.index rfl rfl rfl bL hb7.1 hb7.2) rfl (by kernel_rfl) (by kernel_rfl) ?_
    refine Steps.runQ [26] [] [] (ae.fieldAddrV rfl rfl dA rfl rfl) rfl (by kernel_rfl) (by kernel_rfl) ?_
    refine Steps.runQ [27] [] [] (ae.loadV rfl rfl fF rfl) rfl (by kernel_rfl) (by kernel_rfl) ?_
    refine Steps.runQ [28] [] [] (v:=db ((nth a0.right 0).token)) (ae.move rfl rfl) rfl (by kernel_rfl) (by kernel_rfl) ?_
    refine Steps.grunQ [1,29] [] [0] (v:=.ptr 0 2) (ae.fieldAddr (id:=0) (off:=0) (fo:=2) rfl rfl cz rfl rfl) rfl rfl rfl hc8 (by kernel_rfl) (by kernel_rfl) (by kernel_rfl) ?_
    refine Steps.grunQ [29,30] [0] [] (v:=.d (af 2 ay a0.right)) (ae.load rfl rfl cV rfl rfl) rfl rfl rfl hc8 (by kernel_rfl) (by kernel_rfl) (by kernel_rfl) ?_
    refine Steps.grunQ [29,31] [] [] (ae.index rfl rfl rfl bL hb9.1 hb9.2) rfl rfl rfl hc8 (by kernel_rfl) (by kernel_rfl) (by kernel_rfl) ?_
    refine Steps.grunQ [29,32] [] [] (ae.fieldAddrV rfl rfl dA rfl rfl) rfl rfl rfl hc8 (by kernel_rfl) (by kernel_rfl) (by kernel_rfl) ?_
    refine Steps.grunQ [29,33] [] [] (ae.loadV rfl rfl fF rfl) rfl rfl rfl hc8 (by kernel_rfl) (by kernel_rfl) (by kernel_rfl) ?_
    refine Steps.runQ [29,34] [] [] (v:=db ((nth a0.right 2).token)) (ae.pickT rfl rfl hc8 rfl) rfl (by kernel_rfl) (by kernel_rfl) ?_
    refine Steps.runQ [35] [] [] (v:=db ((nth a0.right 2).token)) (ae.move rfl rfl) rfl (by kernel_rfl) (by kernel_rfl) ?_
    refine Steps.gpass [1,36] rfl rfl rfl hc10 rfl rfl ?_
    refine Steps.gpass [36,37] rfl rfl rfl hc10 rfl rfl ?_
    refine Steps.gpass [36,38] rfl rfl rfl hc10 rfl rfl ?_
    refine Steps.gpass [36,39] rfl rfl rfl hc10 rfl rfl ?_
    refine Steps.gpass [36,40] rfl rfl rfl hc10 rfl rfl ?_
    refine Steps.gpass [36,41] rfl rfl rfl hc10 rfl rfl ?_
    refine Steps.runQ [36,42] [] [] (v:=db false) (ae.pickF rfl rfl hc10 rfl) rfl (by kernel_rfl) (by kernel_rfl) ?_
    refine Steps.runQ [43] [] [] (v:=db false) (ae.move rfl rfl) rfl (by kernel_rfl) (by kernel_rfl) ?_
    refine Steps.gpass [1,44] rfl rfl rfl rfl rfl rfl ?_
    refine Steps.gpass [44,45] rfl rfl rfl rfl rfl rfl ?_
    refine Steps.gpass [44,46] rfl rfl rfl rfl rfl rfl ?_
    refine Steps.gpass [44,47] rfl rfl rfl rfl rfl rfl ?_
    refine Steps.gpass [44,48] rfl rfl rfl rfl rfl rfl ?_
    refine Steps.gpass [1,44] rfl rfl rfl rfl rfl rfl ?_
    refine Steps.gpass [44,50] rfl rfl rfl rfl rfl rfl ?_
    refine Steps.gpass [44,49,51] rfl rfl rfl rfl rfl rfl ?_
    refine Steps.runQ [44,52] [] [] (v:=db false) (ae.pickF rfl rfl rfl rfl) rfl (by kernel_rfl) (by kernel_rfl) ?_
    refine Steps.runQ [53] [] [] (v:=db false) (ae.assign rfl rfl) rfl (by kernel_rfl) (by kernel_rfl) ?_
    exact Steps.nil _
   cases h
   exact ⟨_,(GStep.trans (GStep.keep [2]) (GStep.ren [] (by decide) rfl rfl)),rfl,rfl⟩
  refine aa.regionAny mixed (s':=?s17) (qs:=[⟨[1],[],[],[0],[]⟩,⟨[24],[0],[],[],[]⟩,⟨[25],[],[],[],[]⟩,⟨[26],[],[],[],[]⟩,⟨[27],[],[],[],[]⟩,⟨[28],[],[],[],[]⟩,⟨[1,29],[],[],[],[]⟩,⟨[29,30],[],[],[],[]⟩,⟨[29,31],[],[],[],[]⟩,⟨[29,32],[],[],[],[]⟩,⟨[29,33],[],[],[],[]⟩,⟨[29,34],[],[],[],[]⟩,⟨[35],[],[],[],[]⟩,⟨[1,36],[],[],[],[]⟩,⟨[36,37],[],[],[],[]⟩,⟨[36,38],[],[],[],[]⟩,⟨[36,39],[],[],[],[]⟩,⟨[36,40],[],[],[],[]⟩,⟨[36,41],[],[],[],[]⟩,⟨[36,42],[],[],[],[]⟩,⟨[43],[],[],[],[]⟩,⟨[1,44],[],[],[],[]⟩,⟨[44,45],[],[],[],[]⟩,⟨[44,46],[],[],[],[]⟩,⟨[44,47],[],[],[],[]⟩,⟨[44,48],[],[],[],[]⟩,⟨[1,44],[],[],[],[]⟩,⟨[44,50],[],[],[],[]⟩,⟨[44,49,51],[],[],[],[]⟩,⟨[44,52],[],[],[],[]⟩,⟨[53],[],[],[],[]⟩]) ?_ (by kernel_rfl) ?_
  rotate_left
  ·
   refine Steps.runQ [1] [] [0] (v:=.ptr 0 2) (ae.fieldAddr (id:=0) (off:=0) (fo:=2) rfl rfl cz rfl rfl) rfl (by kernel_rfl) (by kernel_rfl) ?_
   refine Steps.runQ [24] [0] [] (v:=.d (af 2 ay a0.right)) (ae.load rfl rfl cV rfl rfl) rfl (by kernel_rfl) (by kernel_rfl) ?_
   refine Steps.runQ [25] [] [] (ae.index rfl rfl rfl bL hb7.1 hb7.2) rfl (by kernel_rfl) (by kernel_rfl) ?_
   refine Steps.runQ [26] [] [] (ae.fieldAddrV rfl rfl dA rfl rfl) rfl (by kernel_rfl) (by kernel_rfl) ?_
   refine Steps.runQ [27] [] [] (ae.loadV rfl rfl fF rfl) rfl (by kernel_rfl) (by kernel_rfl) ?_
   refine Steps.runQ [28] [] [] (v:=db ((nth a0.right 0).token)) (ae.move rfl rfl) rfl (by kernel_rfl) (by kernel_rfl) ?_
   refine Steps.gpass [1,29] rfl rfl rfl hc8 rfl rfl ?_
   refine Steps.gpass [29,30] rfl rfl rfl hc8 rfl rfl ?_
   refine Steps.gpass [29,31] rfl rfl rfl hc8 rfl rfl ?_
   refine Steps.gpass [29,32] rfl rfl rfl hc8 rfl rfl ?_
   refine Steps.gpass [29,33] rfl rfl rfl hc8 rfl rfl ?_
   refine Steps.runQ [29,34] [] [] (v:=db false) (ae.pickF rfl rfl hc8 rfl) rfl (by kernel_rfl) (by kernel_rfl) ?_
   refine Steps.runQ [35] [] [] (v:=db false) (ae.move rfl rfl) rfl (by kernel_rfl) (by kernel_rfl) ?_
   refine Steps.gpass [1,36] rfl rfl rfl rfl rfl rfl ?_
   refine Steps.gpass [36,37] rfl rfl rfl rfl rfl rfl ?_
   refine Steps.gpass [36,38] rfl rfl rfl rfl rfl rfl ?_
   refine Steps.gpass [36,39] rfl rfl rfl rfl rfl rfl ?_
   refine Steps.gpass [36,40] rfl rfl rfl rfl rfl rfl ?_
   refine Steps.gpass [36,41] rfl rfl rfl rfl rfl rfl ?_
   refine Steps.runQ [36,42] [] [] (v:=db false) (ae.pickF rfl rfl rfl rfl) rfl (by kernel_rfl) (by kernel_rfl) ?_
   refine Steps.runQ [43] [] [] (v:=db false) (ae.move rfl rfl) rfl (by kernel_rfl) (by kernel_rfl) ?_
   refine Steps.gpass [1,44] rfl rfl rfl rfl rfl rfl ?_
   refine Steps.gpass [44,45] rfl rfl rfl rfl rfl rfl ?_
   refine Steps.gpass [44,46] rfl rfl rfl rfl rfl rfl ?_
   refine Steps.gpass [44,47] rfl rfl rfl rfl rfl rfl ?_
   refine Steps.gpass [44,48] rfl rfl rfl rfl rfl rfl ?_
   refine Steps.gpass [1,44] rfl rfl rfl rfl rfl rfl ?_
   refine Steps.gpass [44,50] rfl rfl rfl rfl rfl rfl ?_
   refine Steps.gpass [44,49,51] rfl rfl rfl rfl rfl rfl ?_
   refine Steps.runQ [44,52] [] [] (v:=db false) (ae.pickF rfl rfl rfl rfl) rfl (by kernel_rfl) (by kernel_rfl) ?_
   refine Steps.runQ [53] [] [] (v:=db false) (ae.assign rfl rfl) rfl (by kernel_rfl) (by kernel_rfl) ?_
   exact Steps.nil _
  cases h
  exact ⟨_,(GStep.trans (GStep.keep [2]) (GStep.ren [] (by decide) rfl rfl)),rfl,rfl⟩
 rintro e s' hq
 obtain ⟨rfl,rfl⟩:=hq
 refine aa.ret ?_
 cases h
 exact ⟨_,(GStep.keep [2]),.inr rfl,Fin.mk2 (aB.one (.tmp rfl)) [] (by decide) rfl rfl rfl rfl⟩
noncomputable def bn (a0:aj)(a1:Int):Option aj:=(if (decide ((a0.right.length:Int)=0))=true then some a0 else (((if (decide ((Int.tmod a1 8)=1))=true then some (⟨a0.name,a0.left,a0.right,a0.ifF,a0.bracket,1,a0.layout,a0.scope⟩:aj) else (((if (decide ((Int.tmod a1 8)=2))=true then some (⟨a0.name,a0.left,a0.right,a0.ifF,a0.bracket,(-1),a0.layout,a0.scope⟩:aj) else (((if (decide ((Int.tmod a1 8)=3))=true then ((dx (⟨a0.name,a0.left,a0.right,a0.ifF,true,a0.rank,a0.layout,a0.scope⟩:aj)).bind fun y5=>some (⟨a0.name,a0.left,a0.right,a0.ifF,y5,a0.rank,a0.layout,a0.scope⟩:aj)) else (((if (decide ((Int.tmod a1 8)=4))=true then (if (a0.right.length:Int)≠0 then (((if (decide ((Int.tmod (IntKind.wrap .i64 (IntKind.wrap .u8 (Int.tdiv a1 8))) 4)=0))=true then (if (0:Int)≤0∧0 < (([(⟨(IntKind.wrap .i64 (1+(Int.tmod (IntKind.wrap .i64 (IntKind.wrap .u8 (Int.tdiv a1 8))) 4))),(Int.tmod (IntKind.wrap .i64 (Int.tdiv (IntKind.wrap .i64 (IntKind.wrap .u8 (Int.tdiv a1 8))) 4)) (a0.right.length:Int)),(IntKind.wrap .i64 ((a0.right.length:Int) - 1))⟩:ar)]:List ar).length:Int) then some (([(⟨(IntKind.wrap .i64 (1+(Int.tmod (IntKind.wrap .i64 (IntKind.wrap .u8 (Int.tdiv a1 8))) 4))),(Int.tmod (IntKind.wrap .i64 (Int.tdiv (IntKind.wrap .i64 (IntKind.wrap .u8 (Int.tdiv a1 8))) 4)) (a0.right.length:Int)),(IntKind.wrap .i64 ((a0.right.length:Int) - 1))⟩:ar)]:List ar).set (Int.toNat 0) (⟨(([(⟨(IntKind.wrap .i64 (1+(Int.tmod (IntKind.wrap .i64 (IntKind.wrap .u8 (Int.tdiv a1 8))) 4))),(Int.tmod (IntKind.wrap .i64 (Int.tdiv (IntKind.wrap .i64 (IntKind.wrap .u8 (Int.tdiv a1 8))) 4)) (a0.right.length:Int)),(IntKind.wrap .i64 ((a0.right.length:Int) - 1))⟩:ar)]:List ar).getD (Int.toNat 0) default).kind,(([(⟨(IntKind.wrap .i64 (1+(Int.tmod (IntKind.wrap .i64 (IntKind.wrap .u8 (Int.tdiv a1 8))) 4))),(Int.tmod (IntKind.wrap .i64 (Int.tdiv (IntKind.wrap .i64 (IntKind.wrap .u8 (Int.tdiv a1 8))) 4)) (a0.right.length:Int)),(IntKind.wrap .i64 ((a0.right.length:Int) - 1))⟩:ar)]:List ar).getD (Int.toNat 0) default).a,0⟩:ar)) else none) else some ([(⟨(IntKind.wrap .i64 (1+(Int.tmod (IntKind.wrap .i64 (IntKind.wrap .u8 (Int.tdiv a1 8))) 4))),(Int.tmod (IntKind.wrap .i64 (Int.tdiv (IntKind.wrap .i64 (IntKind.wrap .u8 (Int.tdiv a1 8))) 4)) (a0.right.length:Int)),(IntKind.wrap .i64 ((a0.right.length:Int) - 1))⟩:ar)]:List ar)):Option (List ar)).bind fun x11=>some (⟨a0.name,a0.left,a0.right,a0.ifF,a0.bracket,a0.rank,x11,a0.scope⟩:aj)) else none) else (((if (decide ((Int.tmod a1 8)=5))=true then some (⟨a0.name,a0.left,a0.right,a0.ifF,a0.bracket,a0.rank,a0.layout,(⟨true,a0.scope.declares,a0.scope.kind,a0.scope.uses,a0.scope.allowed⟩:cY)⟩:aj) else (((if (decide ((Int.tmod a1 8)=6))=true then (if (a0.right.length:Int)≠0 then (if (0:Int)≤(Int.tmod (IntKind.wrap .i64 (IntKind.wrap .u8 (Int.tdiv a1 8))) (a0.right.length:Int))∧(Int.tmod (IntKind.wrap .i64 (IntKind.wrap .u8 (Int.tdiv a1 8))) (a0.right.length:Int)) < (a0.right.length:Int) then (((if (nth a0.right (Int.tmod (IntKind.wrap .i64 (IntKind.wrap .u8 (Int.tdiv a1 8))) (a0.right.length:Int))).token=true then (if (a0.right.length:Int)≠0 then some (⟨a0.name,a0.left,a0.right,a0.ifF,a0.bracket,a0.rank,a0.layout,(⟨false,(IntKind.wrap .i64 ((Int.tmod (IntKind.wrap .i64 (IntKind.wrap .u8 (Int.tdiv a1 8))) (a0.right.length:Int))+1)),(IntKind.wrap .i64 (1+(Int.tmod (IntKind.wrap .i64 (IntKind.wrap .u8 (Int.tdiv a1 8))) 2))),0,0⟩:cY)⟩:aj) else none) else some a0):Option aj).bind fun x19=>some x19) else none) else none) else (((if (decide ((Int.tmod a1 8)=7))=true then (if (a0.right.length:Int)≠0 then (if (0:Int)≤(Int.tmod (IntKind.wrap .i64 (IntKind.wrap .u8 (Int.tdiv a1 8))) (a0.right.length:Int))∧(Int.tmod (IntKind.wrap .i64 (IntKind.wrap .u8 (Int.tdiv a1 8))) (a0.right.length:Int)) < (a0.right.length:Int) then (((if (nth a0.right (Int.tmod (IntKind.wrap .i64 (IntKind.wrap .u8 (Int.tdiv a1 8))) (a0.right.length:Int))).token=true then (if (a0.right.length:Int)≠0 then some (⟨a0.name,a0.left,a0.right,a0.ifF,a0.bracket,a0.rank,a0.layout,(⟨false,0,0,(IntKind.wrap .i64 ((Int.tmod (IntKind.wrap .i64 (IntKind.wrap .u8 (Int.tdiv a1 8))) (a0.right.length:Int))+1)),(IntKind.wrap .i64 (1+(Int.tmod (IntKind.wrap .i64 (IntKind.wrap .u8 (Int.tdiv a1 8))) 7)))⟩:cY)⟩:aj) else none) else some a0):Option aj).bind fun x27=>some x27) else none) else none) else some a0):Option aj).bind fun x30=>some x30)):Option aj).bind fun x32=>some x32)):Option aj).bind fun x34=>some x34)):Option aj).bind fun x36=>some x36)):Option aj).bind fun x38=>some x38)):Option aj).bind fun x40=>some x40)):Option aj).bind fun x42=>some x42))
set_option maxRecDepth 100000 in
set_option maxHeartbeats 4000000 in
theorem p6 (a0:aj)(a1:Int)(r:aj)(h:bn a0 a1=some r):SC P 115 [.agg (az a0),.d (.int .u8 a1)] [] (.agg (az r)) []:=by
 unfold bn at h
 refine SC.intro3 (N:=94) Tryz.func115 rfl rfl Tryz.ntmps115 rfl ?_
 refine aa.sr (ab.evn (h':=[.live (.var (az a0)),.live (.var [.d (.str (⟨#[]⟩:ByteArray)),di 0,.nsl,.nsl,di 0,db false,di 0,.nsl,db false,di 0,di 0,di 0,di 0])]) [0,0] [(2,.ptr 0 0),(4,.ptr 1 0)] [] ?_)
 refine aa.sr (ab.ev0n [0,0,0,0] [(5,di (a0.right.length:Int))] [] ?_)
 refine aa.seq ?_
 refine aa.sr (ab.ev0n [0,0] [(11,db (decide ((a0.right.length:Int)=0)))] [] ?_)
 refine aa.condI h rfl (fun hc1 h=>?_) (fun hc1 h=>?_)
 ·
  refine aa.sr (ab.evn (h':=[.live (.var (az a0)),.live (.var (az a0))]) [0,0] [] [] ?_)
  refine aa.ret ?_
  cases h
  exact ⟨_,(GStep.trans (GStep.keep [4]) (GStep.ren [1] (by decide) rfl rfl)),.inr rfl,Fin.mk2 (aB.one (.cellA rfl n9 rfl rfl)) [] (by decide) rfl rfl rfl ⟨rfl,rfl,rfl,rfl,rfl,rfl,rfl,rfl,rfl,rfl,rfl,rfl,rfl,trivial⟩⟩
 refine aa.skip ?_
 refine aa.sr (ab.ev0n [0,0,0,0] [(6,di (IntKind.wrap .i64 (IntKind.wrap .u8 (Int.tdiv a1 8))))] [] ?_)
 refine aa.seq ?_
 refine aa.sr (ab.ev0n [0,0] [(17,.d (.int .u8 (Int.tmod a1 8)))] [] ?_)
 refine aa.block ?_
 refine aa.sr (ab.ev0n [0,0] [(18,db (decide ((Int.tmod a1 8)=1)))] [] ?_)
 refine ao h fun x42 ho41 h=>?_
 refine aa.cut (Q':=fun e s'=>e = .normal∧s'=⟨[(2,.ptr 0 0),(4,.ptr 1 0)],[.live (.var (az x42)),.live (.var [.d (.str (⟨#[]⟩:ByteArray)),di 0,.nsl,.nsl,di 0,db false,di 0,.nsl,db false,di 0,di 0,di 0,di 0])]⟩) ?_ ?_
 ·
  have h:=ho41
  refine aa.condI h rfl (fun hc2 h=>?_) (fun hc2 h=>?_)
  ·
   refine aa.region (ab.evn (h':=[.live (.var (az (⟨a0.name,a0.left,a0.right,a0.ifF,a0.bracket,1,a0.layout,a0.scope⟩:aj))),.live (.var [.d (.str (⟨#[]⟩:ByteArray)),di 0,.nsl,.nsl,di 0,db false,di 0,.nsl,db false,di 0,di 0,di 0,di 0])]) [0,0] [] [] ?_)
   cases h
   exact ⟨_,(GStep.keep [2,4]),rfl,rfl⟩
  refine aa.sr (ab.ev0n [0,0] [(21,db (decide ((Int.tmod a1 8)=2)))] [] ?_)
  refine ao h fun x40 ho39 h=>?_
  refine aa.cut (Q':=fun e s'=>e = .normal∧s'=⟨[(2,.ptr 0 0),(4,.ptr 1 0)],[.live (.var (az x40)),.live (.var [.d (.str (⟨#[]⟩:ByteArray)),di 0,.nsl,.nsl,di 0,db false,di 0,.nsl,db false,di 0,di 0,di 0,di 0])]⟩) ?_ ?_
  ·
   have h:=ho39
   refine aa.condI h rfl (fun hc3 h=>?_) (fun hc3 h=>?_)
   ·
    refine aa.region (ab.evn (h':=[.live (.var (az (⟨a0.name,a0.left,a0.right,a0.ifF,a0.bracket,(-1),a0.layout,a0.scope⟩:aj))),.live (.var [.d (.str (⟨#[]⟩:ByteArray)),di 0,.nsl,.nsl,di 0,db false,di 0,.nsl,db false,di 0,di 0,di 0,di 0])]) [0,0] [] [] ?_)
    cases h
    exact ⟨_,(GStep.keep [2,4]),rfl,rfl⟩
   refine aa.sr (ab.ev0n [0,0] [(24,db (decide ((Int.tmod a1 8)=3)))] [] ?_)
   refine ao h fun x38 ho37 h=>?_
   refine aa.cut (Q':=fun e s'=>e = .normal∧s'=⟨[(2,.ptr 0 0),(4,.ptr 1 0)],[.live (.var (az x38)),.live (.var [.d (.str (⟨#[]⟩:ByteArray)),di 0,.nsl,.nsl,di 0,db false,di 0,.nsl,db false,di 0,di 0,di 0,di 0])]⟩) ?_ ?_
   ·
    have h:=ho37
    refine aa.condI h rfl (fun hc4 h=>?_) (fun hc4 h=>?_)
    ·
     refine aa.sr (ab.evn (h':=[.live (.var (az (⟨a0.name,a0.left,a0.right,a0.ifF,true,a0.rank,a0.layout,a0.scope⟩:aj))),.live (.var [.d (.str (⟨#[]⟩:ByteArray)),di 0,.nsl,.nsl,di 0,db false,di 0,.nsl,db false,di 0,di 0,di 0,di 0])]) [0,0] [] [] ?_)
     refine ao h fun y5 hy5 h=>?_
     refine aa.region (ab.ev0 [0] [(27,.agg (az (⟨a0.name,a0.left,a0.right,a0.ifF,true,a0.rank,a0.layout,a0.scope⟩:aj)))] [] ?_)
     refine ab.step (v:=db y5) (ae.callS [] (pc (⟨a0.name,a0.left,a0.right,a0.ifF,true,a0.rank,a0.layout,a0.scope⟩:aj) _ hy5) rfl rfl ⟨⟨rfl,rfl,rfl,rfl,rfl,rfl,rfl,rfl,rfl,rfl,rfl,rfl,rfl,trivial⟩,trivial⟩ (by decide) rfl rfl trivial) rfl rfl rfl ?_
     refine ab.evn (h':=[.live (.var (az (⟨a0.name,a0.left,a0.right,a0.ifF,y5,a0.rank,a0.layout,a0.scope⟩:aj))),.live (.var [.d (.str (⟨#[]⟩:ByteArray)),di 0,.nsl,.nsl,di 0,db false,di 0,.nsl,db false,di 0,di 0,di 0,di 0])]) [0,0] [] [] ?_
     cases h
     exact ⟨_,(GStep.keep [2,4]),rfl,rfl⟩
    refine aa.sr (ab.ev0n [0,0] [(30,db (decide ((Int.tmod a1 8)=4)))] [] ?_)
    refine ao h fun x36 ho35 h=>?_
    refine aa.cut (Q':=fun e s'=>e = .normal∧s'=⟨[(2,.ptr 0 0),(4,.ptr 1 0)],[.live (.var (az x36)),.live (.var [.d (.str (⟨#[]⟩:ByteArray)),di 0,.nsl,.nsl,di 0,db false,di 0,.nsl,db false,di 0,di 0,di 0,di 0])]⟩) ?_ ?_
    ·
     have h:=ho35
     refine aa.condI h rfl (fun hc6 h=>?_) (fun hc6 h=>?_)
     ·
      refine aa.seq ?_
      refine aD h fun hz7 h=>?_
      refine aa.region (ab.ev0 [0,0,0,0,0,0] [(34,di (IntKind.wrap .i64 (1+(Int.tmod (IntKind.wrap .i64 (IntKind.wrap .u8 (Int.tdiv a1 8))) 4)))),(36,di (IntKind.wrap .i64 (Int.tdiv (IntKind.wrap .i64 (IntKind.wrap .u8 (Int.tdiv a1 8))) 4))),(37,di (a0.right.length:Int))] [] ?_)
      refine ab.step (v:=di (Int.tmod (IntKind.wrap .i64 (Int.tdiv (IntKind.wrap .i64 (IntKind.wrap .u8 (Int.tdiv a1 8))) 4)) (a0.right.length:Int))) (ae.remI rfl rfl rfl hz7) rfl rfl rfl ?_
      refine ab.ev0 [0,0,0] [(41,.agg (oy (⟨(IntKind.wrap .i64 (1+(Int.tmod (IntKind.wrap .i64 (IntKind.wrap .u8 (Int.tdiv a1 8))) 4))),(Int.tmod (IntKind.wrap .i64 (Int.tdiv (IntKind.wrap .i64 (IntKind.wrap .u8 (Int.tdiv a1 8))) 4)) (a0.right.length:Int)),(IntKind.wrap .i64 ((a0.right.length:Int) - 1))⟩:ar)))] [] ?_
      refine ab.step (v:=.osl 2 0 (([(⟨(IntKind.wrap .i64 (1+(Int.tmod (IntKind.wrap .i64 (IntKind.wrap .u8 (Int.tdiv a1 8))) 4))),(Int.tmod (IntKind.wrap .i64 (Int.tdiv (IntKind.wrap .i64 (IntKind.wrap .u8 (Int.tdiv a1 8))) 4)) (a0.right.length:Int)),(IntKind.wrap .i64 ((a0.right.length:Int) - 1))⟩:ar)]:List ar).length) 3) (ae.unex (ae.bsliceOX [di (IntKind.wrap .i64 (1+(Int.tmod (IntKind.wrap .i64 (IntKind.wrap .u8 (Int.tdiv a1 8))) 4))),di (Int.tmod (IntKind.wrap .i64 (Int.tdiv (IntKind.wrap .i64 (IntKind.wrap .u8 (Int.tdiv a1 8))) 4)) (a0.right.length:Int)),di (IntKind.wrap .i64 ((a0.right.length:Int) - 1))] [.d (.int .i64 (IntKind.wrap .i64 (1+(Int.tmod (IntKind.wrap .i64 (IntKind.wrap .u8 (Int.tdiv a1 8))) 4)))),.d (.int .i64 (Int.tmod (IntKind.wrap .i64 (Int.tdiv (IntKind.wrap .i64 (IntKind.wrap .u8 (Int.tdiv a1 8))) 4)) (a0.right.length:Int))),.d (.int .i64 (IntKind.wrap .i64 ((a0.right.length:Int) - 1)))] (row bi ([(⟨(IntKind.wrap .i64 (1+(Int.tmod (IntKind.wrap .i64 (IntKind.wrap .u8 (Int.tdiv a1 8))) 4))),(Int.tmod (IntKind.wrap .i64 (Int.tdiv (IntKind.wrap .i64 (IntKind.wrap .u8 (Int.tdiv a1 8))) 4)) (a0.right.length:Int)),(IntKind.wrap .i64 ((a0.right.length:Int) - 1))⟩:ar)]:List ar)) rfl Ag zR rfl rfl (by kernel_rfl) ⟨rfl,rfl,rfl,trivial⟩ (by kernel_rfl) (by kernel_rfl) rfl)) rfl rfl rfl ?_
      refine ab.hp (h':=[.live (.var (az a0)),.live (.var [.d (.str (⟨#[]⟩:ByteArray)),di 0,.nsl,.nsl,di 0,db false,di 0,.nsl,db false,di 0,di 0,di 0,di 0]),.live (.arr 3 (([(⟨(IntKind.wrap .i64 (1+(Int.tmod (IntKind.wrap .i64 (IntKind.wrap .u8 (Int.tdiv a1 8))) 4))),(Int.tmod (IntKind.wrap .i64 (Int.tdiv (IntKind.wrap .i64 (IntKind.wrap .u8 (Int.tdiv a1 8))) 4)) (a0.right.length:Int)),(IntKind.wrap .i64 ((a0.right.length:Int) - 1))⟩:ar)]:List ar).length) false (row bi ([(⟨(IntKind.wrap .i64 (1+(Int.tmod (IntKind.wrap .i64 (IntKind.wrap .u8 (Int.tdiv a1 8))) 4))),(Int.tmod (IntKind.wrap .i64 (Int.tdiv (IntKind.wrap .i64 (IntKind.wrap .u8 (Int.tdiv a1 8))) 4)) (a0.right.length:Int)),(IntKind.wrap .i64 ((a0.right.length:Int) - 1))⟩:ar)]:List ar)))]) (by kernel_rfl) ?_
      refine ab.evn (h':=[.live (.var [.d (.str a0.name),di a0.left,.d (af 2 ay a0.right),.d (af 3 ag a0.ifF.nodes),di a0.ifF.root,db a0.bracket,di a0.rank,.osl 2 0 (([(⟨(IntKind.wrap .i64 (1+(Int.tmod (IntKind.wrap .i64 (IntKind.wrap .u8 (Int.tdiv a1 8))) 4))),(Int.tmod (IntKind.wrap .i64 (Int.tdiv (IntKind.wrap .i64 (IntKind.wrap .u8 (Int.tdiv a1 8))) 4)) (a0.right.length:Int)),(IntKind.wrap .i64 ((a0.right.length:Int) - 1))⟩:ar)]:List ar).length) 3,db a0.scope.opens,di a0.scope.declares,di a0.scope.kind,di a0.scope.uses,di a0.scope.allowed]),.live (.var [.d (.str (⟨#[]⟩:ByteArray)),di 0,.nsl,.nsl,di 0,db false,di 0,.nsl,db false,di 0,di 0,di 0,di 0]),.live (.arr 3 (([(⟨(IntKind.wrap .i64 (1+(Int.tmod (IntKind.wrap .i64 (IntKind.wrap .u8 (Int.tdiv a1 8))) 4))),(Int.tmod (IntKind.wrap .i64 (Int.tdiv (IntKind.wrap .i64 (IntKind.wrap .u8 (Int.tdiv a1 8))) 4)) (a0.right.length:Int)),(IntKind.wrap .i64 ((a0.right.length:Int) - 1))⟩:ar)]:List ar).length) false (row bi ([(⟨(IntKind.wrap .i64 (1+(Int.tmod (IntKind.wrap .i64 (IntKind.wrap .u8 (Int.tdiv a1 8))) 4))),(Int.tmod (IntKind.wrap .i64 (Int.tdiv (IntKind.wrap .i64 (IntKind.wrap .u8 (Int.tdiv a1 8))) 4)) (a0.right.length:Int)),(IntKind.wrap .i64 ((a0.right.length:Int) - 1))⟩:ar)]:List ar)))]) [0,0] [] [] ?_
      refine aa.sr (ab.ev0n [0,0,0] [(46,db (decide ((Int.tmod (IntKind.wrap .i64 (IntKind.wrap .u8 (Int.tdiv a1 8))) 4)=0)))] [] ?_)
      refine ao h fun x11 ho10 h=>?_
      refine aa.cut (Q':=fun e s'=>e = .normal∧s'=⟨[(2,.ptr 0 0),(4,.ptr 1 0)],[.live (.var [.d (.str a0.name),di a0.left,.d (af 2 ay a0.right),.d (af 3 ag a0.ifF.nodes),di a0.ifF.root,db a0.bracket,di a0.rank,.osl 2 0 x11.length 3,db a0.scope.opens,di a0.scope.declares,di a0.scope.kind,di a0.scope.uses,di a0.scope.allowed]),.live (.var [.d (.str (⟨#[]⟩:ByteArray)),di 0,.nsl,.nsl,di 0,db false,di 0,.nsl,db false,di 0,di 0,di 0,di 0]),.live (.arr 3 x11.length false (row bi x11))]⟩) ?_ ?_
      ·
       have h:=ho10
       refine aa.condI h rfl (fun hc8 h=>?_) (fun hc8 h=>?_)
       ·
        refine aD h fun hb9 h=>?_
        refine aa.region (ab.ev0 [0,0,0,0] [(50,.eptr 2 (Int.toNat 0) 2 3)] [⟨_,hb9.1⟩,⟨_,hb9.2⟩] ?_)
        refine ab.step0 (ae.storeN bi ([(⟨(IntKind.wrap .i64 (1+(Int.tmod (IntKind.wrap .i64 (IntKind.wrap .u8 (Int.tdiv a1 8))) 4))),(Int.tmod (IntKind.wrap .i64 (Int.tdiv (IntKind.wrap .i64 (IntKind.wrap .u8 (Int.tdiv a1 8))) 4)) (a0.right.length:Int)),(IntKind.wrap .i64 ((a0.right.length:Int) - 1))⟩:ar)]:List ar) (⟨(([(⟨(IntKind.wrap .i64 (1+(Int.tmod (IntKind.wrap .i64 (IntKind.wrap .u8 (Int.tdiv a1 8))) 4))),(Int.tmod (IntKind.wrap .i64 (Int.tdiv (IntKind.wrap .i64 (IntKind.wrap .u8 (Int.tdiv a1 8))) 4)) (a0.right.length:Int)),(IntKind.wrap .i64 ((a0.right.length:Int) - 1))⟩:ar)]:List ar).getD (Int.toNat 0) default).kind,(([(⟨(IntKind.wrap .i64 (1+(Int.tmod (IntKind.wrap .i64 (IntKind.wrap .u8 (Int.tdiv a1 8))) 4))),(Int.tmod (IntKind.wrap .i64 (Int.tdiv (IntKind.wrap .i64 (IntKind.wrap .u8 (Int.tdiv a1 8))) 4)) (a0.right.length:Int)),(IntKind.wrap .i64 ((a0.right.length:Int) - 1))⟩:ar)]:List ar).getD (Int.toNat 0) default).a,0⟩:ar) rfl rfl rfl rfl aX rfl (by have:=hb9; omega) rfl rfl rfl rfl rfl rfl ⟨rfl,rfl,rfl,trivial⟩) rfl rfl ?_
        refine ab.hp (h':=[.live (.var [.d (.str a0.name),di a0.left,.d (af 2 ay a0.right),.d (af 3 ag a0.ifF.nodes),di a0.ifF.root,db a0.bracket,di a0.rank,.osl 2 0 (([(⟨(IntKind.wrap .i64 (1+(Int.tmod (IntKind.wrap .i64 (IntKind.wrap .u8 (Int.tdiv a1 8))) 4))),(Int.tmod (IntKind.wrap .i64 (Int.tdiv (IntKind.wrap .i64 (IntKind.wrap .u8 (Int.tdiv a1 8))) 4)) (a0.right.length:Int)),(IntKind.wrap .i64 ((a0.right.length:Int) - 1))⟩:ar)]:List ar).length) 3,db a0.scope.opens,di a0.scope.declares,di a0.scope.kind,di a0.scope.uses,di a0.scope.allowed]),.live (.var [.d (.str (⟨#[]⟩:ByteArray)),di 0,.nsl,.nsl,di 0,db false,di 0,.nsl,db false,di 0,di 0,di 0,di 0]),.live (.arr 3 (([(⟨(IntKind.wrap .i64 (1+(Int.tmod (IntKind.wrap .i64 (IntKind.wrap .u8 (Int.tdiv a1 8))) 4))),(Int.tmod (IntKind.wrap .i64 (Int.tdiv (IntKind.wrap .i64 (IntKind.wrap .u8 (Int.tdiv a1 8))) 4)) (a0.right.length:Int)),(IntKind.wrap .i64 ((a0.right.length:Int) - 1))⟩:ar)]:List ar).length) false (row bi (([(⟨(IntKind.wrap .i64 (1+(Int.tmod (IntKind.wrap .i64 (IntKind.wrap .u8 (Int.tdiv a1 8))) 4))),(Int.tmod (IntKind.wrap .i64 (Int.tdiv (IntKind.wrap .i64 (IntKind.wrap .u8 (Int.tdiv a1 8))) 4)) (a0.right.length:Int)),(IntKind.wrap .i64 ((a0.right.length:Int) - 1))⟩:ar)]:List ar).set (Int.toNat 0) (⟨(([(⟨(IntKind.wrap .i64 (1+(Int.tmod (IntKind.wrap .i64 (IntKind.wrap .u8 (Int.tdiv a1 8))) 4))),(Int.tmod (IntKind.wrap .i64 (Int.tdiv (IntKind.wrap .i64 (IntKind.wrap .u8 (Int.tdiv a1 8))) 4)) (a0.right.length:Int)),(IntKind.wrap .i64 ((a0.right.length:Int) - 1))⟩:ar)]:List ar).getD (Int.toNat 0) default).kind,(([(⟨(IntKind.wrap .i64 (1+(Int.tmod (IntKind.wrap .i64 (IntKind.wrap .u8 (Int.tdiv a1 8))) 4))),(Int.tmod (IntKind.wrap .i64 (Int.tdiv (IntKind.wrap .i64 (IntKind.wrap .u8 (Int.tdiv a1 8))) 4)) (a0.right.length:Int)),(IntKind.wrap .i64 ((a0.right.length:Int) - 1))⟩:ar)]:List ar).getD (Int.toNat 0) default).a,0⟩:ar))))]) (by kernel_rfl) ?_
        refine ab.nil ?_
        cases h
        exact ⟨_,(GStep.trans (GStep.keep [2,4]) (GStep.eqv (s1:=⟨[(2,.ptr 0 0),(4,.ptr 1 0)],[.live (.var [.d (.str a0.name),di a0.left,.d (af 2 ay a0.right),.d (af 3 ag a0.ifF.nodes),di a0.ifF.root,db a0.bracket,di a0.rank,.osl 2 0 (([(⟨(IntKind.wrap .i64 (1+(Int.tmod (IntKind.wrap .i64 (IntKind.wrap .u8 (Int.tdiv a1 8))) 4))),(Int.tmod (IntKind.wrap .i64 (Int.tdiv (IntKind.wrap .i64 (IntKind.wrap .u8 (Int.tdiv a1 8))) 4)) (a0.right.length:Int)),(IntKind.wrap .i64 ((a0.right.length:Int) - 1))⟩:ar)]:List ar).length) 3,db a0.scope.opens,di a0.scope.declares,di a0.scope.kind,di a0.scope.uses,di a0.scope.allowed]),.live (.var [.d (.str (⟨#[]⟩:ByteArray)),di 0,.nsl,.nsl,di 0,db false,di 0,.nsl,db false,di 0,di 0,di 0,di 0]),.live (.arr 3 (([(⟨(IntKind.wrap .i64 (1+(Int.tmod (IntKind.wrap .i64 (IntKind.wrap .u8 (Int.tdiv a1 8))) 4))),(Int.tmod (IntKind.wrap .i64 (Int.tdiv (IntKind.wrap .i64 (IntKind.wrap .u8 (Int.tdiv a1 8))) 4)) (a0.right.length:Int)),(IntKind.wrap .i64 ((a0.right.length:Int) - 1))⟩:ar)]:List ar).length) false (row bi (([(⟨(IntKind.wrap .i64 (1+(Int.tmod (IntKind.wrap .i64 (IntKind.wrap .u8 (Int.tdiv a1 8))) 4))),(Int.tmod (IntKind.wrap .i64 (Int.tdiv (IntKind.wrap .i64 (IntKind.wrap .u8 (Int.tdiv a1 8))) 4)) (a0.right.length:Int)),(IntKind.wrap .i64 ((a0.right.length:Int) - 1))⟩:ar)]:List ar).set (Int.toNat 0) (⟨(([(⟨(IntKind.wrap .i64 (1+(Int.tmod (IntKind.wrap .i64 (IntKind.wrap .u8 (Int.tdiv a1 8))) 4))),(Int.tmod (IntKind.wrap .i64 (Int.tdiv (IntKind.wrap .i64 (IntKind.wrap .u8 (Int.tdiv a1 8))) 4)) (a0.right.length:Int)),(IntKind.wrap .i64 ((a0.right.length:Int) - 1))⟩:ar)]:List ar).getD (Int.toNat 0) default).kind,(([(⟨(IntKind.wrap .i64 (1+(Int.tmod (IntKind.wrap .i64 (IntKind.wrap .u8 (Int.tdiv a1 8))) 4))),(Int.tmod (IntKind.wrap .i64 (Int.tdiv (IntKind.wrap .i64 (IntKind.wrap .u8 (Int.tdiv a1 8))) 4)) (a0.right.length:Int)),(IntKind.wrap .i64 ((a0.right.length:Int) - 1))⟩:ar)]:List ar).getD (Int.toNat 0) default).a,0⟩:ar))))]⟩) (s':=⟨[(2,.ptr 0 0),(4,.ptr 1 0)],[.live (.var [.d (.str a0.name),di a0.left,.d (af 2 ay a0.right),.d (af 3 ag a0.ifF.nodes),di a0.ifF.root,db a0.bracket,di a0.rank,.osl 2 0 ((([(⟨(IntKind.wrap .i64 (1+(Int.tmod (IntKind.wrap .i64 (IntKind.wrap .u8 (Int.tdiv a1 8))) 4))),(Int.tmod (IntKind.wrap .i64 (Int.tdiv (IntKind.wrap .i64 (IntKind.wrap .u8 (Int.tdiv a1 8))) 4)) (a0.right.length:Int)),(IntKind.wrap .i64 ((a0.right.length:Int) - 1))⟩:ar)]:List ar).set (Int.toNat 0) (⟨(([(⟨(IntKind.wrap .i64 (1+(Int.tmod (IntKind.wrap .i64 (IntKind.wrap .u8 (Int.tdiv a1 8))) 4))),(Int.tmod (IntKind.wrap .i64 (Int.tdiv (IntKind.wrap .i64 (IntKind.wrap .u8 (Int.tdiv a1 8))) 4)) (a0.right.length:Int)),(IntKind.wrap .i64 ((a0.right.length:Int) - 1))⟩:ar)]:List ar).getD (Int.toNat 0) default).kind,(([(⟨(IntKind.wrap .i64 (1+(Int.tmod (IntKind.wrap .i64 (IntKind.wrap .u8 (Int.tdiv a1 8))) 4))),(Int.tmod (IntKind.wrap .i64 (Int.tdiv (IntKind.wrap .i64 (IntKind.wrap .u8 (Int.tdiv a1 8))) 4)) (a0.right.length:Int)),(IntKind.wrap .i64 ((a0.right.length:Int) - 1))⟩:ar)]:List ar).getD (Int.toNat 0) default).a,0⟩:ar)).length) 3,db a0.scope.opens,di a0.scope.declares,di a0.scope.kind,di a0.scope.uses,di a0.scope.allowed]),.live (.var [.d (.str (⟨#[]⟩:ByteArray)),di 0,.nsl,.nsl,di 0,db false,di 0,.nsl,db false,di 0,di 0,di 0,di 0]),.live (.arr 3 ((([(⟨(IntKind.wrap .i64 (1+(Int.tmod (IntKind.wrap .i64 (IntKind.wrap .u8 (Int.tdiv a1 8))) 4))),(Int.tmod (IntKind.wrap .i64 (Int.tdiv (IntKind.wrap .i64 (IntKind.wrap .u8 (Int.tdiv a1 8))) 4)) (a0.right.length:Int)),(IntKind.wrap .i64 ((a0.right.length:Int) - 1))⟩:ar)]:List ar).set (Int.toNat 0) (⟨(([(⟨(IntKind.wrap .i64 (1+(Int.tmod (IntKind.wrap .i64 (IntKind.wrap .u8 (Int.tdiv a1 8))) 4))),(Int.tmod (IntKind.wrap .i64 (Int.tdiv (IntKind.wrap .i64 (IntKind.wrap .u8 (Int.tdiv a1 8))) 4)) (a0.right.length:Int)),(IntKind.wrap .i64 ((a0.right.length:Int) - 1))⟩:ar)]:List ar).getD (Int.toNat 0) default).kind,(([(⟨(IntKind.wrap .i64 (1+(Int.tmod (IntKind.wrap .i64 (IntKind.wrap .u8 (Int.tdiv a1 8))) 4))),(Int.tmod (IntKind.wrap .i64 (Int.tdiv (IntKind.wrap .i64 (IntKind.wrap .u8 (Int.tdiv a1 8))) 4)) (a0.right.length:Int)),(IntKind.wrap .i64 ((a0.right.length:Int) - 1))⟩:ar)]:List ar).getD (Int.toNat 0) default).a,0⟩:ar)).length) false (row bi (([(⟨(IntKind.wrap .i64 (1+(Int.tmod (IntKind.wrap .i64 (IntKind.wrap .u8 (Int.tdiv a1 8))) 4))),(Int.tmod (IntKind.wrap .i64 (Int.tdiv (IntKind.wrap .i64 (IntKind.wrap .u8 (Int.tdiv a1 8))) 4)) (a0.right.length:Int)),(IntKind.wrap .i64 ((a0.right.length:Int) - 1))⟩:ar)]:List ar).set (Int.toNat 0) (⟨(([(⟨(IntKind.wrap .i64 (1+(Int.tmod (IntKind.wrap .i64 (IntKind.wrap .u8 (Int.tdiv a1 8))) 4))),(Int.tmod (IntKind.wrap .i64 (Int.tdiv (IntKind.wrap .i64 (IntKind.wrap .u8 (Int.tdiv a1 8))) 4)) (a0.right.length:Int)),(IntKind.wrap .i64 ((a0.right.length:Int) - 1))⟩:ar)]:List ar).getD (Int.toNat 0) default).kind,(([(⟨(IntKind.wrap .i64 (1+(Int.tmod (IntKind.wrap .i64 (IntKind.wrap .u8 (Int.tdiv a1 8))) 4))),(Int.tmod (IntKind.wrap .i64 (Int.tdiv (IntKind.wrap .i64 (IntKind.wrap .u8 (Int.tdiv a1 8))) 4)) (a0.right.length:Int)),(IntKind.wrap .i64 ((a0.right.length:Int) - 1))⟩:ar)]:List ar).getD (Int.toNat 0) default).a,0⟩:ar))))]⟩) rfl (by simp only [List.length_set]))),rfl,rfl⟩
       refine aa.skip ?_
       cases h
       exact ⟨_,(GStep.keep [2,4]),rfl,rfl⟩
      rintro e s' hq
      obtain ⟨rfl,rfl⟩:=hq
      cases h
      exact ⟨_,(GStep.trans (GStep.keep [2,4]) (GStep.trans (GStep.shutG 2 rfl ⟨trivial,trivial,trivial⟩ ⟨⟨trivial,trivial,trivial,trivial,trivial,trivial,trivial,(fun _=>⟨Nat.le_of_eq (Nat.zero_add _),rfl⟩),trivial,trivial,trivial,trivial,trivial,trivial⟩,⟨trivial,trivial,trivial,trivial,trivial,trivial,trivial,trivial,trivial,trivial,trivial,trivial,trivial,trivial⟩,trivial,trivial⟩) (GStep.ren [0,1] (by decide) rfl rfl))),rfl,rfl⟩
     refine aa.sr (ab.ev0n [0,0] [(51,db (decide ((Int.tmod a1 8)=5)))] [] ?_)
     refine ao h fun x34 ho33 h=>?_
     refine aa.cut (Q':=fun e s'=>e = .normal∧s'=⟨[(2,.ptr 0 0),(4,.ptr 1 0)],[.live (.var (az x34)),.live (.var [.d (.str (⟨#[]⟩:ByteArray)),di 0,.nsl,.nsl,di 0,db false,di 0,.nsl,db false,di 0,di 0,di 0,di 0])]⟩) ?_ ?_
     ·
      have h:=ho33
      refine aa.condI h rfl (fun hc12 h=>?_) (fun hc12 h=>?_)
      ·
       refine aa.region (ab.evn (h':=[.live (.var (az (⟨a0.name,a0.left,a0.right,a0.ifF,a0.bracket,a0.rank,a0.layout,(⟨true,a0.scope.declares,a0.scope.kind,a0.scope.uses,a0.scope.allowed⟩:cY)⟩:aj))),.live (.var [.d (.str (⟨#[]⟩:ByteArray)),di 0,.nsl,.nsl,di 0,db false,di 0,.nsl,db false,di 0,di 0,di 0,di 0])]) [0,0,0] [] [] ?_)
       cases h
       exact ⟨_,(GStep.keep [2,4]),rfl,rfl⟩
      refine aa.sr (ab.ev0n [0,0] [(55,db (decide ((Int.tmod a1 8)=6)))] [] ?_)
      refine ao h fun x32 ho31 h=>?_
      refine aa.cut (Q':=fun e s'=>e = .normal∧s'=⟨[(2,.ptr 0 0),(4,.ptr 1 0)],[.live (.var (az x32)),.live (.var [.d (.str (⟨#[]⟩:ByteArray)),di 0,.nsl,.nsl,di 0,db false,di 0,.nsl,db false,di 0,di 0,di 0,di 0])]⟩) ?_ ?_
      ·
       have h:=ho31
       refine aa.condI h rfl (fun hc13 h=>?_) (fun hc13 h=>?_)
       ·
        refine aa.seq ?_
        refine aD h fun hz14 h=>?_
        refine aD h fun hb15 h=>?_
        refine aa.regionAny mixed (s':=?s20) (qs:=[⟨[2],[],[],[0],[]⟩,⟨[57],[0],[],[],[]⟩,⟨[6],[],[],[],[]⟩,⟨[5],[],[],[],[]⟩,⟨[59,60],[],[],[],[]⟩,⟨[58,61],[],[],[],[]⟩,⟨[62],[],[],[],[]⟩,⟨[63],[],[],[],[]⟩]) ?_ (by kernel_rfl) ?_
        rotate_left
        ·
         refine Steps.runQ [2] [] [0] (v:=.ptr 0 2) (ae.fieldAddr (id:=0) (off:=0) (fo:=2) rfl rfl cz rfl rfl) rfl (by kernel_rfl) (by kernel_rfl) ?_
         refine Steps.runQ [57] [0] [] (v:=.d (af 2 ay a0.right)) (ae.load rfl rfl cV rfl rfl) rfl (by kernel_rfl) (by kernel_rfl) ?_
         refine Steps.runQ [6] [] [] (v:=di (IntKind.wrap .i64 (IntKind.wrap .u8 (Int.tdiv a1 8)))) (ae.move rfl rfl) rfl (by kernel_rfl) (by kernel_rfl) ?_
         refine Steps.runQ [5] [] [] (v:=di (a0.right.length:Int)) (ae.move rfl rfl) rfl (by kernel_rfl) (by kernel_rfl) ?_
         refine Steps.runQ [59,60] [] [] (v:=di (Int.tmod (IntKind.wrap .i64 (IntKind.wrap .u8 (Int.tdiv a1 8))) (a0.right.length:Int))) (ae.remI rfl rfl rfl hz14) rfl (by kernel_rfl) (by kernel_rfl) ?_
         refine Steps.runQ [58,61] [] [] (ae.index rfl rfl rfl bL hb15.1 hb15.2) rfl (by kernel_rfl) (by kernel_rfl) ?_
         refine Steps.runQ [62] [] [] (ae.fieldAddrV rfl rfl dA rfl rfl) rfl (by kernel_rfl) (by kernel_rfl) ?_
         refine Steps.runQ [63] [] [] (ae.loadV rfl rfl fF rfl) rfl (by kernel_rfl) (by kernel_rfl) ?_
         exact Steps.nil _
        refine ao h fun x19 ho18 h=>?_
        refine aa.cut (Q':=fun e s'=>e = .normal∧s'=⟨[(2,.ptr 0 0),(4,.ptr 1 0)],[.live (.var (az x19)),.live (.var [.d (.str (⟨#[]⟩:ByteArray)),di 0,.nsl,.nsl,di 0,db false,di 0,.nsl,db false,di 0,di 0,di 0,di 0])]⟩) ?_ ?_
        ·
         have h:=ho18
         refine aa.condI h rfl (fun hc16 h=>?_) (fun hc16 h=>?_)
         ·
          refine aD h fun hz17 h=>?_
          refine aa.region (ab.ev0 [0,0] [(65,di (IntKind.wrap .i64 (IntKind.wrap .u8 (Int.tdiv a1 8)))),(66,di (a0.right.length:Int))] [] ?_)
          refine ab.step (v:=di (Int.tmod (IntKind.wrap .i64 (IntKind.wrap .u8 (Int.tdiv a1 8))) (a0.right.length:Int))) (ae.remI rfl rfl rfl hz17) rfl rfl rfl ?_
          refine ab.evn (h':=[.live (.var (az (⟨a0.name,a0.left,a0.right,a0.ifF,a0.bracket,a0.rank,a0.layout,(⟨false,(IntKind.wrap .i64 ((Int.tmod (IntKind.wrap .i64 (IntKind.wrap .u8 (Int.tdiv a1 8))) (a0.right.length:Int))+1)),(IntKind.wrap .i64 (1+(Int.tmod (IntKind.wrap .i64 (IntKind.wrap .u8 (Int.tdiv a1 8))) 2))),0,0⟩:cY)⟩:aj))),.live (.var [.d (.str (⟨#[]⟩:ByteArray)),di 0,.nsl,.nsl,di 0,db false,di 0,.nsl,db false,di 0,di 0,di 0,di 0])]) [0,0,0,0,0,0,0] [] [] ?_
          cases h
          exact ⟨_,(GStep.keep [2,4]),rfl,rfl⟩
         refine aa.skip ?_
         cases h
         exact ⟨_,(GStep.keep [2,4]),rfl,rfl⟩
        rintro e s' hq
        obtain ⟨rfl,rfl⟩:=hq
        cases h
        exact ⟨_,(GStep.keep [2,4]),rfl,rfl⟩
       refine aa.sr (ab.ev0n [0,0] [(74,db (decide ((Int.tmod a1 8)=7)))] [] ?_)
       refine ao h fun x30 ho29 h=>?_
       refine aa.cut (Q':=fun e s'=>e = .normal∧s'=⟨[(2,.ptr 0 0),(4,.ptr 1 0)],[.live (.var (az x30)),.live (.var [.d (.str (⟨#[]⟩:ByteArray)),di 0,.nsl,.nsl,di 0,db false,di 0,.nsl,db false,di 0,di 0,di 0,di 0])]⟩) ?_ ?_
       ·
        have h:=ho29
        refine aa.condI h rfl (fun hc21 h=>?_) (fun hc21 h=>?_)
        ·
         refine aa.seq ?_
         refine aD h fun hz22 h=>?_
         refine aD h fun hb23 h=>?_
         refine aa.regionAny mixed (s':=?s28) (qs:=[⟨[2],[],[],[0],[]⟩,⟨[76],[0],[],[],[]⟩,⟨[6],[],[],[],[]⟩,⟨[5],[],[],[],[]⟩,⟨[78,79],[],[],[],[]⟩,⟨[77,80],[],[],[],[]⟩,⟨[81],[],[],[],[]⟩,⟨[82],[],[],[],[]⟩]) ?_ (by kernel_rfl) ?_
         rotate_left
         ·
          refine Steps.runQ [2] [] [0] (v:=.ptr 0 2) (ae.fieldAddr (id:=0) (off:=0) (fo:=2) rfl rfl cz rfl rfl) rfl (by kernel_rfl) (by kernel_rfl) ?_
          refine Steps.runQ [76] [0] [] (v:=.d (af 2 ay a0.right)) (ae.load rfl rfl cV rfl rfl) rfl (by kernel_rfl) (by kernel_rfl) ?_
          refine Steps.runQ [6] [] [] (v:=di (IntKind.wrap .i64 (IntKind.wrap .u8 (Int.tdiv a1 8)))) (ae.move rfl rfl) rfl (by kernel_rfl) (by kernel_rfl) ?_
          refine Steps.runQ [5] [] [] (v:=di (a0.right.length:Int)) (ae.move rfl rfl) rfl (by kernel_rfl) (by kernel_rfl) ?_
          refine Steps.runQ [78,79] [] [] (v:=di (Int.tmod (IntKind.wrap .i64 (IntKind.wrap .u8 (Int.tdiv a1 8))) (a0.right.length:Int))) (ae.remI rfl rfl rfl hz22) rfl (by kernel_rfl) (by kernel_rfl) ?_
          refine Steps.runQ [77,80] [] [] (ae.index rfl rfl rfl bL hb23.1 hb23.2) rfl (by kernel_rfl) (by kernel_rfl) ?_
          refine Steps.runQ [81] [] [] (ae.fieldAddrV rfl rfl dA rfl rfl) rfl (by kernel_rfl) (by kernel_rfl) ?_
          refine Steps.runQ [82] [] [] (ae.loadV rfl rfl fF rfl) rfl (by kernel_rfl) (by kernel_rfl) ?_
          exact Steps.nil _
         refine ao h fun x27 ho26 h=>?_
         refine aa.cut (Q':=fun e s'=>e = .normal∧s'=⟨[(2,.ptr 0 0),(4,.ptr 1 0)],[.live (.var (az x27)),.live (.var [.d (.str (⟨#[]⟩:ByteArray)),di 0,.nsl,.nsl,di 0,db false,di 0,.nsl,db false,di 0,di 0,di 0,di 0])]⟩) ?_ ?_
         ·
          have h:=ho26
          refine aa.condI h rfl (fun hc24 h=>?_) (fun hc24 h=>?_)
          ·
           refine aD h fun hz25 h=>?_
           refine aa.region (ab.ev0 [0,0] [(84,di (IntKind.wrap .i64 (IntKind.wrap .u8 (Int.tdiv a1 8)))),(85,di (a0.right.length:Int))] [] ?_)
           refine ab.step (v:=di (Int.tmod (IntKind.wrap .i64 (IntKind.wrap .u8 (Int.tdiv a1 8))) (a0.right.length:Int))) (ae.remI rfl rfl rfl hz25) rfl rfl rfl ?_
           refine ab.evn (h':=[.live (.var (az (⟨a0.name,a0.left,a0.right,a0.ifF,a0.bracket,a0.rank,a0.layout,(⟨false,0,0,(IntKind.wrap .i64 ((Int.tmod (IntKind.wrap .i64 (IntKind.wrap .u8 (Int.tdiv a1 8))) (a0.right.length:Int))+1)),(IntKind.wrap .i64 (1+(Int.tmod (IntKind.wrap .i64 (IntKind.wrap .u8 (Int.tdiv a1 8))) 7)))⟩:cY)⟩:aj))),.live (.var [.d (.str (⟨#[]⟩:ByteArray)),di 0,.nsl,.nsl,di 0,db false,di 0,.nsl,db false,di 0,di 0,di 0,di 0])]) [0,0,0,0,0,0,0] [] [] ?_
           cases h
           exact ⟨_,(GStep.keep [2,4]),rfl,rfl⟩
          refine aa.skip ?_
          cases h
          exact ⟨_,(GStep.keep [2,4]),rfl,rfl⟩
         rintro e s' hq
         obtain ⟨rfl,rfl⟩:=hq
         cases h
         exact ⟨_,(GStep.keep [2,4]),rfl,rfl⟩
        refine aa.skip ?_
        cases h
        exact ⟨_,(GStep.keep [2,4]),rfl,rfl⟩
       rintro e s' hq
       obtain ⟨rfl,rfl⟩:=hq
       cases h
       exact ⟨_,(GStep.keep [2,4]),rfl,rfl⟩
      rintro e s' hq
      obtain ⟨rfl,rfl⟩:=hq
      cases h
      exact ⟨_,(GStep.keep [2,4]),rfl,rfl⟩
     rintro e s' hq
     obtain ⟨rfl,rfl⟩:=hq
     cases h
     exact ⟨_,(GStep.keep [2,4]),rfl,rfl⟩
    rintro e s' hq
    obtain ⟨rfl,rfl⟩:=hq
    cases h
    exact ⟨_,(GStep.keep [2,4]),rfl,rfl⟩
   rintro e s' hq
   obtain ⟨rfl,rfl⟩:=hq
   cases h
   exact ⟨_,(GStep.keep [2,4]),rfl,rfl⟩
  rintro e s' hq
  obtain ⟨rfl,rfl⟩:=hq
  cases h
  exact ⟨_,(GStep.keep [2,4]),rfl,rfl⟩
 rintro e s' hq
 obtain ⟨rfl,rfl⟩:=hq
 refine aa.sr (ab.evn (h':=[.live (.var (az x42)),.live (.var (az x42))]) [0,0] [] [] ?_)
 refine aa.ret ?_
 cases h
 exact ⟨_,(GStep.trans (GStep.keep [4]) (GStep.ren [1] (by decide) rfl rfl)),.inr rfl,Fin.mk2 (aB.one (.cellA rfl n9 rfl rfl)) [] (by decide) rfl rfl rfl ⟨rfl,rfl,rfl,rfl,rfl,rfl,rfl,rfl,rfl,rfl,rfl,rfl,rfl,trivial⟩⟩
noncomputable def cc (k:Nat)(a0:am)(a1:kF)(a2:Bool)(y3:ByteArray×Int×Int×Bool×Int×Bool×Int×Int×Int×Int)(v:Int×Bool×Int×(List aw)):Option (Int×Bool×(List aw)):=match k,v with
  | 0,_=>none
  | k+1,(v0_0,v0_1,v0_2,v0_3)=>(((if (decide (v0_2 < (a1.right.length:Int)))=true then some (decide (v0_2 < 4)) else some false):Option Bool).bind fun x6=>(if x6=true then (((if (0:Int)≤v0_2∧v0_2 < (a1.right.length:Int) then (if (decide ((Int.tmod (IntKind.wrap .i64 (nth a1.right v0_2)) 14) < 9))=true then ((lx (Int.tmod (IntKind.wrap .i64 (nth a1.right v0_2)) 14)).bind fun y10=>(if (v0_3.length+([y10]:List aw).length)*16≤140737488355328 then some ((IntKind.wrap .i64 (v0_0+1)),v0_1,(v0_3++([y10]:List aw))) else none)) else (if (a0.nonterminals.length:Int)≠0 then ((lw (Int.tmod (IntKind.wrap .i64 ((Int.tmod (IntKind.wrap .i64 (nth a1.right v0_2)) 14) - 9)) (a0.nonterminals.length:Int))).bind fun y14=>(if (v0_3.length+([y14]:List aw).length)*16≤140737488355328 then (((if v0_1=true then (if (a0.nonterminals.length:Int)≠0 then some (decide ((Int.tmod (IntKind.wrap .i64 ((Int.tmod (IntKind.wrap .i64 (nth a1.right v0_2)) 14) - 9)) (a0.nonterminals.length:Int)) > y3.2.1)) else none) else some false):Option Bool).bind fun x21=>some (v0_0,x21,(v0_3++([y14]:List aw)))) else none)) else none)) else none):Option (Int×Bool×(List aw))).bind fun x24=>(cc k a0 a1 a2 y3 (x24.1,x24.2.1,(IntKind.wrap .i64 (v0_2+1)),x24.2.2))) else some (v0_0,v0_1,v0_3)))
theorem cw:type_of% (@cc.eq_2):=@cc.eq_2
noncomputable def dL (k:Nat)(a0:am)(a1:kF)(a2:Bool):Option am:=(if ¬ (((⟨#[112]⟩:ByteArray).size+(strOf ([IntKind.wrap .u8 (IntKind.wrap .i64 (97+(a0.productions.length:Int)))]:List Int)).size:Nat):Int) > IntKind.max .i64 then (if (a0.nonterminals.length:Int)≠0 then ((gL ((⟨#[112]⟩:ByteArray)++(strOf ([IntKind.wrap .u8 (IntKind.wrap .i64 (97+(a0.productions.length:Int)))]:List Int))) (Int.tmod (IntKind.wrap .i64 a1.left) (a0.nonterminals.length:Int))).bind fun y3=>(((cc k a0 a1 a2 y3 (0,true,0,([]:List aw))):Option (Int×Bool×(List aw))).bind fun x25=>(((if (decide (x25.1=0))=true then (if a2=true then some true else some (!x25.2.1)) else some false):Option Bool).bind fun x29=>(if x29=true then some a0 else ((fI k a1.ifF (a0.conditions.length:Int)).bind fun y31=>((bn (⟨y3.1,y3.2.1,x25.2.2,y31,y3.2.2.2.1,y3.2.2.2.2.1,[],(⟨y3.2.2.2.2.2.1,y3.2.2.2.2.2.2.1,y3.2.2.2.2.2.2.2.1,y3.2.2.2.2.2.2.2.2.1,y3.2.2.2.2.2.2.2.2.2⟩:cY)⟩:aj) a1.mark).bind fun y32=>(if (([]:List aj).length+a0.productions.length)*160≤140737488355328 then (if (a0.productions.length+([y32]:List aj).length)*160≤140737488355328 then some (⟨a0.conditions,a0.family,a0.tokens,a0.nonterminals,(a0.productions++([y32]:List aj)),a0.start,a0.levels,a0.filters⟩:am) else none) else none))))))) else none) else none)
set_option maxRecDepth 100000 in
set_option maxHeartbeats 4000000 in
theorem oi (k:Nat)(a0:am)(a1:kF)(a2:Bool)(r:am)(h:dL k a0 a1 a2=some r):SC P 41 [.agg (ah a0),.agg (dB a1),db a2] [] (.agg (ah r)) []:=by
 unfold dL at h
 refine SC.intro3 (N:=109) Tryz.func41 rfl rfl Tryz.ntmps41 rfl ?_
 refine aa.sr (ab.evn (h':=[.live (.var (ah a0)),.live (.var (dB a1)),.live (.var [.nsl,.nsl,di 0,.nsl,.nsl,.nsl,di 0,.nsl,.nsl])]) [0,0,0] [(3,.ptr 0 0),(4,.ptr 1 0),(6,.ptr 2 0)] [] ?_)
 refine aa.sr (ab.ev0n [0,0,0,0] [(7,di (a0.nonterminals.length:Int))] [] ?_)
 refine aa.seq ?_
 refine aD h fun hz1 h=>?_
 refine aD h fun hz2 h=>?_
 refine ao h fun y3 hy3 h=>?_
 refine aa.ghost (GStep.resv 1) ?_
 refine aa.regionAny mixed (s':=?s37) (qs:=[⟨[3],[],[],[0],[]⟩,⟨[16],[0],[],[],[]⟩,⟨[17],[],[],[],[]⟩,⟨[18],[],[],[],[]⟩,⟨[19],[],[],[],[]⟩,⟨[20],[],[],[],[]⟩,⟨[21],[],[],[],[]⟩,⟨[22],[],[],[],[]⟩,⟨[4],[],[],[1],[]⟩,⟨[24],[1],[],[],[]⟩,⟨[25],[],[],[],[]⟩,⟨[7],[],[],[],[]⟩,⟨[26,27],[],[],[],[]⟩,⟨[23,28],[],[],[],[]⟩,⟨[],[],[3],[],[3]⟩,⟨[8,29],[],[3],[],[]⟩]) ?_ (by kernel_rfl) ?_
 rotate_left
 ·
  refine Steps.runQ [3] [] [0] (v:=.ptr 0 5) (ae.fieldAddr (id:=0) (off:=0) (fo:=5) rfl rfl fm rfl rfl) rfl (by kernel_rfl) (by kernel_rfl) ?_
  refine Steps.runQ [16] [0] [] (v:=.d (af 13 aq a0.productions)) (ae.load rfl rfl mj rfl rfl) rfl (by kernel_rfl) (by kernel_rfl) ?_
  refine Steps.runQ [17] [] [] (v:=di (a0.productions.length:Int)) (ae.len rfl rfl iA) rfl (by kernel_rfl) (by kernel_rfl) ?_
  refine Steps.runQ [18] [] [] (v:=di (IntKind.wrap .i64 (97+(a0.productions.length:Int)))) (ae.addI (k:=.i64) (m:=97) (n:=(a0.productions.length:Int)) rfl rfl rfl) rfl (by kernel_rfl) (by kernel_rfl) ?_
  refine Steps.runQ [19] [] [] (v:=.d (.int .u8 (IntKind.wrap .u8 (IntKind.wrap .i64 (97+(a0.productions.length:Int)))))) (ae.convI rfl rfl zK Ax) rfl (by kernel_rfl) (by kernel_rfl) ?_
  refine Steps.runQ [20] [] [] (v:=.d (af 1 (eI .u8) ([IntKind.wrap .u8 (IntKind.wrap .i64 (97+(a0.productions.length:Int)))]:List Int))) (ae.bsliceX [.d (.int .u8 (IntKind.wrap .u8 (IntKind.wrap .i64 (97+(a0.productions.length:Int)))))] [.d (.int .u8 (IntKind.wrap .u8 (IntKind.wrap .i64 (97+(a0.productions.length:Int)))))] (row (eI .u8) ([IntKind.wrap .u8 (IntKind.wrap .i64 (97+(a0.productions.length:Int)))]:List Int)) rfl yD zS rfl rfl (by kernel_rfl) ⟨rfl,trivial⟩ (by kernel_rfl) (by kernel_rfl)) rfl (by kernel_rfl) (by kernel_rfl) ?_
  refine Steps.runQ [21] [] [] (v:=.d (.str (strOf ([IntKind.wrap .u8 (IntKind.wrap .i64 (97+(a0.productions.length:Int)))]:List Int)))) (ae.toStrT ([IntKind.wrap .u8 (IntKind.wrap .i64 (97+(a0.productions.length:Int)))]:List Int) rfl rfl Am Ah) rfl (by kernel_rfl) (by kernel_rfl) ?_
  refine Steps.runQ [22] [] [] (v:=.d (.str ((⟨#[112]⟩:ByteArray)++(strOf ([IntKind.wrap .u8 (IntKind.wrap .i64 (97+(a0.productions.length:Int)))]:List Int))))) (ae.addS rfl rfl rfl hz1) rfl (by kernel_rfl) (by kernel_rfl) ?_
  refine Steps.runQ [4] [] [1] (v:=.ptr 1 0) (ae.fieldAddr (id:=1) (off:=0) (fo:=0) rfl rfl zL rfl rfl) rfl (by kernel_rfl) (by kernel_rfl) ?_
  refine Steps.runQ [24] [1] [] (v:=.d (.int .u8 a1.left)) (ae.load rfl rfl AF rfl rfl) rfl (by kernel_rfl) (by kernel_rfl) ?_
  refine Steps.runQ [25] [] [] (v:=di (IntKind.wrap .i64 a1.left)) (ae.convI rfl rfl AD zu) rfl (by kernel_rfl) (by kernel_rfl) ?_
  refine Steps.runQ [7] [] [] (v:=di (a0.nonterminals.length:Int)) (ae.move rfl rfl) rfl (by kernel_rfl) (by kernel_rfl) ?_
  refine Steps.runQ [26,27] [] [] (v:=di (Int.tmod (IntKind.wrap .i64 a1.left) (a0.nonterminals.length:Int))) (ae.remI rfl rfl rfl hz2) rfl (by kernel_rfl) (by kernel_rfl) ?_
  refine Steps.runQ [23,28] [] [] (v:=.agg [.d (.str y3.1),di y3.2.1,.nsl,.nsl,di y3.2.2.1,db y3.2.2.2.1,di y3.2.2.2.2.1,.nsl,db y3.2.2.2.2.2.1,di y3.2.2.2.2.2.2.1,di y3.2.2.2.2.2.2.2.1,di y3.2.2.2.2.2.2.2.2.1,di y3.2.2.2.2.2.2.2.2.2]) (ae.callS [] (pd ((⟨#[112]⟩:ByteArray)++(strOf ([IntKind.wrap .u8 (IntKind.wrap .i64 (97+(a0.productions.length:Int)))]:List Int))) (Int.tmod (IntKind.wrap .i64 a1.left) (a0.nonterminals.length:Int)) _ hy3) rfl rfl ⟨rfl,rfl,rfl,trivial⟩ (by decide) rfl rfl trivial) rfl (by kernel_rfl) (by kernel_rfl) ?_
  refine Steps.run [] [] [3] [] [3] (v:=.ptr 3 0) (ae.put [3] (ae.alloc rfl ql) (by decide) rfl rfl rfl) rfl (by kernel_rfl) (by kernel_rfl) (by kernel_rfl) (by kernel_rfl) ?_
  refine Steps.hp (h':=[.live (.var (ah a0)),.live (.var (dB a1)),.live (.var [.nsl,.nsl,di 0,.nsl,.nsl,.nsl,di 0,.nsl,.nsl]),.live (.var [.d (.str (⟨#[]⟩:ByteArray)),di 0,.nsl,.nsl,di 0,db false,di 0,.nsl,db false,di 0,di 0,di 0,di 0])]) rfl ?_
  refine Steps.run [8,29] [] [3] [] [] (ae.store rfl rfl rfl n9 rfl rfl rfl rfl rfl) rfl (by kernel_rfl) (by kernel_rfl) (by kernel_rfl) (by kernel_rfl) ?_
  refine Steps.hp (h':=[.live (.var (ah a0)),.live (.var (dB a1)),.live (.var [.nsl,.nsl,di 0,.nsl,.nsl,.nsl,di 0,.nsl,.nsl]),.live (.var [.d (.str y3.1),di y3.2.1,.nsl,.nsl,di y3.2.2.1,db y3.2.2.2.1,di y3.2.2.2.2.1,.nsl,db y3.2.2.2.2.2.1,di y3.2.2.2.2.2.2.1,di y3.2.2.2.2.2.2.2.1,di y3.2.2.2.2.2.2.2.2.1,di y3.2.2.2.2.2.2.2.2.2])]) rfl ?_
  exact Steps.nil _
 refine aa.sr (ab.ev0n [0] [(9,di 0)] [] ?_)
 refine aa.sr (ab.ev0n [0] [(10,db true)] [] ?_)
 refine aa.seq ?_
 refine aa.sr (ab.ev0n [0] [(11,di 0)] [] ?_)
 refine aa.block ?_
 refine ao h fun x25 ho36 h=>?_
 refine aa.cut (Q':=fun e s'=>e = .exit 0∧s'=⟨[(2,db a2),(3,.ptr 0 0),(4,.ptr 1 0),(6,.ptr 2 0),(8,.ptr 3 0),(9,di x25.1),(10,db x25.2.1)],[.live (.var (ah a0)),.live (.var (dB a1)),.live (.var [.nsl,.nsl,di 0,.nsl,.nsl,.nsl,di 0,.nsl,.nsl]),.live (.var [.d (.str y3.1),di y3.2.1,.osl 4 0 x25.2.2.length 2,.nsl,di y3.2.2.1,db y3.2.2.2.1,di y3.2.2.2.2.1,.nsl,db y3.2.2.2.2.2.1,di y3.2.2.2.2.2.2.1,di y3.2.2.2.2.2.2.2.1,di y3.2.2.2.2.2.2.2.2.1,di y3.2.2.2.2.2.2.2.2.2]),.live (.arr 2 x25.2.2.length false (row ay x25.2.2))]⟩) ?_ ?_
 ·
  have h:=ho36
  refine aa.ghost (GStep.trans (GStep.keep [2,3,4,6,7,8,9,10,11]) (GStep.own 3 2 2 (row ay ([]:List aw)) rfl rfl rfl)) ?_
  refine aa.loopI (F:=fun k v=>cc k a0 a1 a2 y3 v) (fun v=>⟨[(2,db a2),(3,.ptr 0 0),(4,.ptr 1 0),(6,.ptr 2 0),(7,di (a0.nonterminals.length:Int)),(8,.ptr 3 0),(9,di v.1),(10,db v.2.1),(11,di v.2.2.1)],[.live (.var (ah a0)),.live (.var (dB a1)),.live (.var [.nsl,.nsl,di 0,.nsl,.nsl,.nsl,di 0,.nsl,.nsl]),.live (.var [.d (.str y3.1),di y3.2.1,.osl 4 0 v.2.2.2.length 2,.nsl,di y3.2.2.1,db y3.2.2.2.1,di y3.2.2.2.2.1,.nsl,db y3.2.2.2.2.2.1,di y3.2.2.2.2.2.2.1,di y3.2.2.2.2.2.2.2.1,di y3.2.2.2.2.2.2.2.2.1,di y3.2.2.2.2.2.2.2.2.2]),.live (.arr 2 v.2.2.2.length false (row ay v.2.2.2))]⟩) (k:=k) (v:=(0,true,0,([]:List aw))) h rfl (fun _=>rfl) ?_
  intro k v ih h
  obtain ⟨v0_0,v0_1,v0_2,v0_3⟩:=v
  have h:=(cw ..).symm.trans h
  refine aa.seq ?_
  refine aa.seq ?_
  refine ao h fun x6 ho5 h=>?_
  refine aa.cut (Q':=fun e s'=>e = .normal∧s'=⟨[(2,db a2),(3,.ptr 0 0),(4,.ptr 1 0),(6,.ptr 2 0),(7,di (a0.nonterminals.length:Int)),(8,.ptr 3 0),(9,di v0_0),(10,db v0_1),(11,di v0_2),(38,db x6)],[.live (.var (ah a0)),.live (.var (dB a1)),.live (.var [.nsl,.nsl,di 0,.nsl,.nsl,.nsl,di 0,.nsl,.nsl]),.live (.var [.d (.str y3.1),di y3.2.1,.osl 4 0 v0_3.length 2,.nsl,di y3.2.2.1,db y3.2.2.2.1,di y3.2.2.2.2.1,.nsl,db y3.2.2.2.2.2.1,di y3.2.2.2.2.2.2.1,di y3.2.2.2.2.2.2.2.1,di y3.2.2.2.2.2.2.2.2.1,di y3.2.2.2.2.2.2.2.2.2]),.live (.arr 2 v0_3.length false (row ay v0_3))]⟩) ?_ ?_
  ·
   have h:=ho5
   refine au h (fun hc4 h=>?_) (fun hc4 h=>?_)
   ·
    refine aa.region (ab.ev0n [0,0,0,0,0,0,1,0,0] [(38,db (decide (v0_2 < 4)))] [⟨_,hc4⟩] ?_)
    cases h
    exact ⟨_,(GStep.keep [2,3,4,6,7,8,9,10,11,38]),rfl,rfl⟩
   refine aa.region (ab.ev0n [0,0,0,0,0,0,2,0,0] [(38,db false)] [⟨_,hc4⟩] ?_)
   cases h
   exact ⟨_,(GStep.keep [2,3,4,6,7,8,9,10,11,38]),rfl,rfl⟩
  rintro e s' hq
  obtain ⟨rfl,rfl⟩:=hq
  refine aa.condI h rfl (fun hc7 h=>?_) (fun hc7 h=>?_)
  ·
   refine aa.skip ?_
   refine aa.seq ?_
   refine ao h fun x24 ho23 h=>?_
   refine aa.cut (Q':=fun e s'=>e = .normal∧s'=⟨[(2,db a2),(3,.ptr 0 0),(4,.ptr 1 0),(6,.ptr 2 0),(7,di (a0.nonterminals.length:Int)),(8,.ptr 3 0),(9,di x24.1),(10,db x24.2.1),(11,di v0_2)],[.live (.var (ah a0)),.live (.var (dB a1)),.live (.var [.nsl,.nsl,di 0,.nsl,.nsl,.nsl,di 0,.nsl,.nsl]),.live (.var [.d (.str y3.1),di y3.2.1,.osl 4 0 x24.2.2.length 2,.nsl,di y3.2.2.1,db y3.2.2.2.1,di y3.2.2.2.2.1,.nsl,db y3.2.2.2.2.2.1,di y3.2.2.2.2.2.2.1,di y3.2.2.2.2.2.2.2.1,di y3.2.2.2.2.2.2.2.2.1,di y3.2.2.2.2.2.2.2.2.2]),.live (.arr 2 x24.2.2.length false (row ay x24.2.2))]⟩) ?_ ?_
   ·
    have h:=ho23
    refine aa.block ?_
    refine aa.seq ?_
    refine aD h fun hb8 h=>?_
    refine aa.region (ab.ev0n [0,0,0,0,0,0,0,0] [(12,di (Int.tmod (IntKind.wrap .i64 (nth a1.right v0_2)) 14))] [⟨_,hb8.1⟩,⟨_,hb8.2⟩] ?_)
    refine aa.seq ?_
    refine aa.sr (ab.ev0n [0,0] [(49,db (decide ((Int.tmod (IntKind.wrap .i64 (nth a1.right v0_2)) 14) < 9)))] [] ?_)
    refine aa.condI h rfl (fun hc9 h=>?_) (fun hc9 h=>?_)
    ·
     refine aa.seq ?_
     refine ao h fun y10 hy10 h=>?_
     refine aD h fun hz11 h=>?_
     refine aa.ghost (GStep.resv 1) ?_
     refine aa.regionAny mixed (s':=?s12) (qs:=[⟨[8],[],[],[3],[]⟩,⟨[50],[3],[],[4],[]⟩,⟨[12],[],[],[],[]⟩,⟨[52],[],[],[],[]⟩,⟨[53],[],[],[],[]⟩,⟨[51,54],[],[4,5],[],[5]⟩,⟨[8],[],[],[3],[]⟩,⟨[55,56],[],[3],[4,5],[]⟩]) ?_ (by kernel_rfl) ?_
     rotate_left
     ·
      refine Steps.runQ [8] [] [3] (v:=.ptr 3 2) (ae.fieldAddr (id:=3) (off:=0) (fo:=2) rfl rfl cz rfl rfl) rfl (by kernel_rfl) (by kernel_rfl) ?_
      refine Steps.runQ [50] [3] [4] (v:=.osl 4 0 v0_3.length 2) (ae.load rfl rfl cV rfl rfl) rfl (by kernel_rfl) (by kernel_rfl) ?_
      refine Steps.runQ [12] [] [] (v:=di (Int.tmod (IntKind.wrap .i64 (nth a1.right v0_2)) 14)) (ae.move rfl rfl) rfl (by kernel_rfl) (by kernel_rfl) ?_
      refine Steps.runQ [52] [] [] (v:=.agg (bW y10)) (ae.callS [] (pY (Int.tmod (IntKind.wrap .i64 (nth a1.right v0_2)) 14) _ hy10) rfl rfl ⟨rfl,trivial⟩ (by decide) rfl rfl trivial) rfl (by kernel_rfl) (by kernel_rfl) ?_
      refine Steps.runQ [53] [] [] (v:=.d (af 2 ay ([y10]:List aw))) (ae.bsliceX [db y10.token,di y10.index] [.d (.bool y10.token),.d (.int .i64 y10.index)] (row ay ([y10]:List aw)) rfl bL kD rfl rfl (by kernel_rfl) ⟨rfl,rfl,trivial⟩ (by kernel_rfl) (by kernel_rfl)) rfl (by kernel_rfl) (by kernel_rfl) ?_
      refine Steps.run [51,54] [] [4,5] [] [5] (v:=.osl 5 0 ((v0_3++([y10]:List aw)).length) 2) (ae.put [5] (ae.appTn ay v0_3 ([y10]:List aw) rfl rfl rfl rfl rfl bL yn yB rfl hz11) (by decide) rfl rfl rfl) rfl (by kernel_rfl) (by kernel_rfl) (by kernel_rfl) (by kernel_rfl) ?_
      refine Steps.hp (h':=[.live (.var (ah a0)),.live (.var (dB a1)),.live (.var [.nsl,.nsl,di 0,.nsl,.nsl,.nsl,di 0,.nsl,.nsl]),.live (.var [.d (.str y3.1),di y3.2.1,.osl 4 0 v0_3.length 2,.nsl,di y3.2.2.1,db y3.2.2.2.1,di y3.2.2.2.2.1,.nsl,db y3.2.2.2.2.2.1,di y3.2.2.2.2.2.2.1,di y3.2.2.2.2.2.2.2.1,di y3.2.2.2.2.2.2.2.2.1,di y3.2.2.2.2.2.2.2.2.2]),.freed,.live (.arr 2 ((v0_3++([y10]:List aw)).length) false (row ay (v0_3++([y10]:List aw))))]) rfl ?_
      refine Steps.runQ [8] [] [3] (v:=.ptr 3 2) (ae.fieldAddr (id:=3) (off:=0) (fo:=2) rfl rfl cz rfl rfl) rfl (by kernel_rfl) (by kernel_rfl) ?_
      refine Steps.run [55,56] [] [3] [4,5] [] (ae.store rfl rfl rfl cV rfl rfl rfl rfl rfl) rfl (by kernel_rfl) (by kernel_rfl) (by kernel_rfl) (by kernel_rfl) ?_
      refine Steps.hp (h':=[.live (.var (ah a0)),.live (.var (dB a1)),.live (.var [.nsl,.nsl,di 0,.nsl,.nsl,.nsl,di 0,.nsl,.nsl]),.live (.var [.d (.str y3.1),di y3.2.1,.osl 5 0 ((v0_3++([y10]:List aw)).length) 2,.nsl,di y3.2.2.1,db y3.2.2.2.1,di y3.2.2.2.2.1,.nsl,db y3.2.2.2.2.2.1,di y3.2.2.2.2.2.2.1,di y3.2.2.2.2.2.2.2.1,di y3.2.2.2.2.2.2.2.2.1,di y3.2.2.2.2.2.2.2.2.2]),.freed,.live (.arr 2 ((v0_3++([y10]:List aw)).length) false (row ay (v0_3++([y10]:List aw))))]) rfl ?_
      exact Steps.nil _
     refine aa.sr (ab.ev0n [0,0,0] [(9,di (IntKind.wrap .i64 (v0_0+1)))] [] ?_)
     refine aa.exit ?_
     cases h
     exact ⟨_,(GStep.trans (GStep.keep [2,3,4,6,7,8,9,10,11]) (GStep.ren [0,1,2,3,5] (by decide) rfl rfl)),rfl,rfl⟩
    refine aa.skip ?_
    refine aa.seq ?_
    refine aD h fun hz13 h=>?_
    refine ao h fun y14 hy14 h=>?_
    refine aD h fun hz15 h=>?_
    refine aa.ghost (GStep.resv 1) ?_
    refine aa.regionAny mixed (s':=?s22) (qs:=[⟨[8],[],[],[3],[]⟩,⟨[59],[3],[],[4],[]⟩,⟨[12],[],[],[],[]⟩,⟨[61],[],[],[],[]⟩,⟨[7],[],[],[],[]⟩,⟨[62,63],[],[],[],[]⟩,⟨[64],[],[],[],[]⟩,⟨[65],[],[],[],[]⟩,⟨[60,66],[],[4,5],[],[5]⟩,⟨[8],[],[],[3],[]⟩,⟨[67,68],[],[3],[4,5],[]⟩]) ?_ (by kernel_rfl) ?_
    rotate_left
    ·
     refine Steps.runQ [8] [] [3] (v:=.ptr 3 2) (ae.fieldAddr (id:=3) (off:=0) (fo:=2) rfl rfl cz rfl rfl) rfl (by kernel_rfl) (by kernel_rfl) ?_
     refine Steps.runQ [59] [3] [4] (v:=.osl 4 0 v0_3.length 2) (ae.load rfl rfl cV rfl rfl) rfl (by kernel_rfl) (by kernel_rfl) ?_
     refine Steps.runQ [12] [] [] (v:=di (Int.tmod (IntKind.wrap .i64 (nth a1.right v0_2)) 14)) (ae.move rfl rfl) rfl (by kernel_rfl) (by kernel_rfl) ?_
     refine Steps.runQ [61] [] [] (v:=di (IntKind.wrap .i64 ((Int.tmod (IntKind.wrap .i64 (nth a1.right v0_2)) 14) - 9))) (ae.subI (k:=.i64) (m:=(Int.tmod (IntKind.wrap .i64 (nth a1.right v0_2)) 14)) (n:=9) rfl rfl rfl) rfl (by kernel_rfl) (by kernel_rfl) ?_
     refine Steps.runQ [7] [] [] (v:=di (a0.nonterminals.length:Int)) (ae.move rfl rfl) rfl (by kernel_rfl) (by kernel_rfl) ?_
     refine Steps.runQ [62,63] [] [] (v:=di (Int.tmod (IntKind.wrap .i64 ((Int.tmod (IntKind.wrap .i64 (nth a1.right v0_2)) 14) - 9)) (a0.nonterminals.length:Int))) (ae.remI rfl rfl rfl hz13) rfl (by kernel_rfl) (by kernel_rfl) ?_
     refine Steps.runQ [64] [] [] (v:=.agg (bW y14)) (ae.callS [] (vz (Int.tmod (IntKind.wrap .i64 ((Int.tmod (IntKind.wrap .i64 (nth a1.right v0_2)) 14) - 9)) (a0.nonterminals.length:Int)) _ hy14) rfl rfl ⟨rfl,trivial⟩ (by decide) rfl rfl trivial) rfl (by kernel_rfl) (by kernel_rfl) ?_
     refine Steps.runQ [65] [] [] (v:=.d (af 2 ay ([y14]:List aw))) (ae.bsliceX [db y14.token,di y14.index] [.d (.bool y14.token),.d (.int .i64 y14.index)] (row ay ([y14]:List aw)) rfl bL kD rfl rfl (by kernel_rfl) ⟨rfl,rfl,trivial⟩ (by kernel_rfl) (by kernel_rfl)) rfl (by kernel_rfl) (by kernel_rfl) ?_
     refine Steps.run [60,66] [] [4,5] [] [5] (v:=.osl 5 0 ((v0_3++([y14]:List aw)).length) 2) (ae.put [5] (ae.appTn ay v0_3 ([y14]:List aw) rfl rfl rfl rfl rfl bL yn yB rfl hz15) (by decide) rfl rfl rfl) rfl (by kernel_rfl) (by kernel_rfl) (by kernel_rfl) (by kernel_rfl) ?_
     refine Steps.hp (h':=[.live (.var (ah a0)),.live (.var (dB a1)),.live (.var [.nsl,.nsl,di 0,.nsl,.nsl,.nsl,di 0,.nsl,.nsl]),.live (.var [.d (.str y3.1),di y3.2.1,.osl 4 0 v0_3.length 2,.nsl,di y3.2.2.1,db y3.2.2.2.1,di y3.2.2.2.2.1,.nsl,db y3.2.2.2.2.2.1,di y3.2.2.2.2.2.2.1,di y3.2.2.2.2.2.2.2.1,di y3.2.2.2.2.2.2.2.2.1,di y3.2.2.2.2.2.2.2.2.2]),.freed,.live (.arr 2 ((v0_3++([y14]:List aw)).length) false (row ay (v0_3++([y14]:List aw))))]) rfl ?_
     refine Steps.runQ [8] [] [3] (v:=.ptr 3 2) (ae.fieldAddr (id:=3) (off:=0) (fo:=2) rfl rfl cz rfl rfl) rfl (by kernel_rfl) (by kernel_rfl) ?_
     refine Steps.run [67,68] [] [3] [4,5] [] (ae.store rfl rfl rfl cV rfl rfl rfl rfl rfl) rfl (by kernel_rfl) (by kernel_rfl) (by kernel_rfl) (by kernel_rfl) ?_
     refine Steps.hp (h':=[.live (.var (ah a0)),.live (.var (dB a1)),.live (.var [.nsl,.nsl,di 0,.nsl,.nsl,.nsl,di 0,.nsl,.nsl]),.live (.var [.d (.str y3.1),di y3.2.1,.osl 5 0 ((v0_3++([y14]:List aw)).length) 2,.nsl,di y3.2.2.1,db y3.2.2.2.1,di y3.2.2.2.2.1,.nsl,db y3.2.2.2.2.2.1,di y3.2.2.2.2.2.2.1,di y3.2.2.2.2.2.2.2.1,di y3.2.2.2.2.2.2.2.2.1,di y3.2.2.2.2.2.2.2.2.2]),.freed,.live (.arr 2 ((v0_3++([y14]:List aw)).length) false (row ay (v0_3++([y14]:List aw))))]) rfl ?_
     exact Steps.nil _
    refine ao h fun x21 ho20 h=>?_
    refine aa.cut (Q':=fun e s'=>e = .normal∧s'=⟨[(2,db a2),(3,.ptr 0 0),(4,.ptr 1 0),(6,.ptr 2 0),(7,di (a0.nonterminals.length:Int)),(8,.ptr 3 0),(9,di v0_0),(10,db x21),(11,di v0_2)],[.live (.var (ah a0)),.live (.var (dB a1)),.live (.var [.nsl,.nsl,di 0,.nsl,.nsl,.nsl,di 0,.nsl,.nsl]),.live (.var [.d (.str y3.1),di y3.2.1,.osl 4 0 ((v0_3++([y14]:List aw)).length) 2,.nsl,di y3.2.2.1,db y3.2.2.2.1,di y3.2.2.2.2.1,.nsl,db y3.2.2.2.2.2.1,di y3.2.2.2.2.2.2.1,di y3.2.2.2.2.2.2.2.1,di y3.2.2.2.2.2.2.2.2.1,di y3.2.2.2.2.2.2.2.2.2]),.live (.arr 2 ((v0_3++([y14]:List aw)).length) false (row ay (v0_3++([y14]:List aw))))]⟩) ?_ ?_
    ·
     have h:=ho20
     refine au h (fun hc16 h=>?_) (fun hc16 h=>?_)
     ·
      refine aD h fun hz17 h=>?_
      refine aa.regionAny mixed (s':=?s18) (qs:=[⟨[10],[],[],[],[]⟩,⟨[69],[],[],[],[]⟩,⟨[12,70],[],[],[],[]⟩,⟨[70,71],[],[],[],[]⟩,⟨[7,70],[],[],[],[]⟩,⟨[70,72,73],[],[],[],[]⟩,⟨[8,70],[],[],[3],[]⟩,⟨[70,75],[3],[],[5],[]⟩,⟨[70,74,76],[],[],[],[]⟩,⟨[70,77],[],[],[],[]⟩,⟨[78],[],[],[],[]⟩]) ?_ (by kernel_rfl) ?_
      rotate_left
      ·
       refine Steps.runQ [10] [] [] (v:=db v0_1) (ae.move rfl rfl) rfl (by kernel_rfl) (by kernel_rfl) ?_
       refine Steps.runQ [69] [] [] (v:=db v0_1) (ae.move rfl rfl) rfl (by kernel_rfl) (by kernel_rfl) ?_
       refine Steps.grunQ [12,70] [] [] (v:=di (Int.tmod (IntKind.wrap .i64 (nth a1.right v0_2)) 14)) (ae.move rfl rfl) rfl rfl rfl hc16 (by kernel_rfl) (by kernel_rfl) (by kernel_rfl) ?_
       refine Steps.grunQ [70,71] [] [] (v:=di (IntKind.wrap .i64 ((Int.tmod (IntKind.wrap .i64 (nth a1.right v0_2)) 14) - 9))) (ae.subI (k:=.i64) (m:=(Int.tmod (IntKind.wrap .i64 (nth a1.right v0_2)) 14)) (n:=9) rfl rfl rfl) rfl rfl rfl hc16 (by kernel_rfl) (by kernel_rfl) (by kernel_rfl) ?_
       refine Steps.grunQ [7,70] [] [] (v:=di (a0.nonterminals.length:Int)) (ae.move rfl rfl) rfl rfl rfl hc16 (by kernel_rfl) (by kernel_rfl) (by kernel_rfl) ?_
       refine Steps.grunQ [70,72,73] [] [] (v:=di (Int.tmod (IntKind.wrap .i64 ((Int.tmod (IntKind.wrap .i64 (nth a1.right v0_2)) 14) - 9)) (a0.nonterminals.length:Int))) (ae.remI rfl rfl rfl hz17) rfl rfl rfl hc16 (by kernel_rfl) (by kernel_rfl) (by kernel_rfl) ?_
       refine Steps.grunQ [8,70] [] [3] (v:=.ptr 3 1) (ae.fieldAddr (id:=3) (off:=0) (fo:=1) rfl rfl cz rfl rfl) rfl rfl rfl hc16 (by kernel_rfl) (by kernel_rfl) (by kernel_rfl) ?_
       refine Steps.grunQ [70,75] [3] [5] (v:=di y3.2.1) (ae.load rfl rfl aX rfl rfl) rfl rfl rfl hc16 (by kernel_rfl) (by kernel_rfl) (by kernel_rfl) ?_
       refine Steps.grunQ [70,74,76] [] [] (v:=db (decide ((Int.tmod (IntKind.wrap .i64 ((Int.tmod (IntKind.wrap .i64 (nth a1.right v0_2)) 14) - 9)) (a0.nonterminals.length:Int)) > y3.2.1))) (ae.gtrI (k:=.i64) (m:=(Int.tmod (IntKind.wrap .i64 ((Int.tmod (IntKind.wrap .i64 (nth a1.right v0_2)) 14) - 9)) (a0.nonterminals.length:Int))) (n:=y3.2.1) rfl rfl rfl) rfl rfl rfl hc16 (by kernel_rfl) (by kernel_rfl) (by kernel_rfl) ?_
       refine Steps.runQ [70,77] [] [] (v:=db (decide ((Int.tmod (IntKind.wrap .i64 ((Int.tmod (IntKind.wrap .i64 (nth a1.right v0_2)) 14) - 9)) (a0.nonterminals.length:Int)) > y3.2.1))) (ae.pickT rfl rfl hc16 rfl) rfl (by kernel_rfl) (by kernel_rfl) ?_
       refine Steps.runQ [78] [] [] (v:=db (decide ((Int.tmod (IntKind.wrap .i64 ((Int.tmod (IntKind.wrap .i64 (nth a1.right v0_2)) 14) - 9)) (a0.nonterminals.length:Int)) > y3.2.1))) (ae.assign rfl rfl) rfl (by kernel_rfl) (by kernel_rfl) ?_
       exact Steps.nil _
      cases h
      exact ⟨_,(GStep.trans (GStep.keep [2,3,4,6,7,8,9,10,11]) (GStep.ren [0,1,2,3,5] (by decide) rfl rfl)),rfl,rfl⟩
     refine aa.regionAny mixed (s':=?s19) (qs:=[⟨[10],[],[],[],[]⟩,⟨[69],[],[],[],[]⟩,⟨[12,70],[],[],[],[]⟩,⟨[70,71],[],[],[],[]⟩,⟨[7,70],[],[],[],[]⟩,⟨[70,72,73],[],[],[],[]⟩,⟨[8,70],[],[],[],[]⟩,⟨[70,75],[],[],[],[]⟩,⟨[70,74,76],[],[],[],[]⟩,⟨[70,77],[],[],[],[]⟩,⟨[78],[],[],[],[]⟩]) ?_ (by kernel_rfl) ?_
     rotate_left
     ·
      refine Steps.runQ [10] [] [] (v:=db v0_1) (ae.move rfl rfl) rfl (by kernel_rfl) (by kernel_rfl) ?_
      refine Steps.runQ [69] [] [] (v:=db v0_1) (ae.move rfl rfl) rfl (by kernel_rfl) (by kernel_rfl) ?_
      refine Steps.gpass [12,70] rfl rfl rfl hc16 rfl rfl ?_
      refine Steps.gpass [70,71] rfl rfl rfl hc16 rfl rfl ?_
      refine Steps.gpass [7,70] rfl rfl rfl hc16 rfl rfl ?_
      refine Steps.gpass [70,72,73] rfl rfl rfl hc16 rfl rfl ?_
      refine Steps.gpass [8,70] rfl rfl rfl hc16 rfl rfl ?_
      refine Steps.gpass [70,75] rfl rfl rfl hc16 rfl rfl ?_
      refine Steps.gpass [70,74,76] rfl rfl rfl hc16 rfl rfl ?_
      refine Steps.runQ [70,77] [] [] (v:=db false) (ae.pickF rfl rfl hc16 rfl) rfl (by kernel_rfl) (by kernel_rfl) ?_
      refine Steps.runQ [78] [] [] (v:=db false) (ae.assign rfl rfl) rfl (by kernel_rfl) (by kernel_rfl) ?_
      exact Steps.nil _
     cases h
     exact ⟨_,(GStep.trans (GStep.keep [2,3,4,6,7,8,9,10,11]) (GStep.ren [0,1,2,3,5] (by decide) rfl rfl)),rfl,rfl⟩
    rintro e s' hq
    obtain ⟨rfl,rfl⟩:=hq
    cases h
    exact ⟨_,(GStep.keep [2,3,4,6,7,8,9,10,11]),rfl,rfl⟩
   rintro e s' hq
   obtain ⟨rfl,rfl⟩:=hq
   refine aa.region (ab.ev0n [0,0,0] [(11,di (IntKind.wrap .i64 (v0_2+1)))] [] ?_)
   exact aM.ghost (GStep.keep [2,3,4,6,7,8,9,10,11]) (ih (x24.1,x24.2.1,(IntKind.wrap .i64 (v0_2+1)),x24.2.2) h)
  refine aa.exit ?_
  cases h
  exact ⟨_,(GStep.keep [2,3,4,6,8,9,10]),rfl,rfl⟩
 rintro e s' hq
 obtain ⟨rfl,rfl⟩:=hq
 refine aa.seq ?_
 refine aa.seq ?_
 refine ao h fun x29 ho28 h=>?_
 refine aa.cut (Q':=fun e s'=>e = .normal∧s'=⟨[(3,.ptr 0 0),(4,.ptr 1 0),(6,.ptr 2 0),(8,.ptr 3 0),(87,db x29)],[.live (.var (ah a0)),.live (.var (dB a1)),.live (.var [.nsl,.nsl,di 0,.nsl,.nsl,.nsl,di 0,.nsl,.nsl]),.live (.var [.d (.str y3.1),di y3.2.1,.osl 4 0 x25.2.2.length 2,.nsl,di y3.2.2.1,db y3.2.2.2.1,di y3.2.2.2.2.1,.nsl,db y3.2.2.2.2.2.1,di y3.2.2.2.2.2.2.1,di y3.2.2.2.2.2.2.2.1,di y3.2.2.2.2.2.2.2.2.1,di y3.2.2.2.2.2.2.2.2.2]),.live (.arr 2 x25.2.2.length false (row ay x25.2.2))]⟩) ?_ ?_
 ·
  have h:=ho28
  refine au h (fun hc26 h=>?_) (fun hc26 h=>?_)
  ·
   refine au h (fun hc27 h=>?_) (fun hc27 h=>?_)
   ·
    refine aa.region (ab.ev0n [0,0,0,1,0,2,0,0,0] [(87,db true)] [⟨_,hc26⟩,⟨_,hc27⟩] ?_)
    cases h
    exact ⟨_,(GStep.keep [3,4,6,8,87]),rfl,rfl⟩
   refine aa.region (ab.ev0n [0,0,0,1,0,1,0,0,0] [(87,db (!x25.2.1))] [⟨_,hc26⟩,⟨_,hc27⟩] ?_)
   cases h
   exact ⟨_,(GStep.keep [3,4,6,8,87]),rfl,rfl⟩
  refine aa.region (ab.ev0n [0,0,0,2,0,0,0,0,0] [(87,db false)] [⟨_,hc26⟩] ?_)
  cases h
  exact ⟨_,(GStep.keep [3,4,6,8,87]),rfl,rfl⟩
 rintro e s' hq
 obtain ⟨rfl,rfl⟩:=hq
 refine aa.condI h rfl (fun hc30 h=>?_) (fun hc30 h=>?_)
 ·
  refine aa.sr (ab.evn (h':=[.live (.var (ah a0)),.live (.var (dB a1)),.live (.var (ah a0)),.live (.var [.d (.str y3.1),di y3.2.1,.osl 4 0 x25.2.2.length 2,.nsl,di y3.2.2.1,db y3.2.2.2.1,di y3.2.2.2.2.1,.nsl,db y3.2.2.2.2.2.1,di y3.2.2.2.2.2.2.1,di y3.2.2.2.2.2.2.2.1,di y3.2.2.2.2.2.2.2.2.1,di y3.2.2.2.2.2.2.2.2.2]),.live (.arr 2 x25.2.2.length false (row ay x25.2.2))]) [0,0] [] [] ?_)
  refine aa.ret ?_
  cases h
  exact ⟨_,(GStep.trans (GStep.keep [6]) (GStep.ren [2] (by decide) rfl rfl)),.inr rfl,Fin.mk2 (aB.one (.cellA rfl en rfl rfl)) [] (by decide) rfl rfl rfl ⟨rfl,rfl,rfl,rfl,rfl,rfl,rfl,rfl,rfl,trivial⟩⟩
 refine aa.skip ?_
 refine aa.seq ?_
 refine ao h fun y31 hy31 h=>?_
 refine aa.region (ab.ev0 [0,0,0,0,0] [(90,.d (.int .u8 a1.ifF)),(93,di (a0.conditions.length:Int))] [] ?_)
 refine ab.step (v:=.agg (an y31)) (ae.callS [] (nA k a1.ifF (a0.conditions.length:Int) _ hy31) rfl rfl ⟨rfl,rfl,trivial⟩ (by decide) rfl rfl trivial) rfl rfl rfl ?_
 refine ab.evn (h':=[.live (.var (ah a0)),.live (.var (dB a1)),.live (.var [.nsl,.nsl,di 0,.nsl,.nsl,.nsl,di 0,.nsl,.nsl]),.live (.var [.d (.str y3.1),di y3.2.1,.osl 4 0 x25.2.2.length 2,.d (af 3 ag y31.nodes),di y31.root,db y3.2.2.2.1,di y3.2.2.2.2.1,.nsl,db y3.2.2.2.2.2.1,di y3.2.2.2.2.2.2.1,di y3.2.2.2.2.2.2.2.1,di y3.2.2.2.2.2.2.2.2.1,di y3.2.2.2.2.2.2.2.2.2]),.live (.arr 2 x25.2.2.length false (row ay x25.2.2))]) [0,0] [] [] ?_
 refine aa.seq ?_
 refine ao h fun y32 hy32 h=>?_
 refine aa.region (ab.ev0 [0,0,0] [(96,.agg [.d (.str y3.1),di y3.2.1,.osl 4 0 x25.2.2.length 2,.d (af 3 ag y31.nodes),di y31.root,db y3.2.2.2.1,di y3.2.2.2.2.1,.nsl,db y3.2.2.2.2.2.1,di y3.2.2.2.2.2.2.1,di y3.2.2.2.2.2.2.2.1,di y3.2.2.2.2.2.2.2.2.1,di y3.2.2.2.2.2.2.2.2.2]),(98,.d (.int .u8 a1.mark))] [] ?_)
 refine ab.ghost (GStep.trans (GStep.keep [3,6,8,96,98]) (GStep.shutG 4 rfl ⟨trivial,trivial,trivial,⟨trivial,trivial,(fun _=>⟨Nat.le_of_eq (Nat.zero_add _),rfl⟩),trivial,trivial,trivial,trivial,trivial,trivial,trivial,trivial,trivial,trivial,trivial⟩,trivial,trivial⟩ ⟨⟨trivial,trivial,trivial,trivial,trivial,trivial,trivial,trivial,trivial,trivial⟩,⟨trivial,trivial,trivial,trivial,trivial⟩,⟨trivial,trivial,trivial,trivial,trivial,trivial,trivial,trivial,trivial,trivial⟩,⟨trivial,trivial,(fun _=>⟨Nat.le_of_eq (Nat.zero_add _),rfl⟩),trivial,trivial,trivial,trivial,trivial,trivial,trivial,trivial,trivial,trivial,trivial⟩,trivial,trivial⟩)) ?_
 refine ab.step (v:=.agg (az y32)) (ae.callS [] (p6 (⟨y3.1,y3.2.1,x25.2.2,y31,y3.2.2.2.1,y3.2.2.2.2.1,[],(⟨y3.2.2.2.2.2.1,y3.2.2.2.2.2.2.1,y3.2.2.2.2.2.2.2.1,y3.2.2.2.2.2.2.2.2.1,y3.2.2.2.2.2.2.2.2.2⟩:cY)⟩:aj) a1.mark _ hy32) rfl rfl ⟨⟨rfl,rfl,rfl,rfl,rfl,rfl,rfl,trivial,rfl,rfl,rfl,rfl,rfl,trivial⟩,rfl,trivial⟩ (by decide) rfl rfl trivial) rfl rfl rfl ?_
 refine ab.evn (h':=[.live (.var (ah a0)),.live (.var (dB a1)),.live (.var [.nsl,.nsl,di 0,.nsl,.nsl,.nsl,di 0,.nsl,.nsl]),.live (.var (az y32)),.freed]) [0] [] [] ?_
 refine aa.seq ?_
 refine aD h fun hz33 h=>?_
 refine aD h fun hz34 h=>?_
 refine aa.ghost (GStep.resv 3) ?_
 refine aa.regionAny mixed (s':=?s35) (qs:=[⟨[],[],[5],[],[5]⟩,⟨[3],[],[],[0],[]⟩,⟨[101],[0],[],[],[]⟩,⟨[100,102],[],[5,6],[],[6]⟩,⟨[8],[3],[],[],[]⟩,⟨[104],[],[],[],[]⟩,⟨[103,105],[],[6,7],[],[7]⟩,⟨[3],[],[],[0],[]⟩,⟨[106,107],[],[0],[7],[]⟩]) ?_ (by kernel_rfl) ?_
 rotate_left
 ·
  refine Steps.run [] [] [5] [] [5] (v:=.osl 5 0 (([]:List aj).length) 13) (ae.put [5] (ae.unex (ae.bsliceOX [] [] (row aq ([]:List aj)) rfl iA ql rfl rfl (by kernel_rfl) trivial (by kernel_rfl) (by kernel_rfl) rfl)) (by decide) rfl rfl rfl) rfl (by kernel_rfl) (by kernel_rfl) (by kernel_rfl) (by kernel_rfl) ?_
  refine Steps.hp (h':=[.live (.var (ah a0)),.live (.var (dB a1)),.live (.var [.nsl,.nsl,di 0,.nsl,.nsl,.nsl,di 0,.nsl,.nsl]),.live (.var (az y32)),.freed,.live (.arr 13 (([]:List aj).length) false (row aq ([]:List aj))),.resv,.resv]) rfl ?_
  refine Steps.runQ [3] [] [0] (v:=.ptr 0 5) (ae.fieldAddr (id:=0) (off:=0) (fo:=5) rfl rfl fm rfl rfl) rfl (by kernel_rfl) (by kernel_rfl) ?_
  refine Steps.runQ [101] [0] [] (v:=.d (af 13 aq a0.productions)) (ae.load rfl rfl mj rfl rfl) rfl (by kernel_rfl) (by kernel_rfl) ?_
  refine Steps.run [100,102] [] [5,6] [] [6] (v:=.osl 6 0 a0.productions.length 13) (ae.put [6] (ae.appTn aq ([]:List aj) a0.productions rfl rfl rfl rfl rfl iA rV rY rfl hz33) (by decide) rfl rfl rfl) rfl (by kernel_rfl) (by kernel_rfl) (by kernel_rfl) (by kernel_rfl) ?_
  refine Steps.hp (h':=[.live (.var (ah a0)),.live (.var (dB a1)),.live (.var [.nsl,.nsl,di 0,.nsl,.nsl,.nsl,di 0,.nsl,.nsl]),.live (.var (az y32)),.freed,.freed,.live (.arr 13 a0.productions.length false (row aq a0.productions)),.resv]) rfl ?_
  refine Steps.runQ [8] [3] [] (ae.loadA rfl rfl n9 rfl rfl) rfl (by kernel_rfl) (by kernel_rfl) ?_
  refine Steps.runQ [104] [] [] (v:=.d (af 13 aq ([y32]:List aj))) (ae.bsliceX [.d (.str y32.name),di y32.left,.d (af 2 ay y32.right),.d (af 3 ag y32.ifF.nodes),di y32.ifF.root,db y32.bracket,di y32.rank,.d (af 3 bi y32.layout),db y32.scope.opens,di y32.scope.declares,di y32.scope.kind,di y32.scope.uses,di y32.scope.allowed] [.d (.str y32.name),.d (.int .i64 y32.left),.d (af 2 ay y32.right),.d (af 3 ag y32.ifF.nodes),.d (.int .i64 y32.ifF.root),.d (.bool y32.bracket),.d (.int .i64 y32.rank),.d (af 3 bi y32.layout),.d (.bool y32.scope.opens),.d (.int .i64 y32.scope.declares),.d (.int .i64 y32.scope.kind),.d (.int .i64 y32.scope.uses),.d (.int .i64 y32.scope.allowed)] (row aq ([y32]:List aj)) rfl iA ql rfl rfl (by kernel_rfl) ⟨rfl,rfl,rfl,rfl,rfl,rfl,rfl,rfl,rfl,rfl,rfl,rfl,rfl,trivial⟩ (by kernel_rfl) (by kernel_rfl)) rfl (by kernel_rfl) (by kernel_rfl) ?_
  refine Steps.run [103,105] [] [6,7] [] [7] (v:=.osl 7 0 ((a0.productions++([y32]:List aj)).length) 13) (ae.put [7] (ae.appTn aq a0.productions ([y32]:List aj) rfl rfl rfl rfl rfl iA rV rY rfl hz34) (by decide) rfl rfl rfl) rfl (by kernel_rfl) (by kernel_rfl) (by kernel_rfl) (by kernel_rfl) ?_
  refine Steps.hp (h':=[.live (.var (ah a0)),.live (.var (dB a1)),.live (.var [.nsl,.nsl,di 0,.nsl,.nsl,.nsl,di 0,.nsl,.nsl]),.live (.var (az y32)),.freed,.freed,.freed,.live (.arr 13 ((a0.productions++([y32]:List aj)).length) false (row aq (a0.productions++([y32]:List aj))))]) rfl ?_
  refine Steps.runQ [3] [] [0] (v:=.ptr 0 5) (ae.fieldAddr (id:=0) (off:=0) (fo:=5) rfl rfl fm rfl rfl) rfl (by kernel_rfl) (by kernel_rfl) ?_
  refine Steps.run [106,107] [] [0] [7] [] (ae.store rfl rfl rfl mj rfl rfl rfl rfl rfl) rfl (by kernel_rfl) (by kernel_rfl) (by kernel_rfl) (by kernel_rfl) ?_
  refine Steps.hp (h':=[.live (.var [.d (af 1 eS a0.conditions),.d (af 3 ag a0.family.nodes),di a0.family.root,.d (af 7 aE a0.tokens),.d (af 1 eS a0.nonterminals),.osl 7 0 ((a0.productions++([y32]:List aj)).length) 13,di a0.start,.d (af 4 aH a0.levels),.d (af 9 aC a0.filters)]),.live (.var (dB a1)),.live (.var [.nsl,.nsl,di 0,.nsl,.nsl,.nsl,di 0,.nsl,.nsl]),.live (.var (az y32)),.freed,.freed,.freed,.live (.arr 13 ((a0.productions++([y32]:List aj)).length) false (row aq (a0.productions++([y32]:List aj))))]) rfl ?_
  exact Steps.nil _
 refine aa.sr (ab.evn (h':=[.live (.var [.d (af 1 eS a0.conditions),.d (af 3 ag a0.family.nodes),di a0.family.root,.d (af 7 aE a0.tokens),.d (af 1 eS a0.nonterminals),.osl 7 0 ((a0.productions++([y32]:List aj)).length) 13,di a0.start,.d (af 4 aH a0.levels),.d (af 9 aC a0.filters)]),.live (.var (dB a1)),.live (.var [.d (af 1 eS a0.conditions),.d (af 3 ag a0.family.nodes),di a0.family.root,.d (af 7 aE a0.tokens),.d (af 1 eS a0.nonterminals),.osl 7 0 ((a0.productions++([y32]:List aj)).length) 13,di a0.start,.d (af 4 aH a0.levels),.d (af 9 aC a0.filters)]),.live (.var (az y32)),.freed,.freed,.freed,.live (.arr 13 ((a0.productions++([y32]:List aj)).length) false (row aq (a0.productions++([y32]:List aj))))]) [0,0] [] [] ?_)
 refine aa.ret ?_
 cases h
 exact ⟨_,(GStep.trans (GStep.keep [6]) (GStep.trans (GStep.shutG 7 rfl ⟨trivial,trivial⟩ ⟨⟨trivial,trivial,trivial,trivial,trivial,(fun _=>⟨Nat.le_of_eq (Nat.zero_add _),rfl⟩),trivial,trivial,trivial,trivial⟩,⟨trivial,trivial,trivial,trivial,trivial⟩,⟨trivial,trivial,trivial,trivial,trivial,(fun _=>⟨Nat.le_of_eq (Nat.zero_add _),rfl⟩),trivial,trivial,trivial,trivial⟩,⟨trivial,trivial,trivial,trivial,trivial,trivial,trivial,trivial,trivial,trivial,trivial,trivial,trivial,trivial⟩,trivial,trivial,trivial,trivial,trivial⟩) (GStep.ren [2] (by decide) rfl rfl))),.inr rfl,Fin.mk2 (aB.one (.cellA rfl en rfl rfl)) [] (by decide) rfl rfl rfl ⟨rfl,rfl,rfl,rfl,rfl,rfl,rfl,rfl,rfl,trivial⟩⟩
noncomputable def bB (k:Nat)(a0:am)(a1:Int)(v0_0:Int)(v:Int):Option (Bool⊕Unit):=match k,v with
  | 0,_=>none
  | k+1,v1_0=>(if (0:Int)≤v0_0∧v0_0 < (a0.levels.length:Int) then (if (decide (v1_0 < (((nth a0.levels v0_0).productions).length:Int)))=true then (if (0:Int)≤v0_0∧v0_0 < (a0.levels.length:Int) then (if (0:Int)≤v1_0∧v1_0 < (((nth a0.levels v0_0).productions).length:Int) then (if (decide ((nth ((nth a0.levels v0_0).productions) v1_0)=a1))=true then some (.inl true) else (bB k a0 a1 v0_0 (IntKind.wrap .i64 (v1_0+1)))) else none) else none) else some (.inr ())) else none)
theorem dk:type_of% (@bB.eq_2):=@bB.eq_2
noncomputable def bO (k:Nat)(a0:am)(a1:Int)(v:Int):Option (Bool⊕Unit):=match k,v with
  | 0,_=>none
  | k+1,v0_0=>(if (decide (v0_0 < (a0.levels.length:Int)))=true then (((bB k a0 a1 v0_0 0):Option (Bool⊕Unit)).bind fun o9=>match o9 with | .inl r7=>(some (.inl r7)) | .inr x8=>(bO k a0 a1 (IntKind.wrap .i64 (v0_0+1)))) else some (.inr ()))
theorem dh:type_of% (@bO.eq_2):=@bO.eq_2
noncomputable def cO (k:Nat)(a0:am)(a1:Int):Option Bool:=(((bO k a0 a1 0):Option (Bool⊕Unit)).bind fun o12=>match o12 with | .inl r10=>(some r10) | .inr x11=>(some false))
set_option maxRecDepth 100000 in
set_option maxHeartbeats 4000000 in
theorem j5 (k:Nat)(a0:am)(a1:Int)(r:Bool)(h:cO k a0 a1=some r):SC P 116 [.agg (ah a0),di a1] [] (db r) []:=by
 unfold cO at h
 refine SC.intro3 (N:=36) Tryz.func116 rfl rfl Tryz.ntmps116 rfl ?_
 refine aa.sr (ab.evn (h':=[.live (.var (ah a0))]) [0,0] [(2,.ptr 0 0)] [] ?_)
 refine aa.seq ?_
 refine aa.sr (ab.ev0n [0] [(5,di 0)] [] ?_)
 refine aa.block ?_
 refine ao h fun o12 ho12 h=>?_
 refine aa.cut (Q':=fun e s'=>match o12 with | .inl r10=>((e = .ret)∧Fin P (Tryz.f116.results) 0 [] (db r10) s') | .inr x11=>(e = .exit 0∧s'=⟨[],[]⟩)) ?_ ?_
 ·
  have h:=ho12
  refine aa.ghost (GStep.keep [1,2,5]) ?_
  refine aa.loopI (F:=fun k v=>bO k a0 a1 v) (fun v=>⟨[(1,di a1),(2,.ptr 0 0),(5,di v)],[.live (.var (ah a0))]⟩) (k:=k) (v:=0) h rfl (fun _=>rfl) ?_
  intro k v0_0 ih h
  have h:=(dh ..).symm.trans h
  refine aa.seq ?_
  refine aa.sr (ab.ev0n [0,0,0,0,0] [(11,db (decide (v0_0 < (a0.levels.length:Int))))] [] ?_)
  refine aa.condI h rfl (fun hc1 h=>?_) (fun hc1 h=>?_)
  ·
   refine aa.skip ?_
   refine aa.seq ?_
   refine aa.block ?_
   refine aa.sr (ab.ev0n [0] [(6,di 0)] [] ?_)
   refine aa.block ?_
   refine ao h fun o9 ho9 h=>?_
   refine aa.cut (Q':=fun e s'=>match o9 with | .inl r7=>((e = .ret)∧Fin P (Tryz.f116.results) 0 [] (db r7) s') | .inr x8=>(e = .exit 2∧s'=⟨[(1,di a1),(2,.ptr 0 0),(5,di v0_0)],[.live (.var (ah a0))]⟩)) ?_ ?_
   ·
    have h:=ho9
    refine aa.ghost (GStep.keep [1,2,5,6]) ?_
    refine aa.loopI (F:=fun k v=>bB k a0 a1 v0_0 v) (fun v=>⟨[(1,di a1),(2,.ptr 0 0),(5,di v0_0),(6,di v)],[.live (.var (ah a0))]⟩) (k:=k) (v:=0) h rfl (fun _=>rfl) ?_
    intro k v1_0 ih h
    have h:=(dk ..).symm.trans h
    refine aa.seq ?_
    refine aa.seq ?_
    refine aD h fun hb2 h=>?_
    refine aa.region (ab.ev0n [0,0,0,0,0,0,0,0,0] [(22,db (decide (v1_0 < (((nth a0.levels v0_0).productions).length:Int))))] [⟨_,hb2.1⟩,⟨_,hb2.2⟩] ?_)
    refine aa.condI h rfl (fun hc3 h=>?_) (fun hc3 h=>?_)
    ·
     refine aa.skip ?_
     refine aa.seq ?_
     refine aa.block ?_
     refine aa.seq ?_
     refine aD h fun hb4 h=>?_
     refine aD h fun hb5 h=>?_
     refine aa.region (ab.ev0n [0,0,0,0,0,0,0,0,0,0,0] [(35,db (decide ((nth ((nth a0.levels v0_0).productions) v1_0)=a1)))] [⟨_,hb4.1⟩,⟨_,hb4.2⟩,⟨_,hb5.1⟩,⟨_,hb5.2⟩] ?_)
     refine aa.condI h rfl (fun hc6 h=>?_) (fun hc6 h=>?_)
     ·
      refine aa.sr (ab.ev0n [0] [(4,db true)] [] ?_)
      refine aa.ret ?_
      cases h
      exact ⟨_,(GStep.trans (GStep.keep [4]) (GStep.ren [] (by decide) rfl rfl)),rfl,Fin.mk2 (aB.one (.tmp rfl)) [] (by decide) rfl rfl rfl rfl⟩
     refine aa.skip ?_
     refine aa.region (ab.ev0n [0,0,0] [(6,di (IntKind.wrap .i64 (v1_0+1)))] [] ?_)
     exact aM.ghost (GStep.keep [1,2,5,6]) (ih (IntKind.wrap .i64 (v1_0+1)) h)
    refine aa.exit ?_
    cases h
    exact ⟨_,(GStep.keep [1,2,5]),rfl,rfl⟩
   rcases o9 with r7 | x8
   ·
    rintro e s' hq
    obtain ⟨rfl,hq⟩:=hq
    cases h
    exact ⟨_,GStep.refl _ _,rfl,hq⟩
   rintro e s' hq
   obtain ⟨rfl,rfl⟩:=hq
   refine aa.region (ab.ev0n [0,0,0] [(5,di (IntKind.wrap .i64 (v0_0+1)))] [] ?_)
   exact aM.ghost (GStep.keep [1,2,5]) (ih (IntKind.wrap .i64 (v0_0+1)) h)
  refine aa.exit ?_
  cases h
  exact ⟨_,(GStep.trans (GStep.keep []) (GStep.ren [] (by decide) rfl rfl)),rfl,rfl⟩
 rcases o12 with r10 | x11
 ·
  rintro e s' hq
  obtain ⟨rfl,hq⟩:=hq
  cases h
  exact ⟨_,GStep.refl _ _,.inr rfl,hq⟩
 rintro e s' hq
 obtain ⟨rfl,rfl⟩:=hq
 refine aa.sr (ab.ev0n [0] [(4,db false)] [] ?_)
 refine aa.ret ?_
 cases h
 exact ⟨_,(GStep.keep [4]),.inr rfl,Fin.mk2 (aB.one (.tmp rfl)) [] (by decide) rfl rfl rfl rfl⟩
noncomputable def dS (k:Nat)(a0:ap)(a1:Int)(x9:Bool×ai)(v:Int):Option (Bool⊕Unit):=match k,v with
  | 0,_=>none
  | k+1,v0_0=>(if (decide (v0_0 < a1))=true then (if (0:Int)≤v0_0∧v0_0 < (a0.nodes.length:Int) then (if ((decide ((nth a0.nodes v0_0).var=x9.2.var))&&((decide ((nth a0.nodes v0_0).low=x9.2.low))&&(decide ((nth a0.nodes v0_0).high=x9.2.high))))=true then some (.inl false) else (dS k a0 a1 x9 (IntKind.wrap .i64 (v0_0+1)))) else none) else some (.inr ()))
theorem kl:type_of% (@dS.eq_2):=@dS.eq_2
noncomputable def j0 (k:Nat)(a0:ap)(a1:Int):Option Bool:=(if (0:Int)≤a1∧a1 < (a0.nodes.length:Int) then (((if (decide ((nth a0.nodes a1).var < 0))=true then some (true,(nth a0.nodes a1)) else (if (decide ((nth a0.nodes a1).var > 63))=true then some (true,(nth a0.nodes a1)) else (if (decide ((nth a0.nodes a1).low < 0))=true then some (true,(nth a0.nodes a1)) else (if (decide ((nth a0.nodes a1).high < 0))=true then some (true,(nth a0.nodes a1)) else (if (decide ((nth a0.nodes a1).low≥(IntKind.wrap .i64 (a1+2))))=true then some (true,(nth a0.nodes a1)) else (if (decide ((nth a0.nodes a1).high≥(IntKind.wrap .i64 (a1+2))))=true then some (true,(nth a0.nodes a1)) else some ((decide ((nth a0.nodes a1).low=(nth a0.nodes a1).high)),(nth a0.nodes a1)))))))):Option (Bool×ai)).bind fun x9=>(if x9.1=true then some false else ((((dO a0 x9.2.low).bind fun y11=>(if (decide (y11≤x9.2.var))=true then some true else ((dO a0 x9.2.high).bind fun y14=>some (decide (y14≤x9.2.var))))):Option Bool).bind fun x17=>(if x17=true then some false else (((dS k a0 a1 x9 0):Option (Bool⊕Unit)).bind fun o25=>match o25 with | .inl r23=>(some r23) | .inr x24=>(some true)))))) else none)
set_option maxRecDepth 100000 in
set_option maxHeartbeats 4000000 in
theorem pW (k:Nat)(a0:ap)(a1:Int)(r:Bool)(h:j0 k a0 a1=some r):SC P 241 [.agg (an a0),di a1] [] (db r) []:=by
 unfold j0 at h
 refine SC.intro3 (N:=79) Tryz.func241 rfl rfl Tryz.ntmps241 rfl ?_
 refine aa.sr (ab.evn (h':=[.live (.var (an a0))]) [0,0] [(2,.ptr 0 0)] [] ?_)
 refine aa.seq ?_
 refine aD h fun hb1 h=>?_
 refine aa.region (ab.evn (h':=[.live (.var (an a0)),.live (.var (aK (nth a0.nodes a1)))]) [0,0,0,0,0,0,0] [(5,.ptr 1 0)] [⟨_,hb1.1⟩,⟨_,hb1.2⟩] ?_)
 refine aa.seq ?_
 refine aa.seq ?_
 refine ao h fun x9 ho8 h=>?_
 refine aa.cut (Q':=fun e s'=>e = .normal∧s'=⟨[(1,di a1),(2,.ptr 0 0),(5,.ptr 1 0),(50,db x9.1)],[.live (.var (an a0)),.live (.var (aK x9.2))]⟩) ?_ ?_
 ·
  have h:=ho8
  refine au h (fun hc2 h=>?_) (fun hc2 h=>?_)
  ·
   refine aa.region (ab.ev0n [0,0,0,0,2,0,0,0,0,0,0,0,0,0,0,0,0,0,0,0,0,0,0,0,0,0,0,0,0,0,0,0,0,0,0,0,0,0,0] [(50,db true)] [⟨_,hc2⟩] ?_)
   cases h
   exact ⟨_,(GStep.keep [1,2,5,50]),rfl,rfl⟩
  refine au h (fun hc3 h=>?_) (fun hc3 h=>?_)
  ·
   refine aa.region (ab.ev0n [0,0,0,0,1,0,0,0,0,2,0,0,0,0,0,0,0,0,0,0,0,0,0,0,0,0,0,0,0,0,0,0,0,0,0,0,0,0,0] [(50,db true)] [⟨_,hc2⟩,⟨_,hc3⟩] ?_)
   cases h
   exact ⟨_,(GStep.keep [1,2,5,50]),rfl,rfl⟩
  refine au h (fun hc4 h=>?_) (fun hc4 h=>?_)
  ·
   refine aa.region (ab.ev0n [0,0,0,0,1,0,0,0,0,1,0,0,0,0,2,0,0,0,0,0,0,0,0,0,0,0,0,0,0,0,0,0,0,0,0,0,0,0,0] [(50,db true)] [⟨_,hc2⟩,⟨_,hc3⟩,⟨_,hc4⟩] ?_)
   cases h
   exact ⟨_,(GStep.keep [1,2,5,50]),rfl,rfl⟩
  refine au h (fun hc5 h=>?_) (fun hc5 h=>?_)
  ·
   refine aa.region (ab.ev0n [0,0,0,0,1,0,0,0,0,1,0,0,0,0,1,0,0,0,0,2,0,0,0,0,0,0,0,0,0,0,0,0,0,0,0,0,0,0,0] [(50,db true)] [⟨_,hc2⟩,⟨_,hc3⟩,⟨_,hc4⟩,⟨_,hc5⟩] ?_)
   cases h
   exact ⟨_,(GStep.keep [1,2,5,50]),rfl,rfl⟩
  refine au h (fun hc6 h=>?_) (fun hc6 h=>?_)
  ·
   refine aa.region (ab.ev0n [0,0,0,0,1,0,0,0,0,1,0,0,0,0,1,0,0,0,0,1,0,0,0,0,0,0,2,0,0,0,0,0,0,0,0,0,0,0,0] [(50,db true)] [⟨_,hc2⟩,⟨_,hc3⟩,⟨_,hc4⟩,⟨_,hc5⟩,⟨_,hc6⟩] ?_)
   cases h
   exact ⟨_,(GStep.keep [1,2,5,50]),rfl,rfl⟩
  refine au h (fun hc7 h=>?_) (fun hc7 h=>?_)
  ·
   refine aa.region (ab.ev0n [0,0,0,0,1,0,0,0,0,1,0,0,0,0,1,0,0,0,0,1,0,0,0,0,0,0,1,0,0,0,0,0,0,2,0,0,0,0,0] [(50,db true)] [⟨_,hc2⟩,⟨_,hc3⟩,⟨_,hc4⟩,⟨_,hc5⟩,⟨_,hc6⟩,⟨_,hc7⟩] ?_)
   cases h
   exact ⟨_,(GStep.keep [1,2,5,50]),rfl,rfl⟩
  refine aa.region (ab.ev0n [0,0,0,0,1,0,0,0,0,1,0,0,0,0,1,0,0,0,0,1,0,0,0,0,0,0,1,0,0,0,0,0,0,1,0,0,0,0,0] [(50,db (decide ((nth a0.nodes a1).low=(nth a0.nodes a1).high)))] [⟨_,hc2⟩,⟨_,hc3⟩,⟨_,hc4⟩,⟨_,hc5⟩,⟨_,hc6⟩,⟨_,hc7⟩] ?_)
  cases h
  exact ⟨_,(GStep.keep [1,2,5,50]),rfl,rfl⟩
 rintro e s' hq
 obtain ⟨rfl,rfl⟩:=hq
 refine aa.condI h rfl (fun hc10 h=>?_) (fun hc10 h=>?_)
 ·
  refine aa.sr (ab.ev0n [0] [(4,db false)] [] ?_)
  refine aa.ret ?_
  cases h
  exact ⟨_,(GStep.trans (GStep.keep [4]) (GStep.ren [] (by decide) rfl rfl)),.inr rfl,Fin.mk2 (aB.one (.tmp rfl)) [] (by decide) rfl rfl rfl rfl⟩
 refine aa.skip ?_
 refine aa.seq ?_
 refine aa.seq ?_
 refine ao h fun x17 ho16 h=>?_
 refine aa.cut (Q':=fun e s'=>e = .normal∧s'=⟨[(1,di a1),(2,.ptr 0 0),(5,.ptr 1 0),(66,db x17)],[.live (.var (an a0)),.live (.var (aK x9.2))]⟩) ?_ ?_
 ·
  have h:=ho16
  refine ao h fun y11 hy11 h=>?_
  refine au h (fun hc12 h=>?_) (fun hc12 h=>?_)
  ·
   refine aa.regionAny mixed (s':=?s13) (qs:=[⟨[2],[0],[],[],[]⟩,⟨[5],[],[],[1],[]⟩,⟨[52],[1],[],[],[]⟩,⟨[51,53],[],[],[],[]⟩,⟨[5],[],[],[1],[]⟩,⟨[55],[1],[],[],[]⟩,⟨[54,56],[],[],[],[]⟩,⟨[57],[],[],[],[]⟩,⟨[2,58],[],[],[],[]⟩,⟨[5,58],[],[],[],[]⟩,⟨[58,60],[],[],[],[]⟩,⟨[58,59,61],[],[],[],[]⟩,⟨[5,58],[],[],[],[]⟩,⟨[58,63],[],[],[],[]⟩,⟨[58,62,64],[],[],[],[]⟩,⟨[58,65],[],[],[],[]⟩]) ?_ (by kernel_rfl) ?_
   rotate_left
   ·
    refine Steps.runQ [2] [0] [] (ae.loadA rfl rfl bq rfl rfl) rfl (by kernel_rfl) (by kernel_rfl) ?_
    refine Steps.runQ [5] [] [1] (v:=.ptr 1 1) (ae.fieldAddr (id:=1) (off:=0) (fo:=1) rfl rfl dn rfl rfl) rfl (by kernel_rfl) (by kernel_rfl) ?_
    refine Steps.runQ [52] [1] [] (v:=di x9.2.low) (ae.load rfl rfl aX rfl rfl) rfl (by kernel_rfl) (by kernel_rfl) ?_
    refine Steps.runQ [51,53] [] [] (v:=di y11) (ae.callS [] (cT a0 x9.2.low _ hy11) rfl rfl ⟨⟨rfl,rfl,trivial⟩,rfl,trivial⟩ (by decide) rfl rfl trivial) rfl (by kernel_rfl) (by kernel_rfl) ?_
    refine Steps.runQ [5] [] [1] (v:=.ptr 1 0) (ae.fieldAddr (id:=1) (off:=0) (fo:=0) rfl rfl dn rfl rfl) rfl (by kernel_rfl) (by kernel_rfl) ?_
    refine Steps.runQ [55] [1] [] (v:=di x9.2.var) (ae.load rfl rfl aX rfl rfl) rfl (by kernel_rfl) (by kernel_rfl) ?_
    refine Steps.runQ [54,56] [] [] (v:=db (decide (y11≤x9.2.var))) (ae.leqI (k:=.i64) (m:=y11) (n:=x9.2.var) rfl rfl rfl) rfl (by kernel_rfl) (by kernel_rfl) ?_
    refine Steps.runQ [57] [] [] (v:=db (decide (y11≤x9.2.var))) (ae.move rfl rfl) rfl (by kernel_rfl) (by kernel_rfl) ?_
    refine Steps.gpass [2,58] rfl rfl rfl hc12 rfl rfl ?_
    refine Steps.gpass [5,58] rfl rfl rfl hc12 rfl rfl ?_
    refine Steps.gpass [58,60] rfl rfl rfl hc12 rfl rfl ?_
    refine Steps.gpass [58,59,61] rfl rfl rfl hc12 rfl rfl ?_
    refine Steps.gpass [5,58] rfl rfl rfl hc12 rfl rfl ?_
    refine Steps.gpass [58,63] rfl rfl rfl hc12 rfl rfl ?_
    refine Steps.gpass [58,62,64] rfl rfl rfl hc12 rfl rfl ?_
    refine Steps.runQ [58,65] [] [] (v:=db true) (ae.pickT rfl rfl hc12 rfl) rfl (by kernel_rfl) (by kernel_rfl) ?_
    exact Steps.nil _
   cases h
   exact ⟨_,(GStep.keep [1,2,5,66]),rfl,rfl⟩
  refine ao h fun y14 hy14 h=>?_
  refine aa.regionAny mixed (s':=?s15) (qs:=[⟨[2],[0],[],[],[]⟩,⟨[5],[],[],[1],[]⟩,⟨[52],[1],[],[],[]⟩,⟨[51,53],[],[],[],[]⟩,⟨[5],[],[],[1],[]⟩,⟨[55],[1],[],[],[]⟩,⟨[54,56],[],[],[],[]⟩,⟨[57],[],[],[],[]⟩,⟨[2,58],[0],[],[],[]⟩,⟨[5,58],[],[],[1],[]⟩,⟨[58,60],[1],[],[],[]⟩,⟨[58,59,61],[],[],[],[]⟩,⟨[5,58],[],[],[1],[]⟩,⟨[58,63],[1],[],[],[]⟩,⟨[58,62,64],[],[],[],[]⟩,⟨[58,65],[],[],[],[]⟩]) ?_ (by kernel_rfl) ?_
  rotate_left
  ·
   refine Steps.runQ [2] [0] [] (ae.loadA rfl rfl bq rfl rfl) rfl (by kernel_rfl) (by kernel_rfl) ?_
   refine Steps.runQ [5] [] [1] (v:=.ptr 1 1) (ae.fieldAddr (id:=1) (off:=0) (fo:=1) rfl rfl dn rfl rfl) rfl (by kernel_rfl) (by kernel_rfl) ?_
   refine Steps.runQ [52] [1] [] (v:=di x9.2.low) (ae.load rfl rfl aX rfl rfl) rfl (by kernel_rfl) (by kernel_rfl) ?_
   refine Steps.runQ [51,53] [] [] (v:=di y11) (ae.callS [] (cT a0 x9.2.low _ hy11) rfl rfl ⟨⟨rfl,rfl,trivial⟩,rfl,trivial⟩ (by decide) rfl rfl trivial) rfl (by kernel_rfl) (by kernel_rfl) ?_
   refine Steps.runQ [5] [] [1] (v:=.ptr 1 0) (ae.fieldAddr (id:=1) (off:=0) (fo:=0) rfl rfl dn rfl rfl) rfl (by kernel_rfl) (by kernel_rfl) ?_
   refine Steps.runQ [55] [1] [] (v:=di x9.2.var) (ae.load rfl rfl aX rfl rfl) rfl (by kernel_rfl) (by kernel_rfl) ?_
   refine Steps.runQ [54,56] [] [] (v:=db (decide (y11≤x9.2.var))) (ae.leqI (k:=.i64) (m:=y11) (n:=x9.2.var) rfl rfl rfl) rfl (by kernel_rfl) (by kernel_rfl) ?_
   refine Steps.runQ [57] [] [] (v:=db (decide (y11≤x9.2.var))) (ae.move rfl rfl) rfl (by kernel_rfl) (by kernel_rfl) ?_
   refine Steps.grunQ [2,58] [0] [] (ae.loadA rfl rfl bq rfl rfl) rfl rfl rfl hc12 (by kernel_rfl) (by kernel_rfl) (by kernel_rfl) ?_
   refine Steps.grunQ [5,58] [] [1] (v:=.ptr 1 2) (ae.fieldAddr (id:=1) (off:=0) (fo:=2) rfl rfl dn rfl rfl) rfl rfl rfl hc12 (by kernel_rfl) (by kernel_rfl) (by kernel_rfl) ?_
   refine Steps.grunQ [58,60] [1] [] (v:=di x9.2.high) (ae.load rfl rfl aX rfl rfl) rfl rfl rfl hc12 (by kernel_rfl) (by kernel_rfl) (by kernel_rfl) ?_
   refine Steps.grunQ [58,59,61] [] [] (v:=di y14) (ae.callS [] (cT a0 x9.2.high _ hy14) rfl rfl ⟨⟨rfl,rfl,trivial⟩,rfl,trivial⟩ (by decide) rfl rfl trivial) rfl rfl rfl hc12 (by kernel_rfl) (by kernel_rfl) (by kernel_rfl) ?_
   refine Steps.grunQ [5,58] [] [1] (v:=.ptr 1 0) (ae.fieldAddr (id:=1) (off:=0) (fo:=0) rfl rfl dn rfl rfl) rfl rfl rfl hc12 (by kernel_rfl) (by kernel_rfl) (by kernel_rfl) ?_
   refine Steps.grunQ [58,63] [1] [] (v:=di x9.2.var) (ae.load rfl rfl aX rfl rfl) rfl rfl rfl hc12 (by kernel_rfl) (by kernel_rfl) (by kernel_rfl) ?_
   refine Steps.grunQ [58,62,64] [] [] (v:=db (decide (y14≤x9.2.var))) (ae.leqI (k:=.i64) (m:=y14) (n:=x9.2.var) rfl rfl rfl) rfl rfl rfl hc12 (by kernel_rfl) (by kernel_rfl) (by kernel_rfl) ?_
   refine Steps.runQ [58,65] [] [] (v:=db (decide (y14≤x9.2.var))) (ae.pickF rfl rfl hc12 rfl) rfl (by kernel_rfl) (by kernel_rfl) ?_
   exact Steps.nil _
  cases h
  exact ⟨_,(GStep.keep [1,2,5,66]),rfl,rfl⟩
 rintro e s' hq
 obtain ⟨rfl,rfl⟩:=hq
 refine aa.condI h rfl (fun hc18 h=>?_) (fun hc18 h=>?_)
 ·
  refine aa.sr (ab.ev0n [0] [(4,db false)] [] ?_)
  refine aa.ret ?_
  cases h
  exact ⟨_,(GStep.trans (GStep.keep [4]) (GStep.ren [] (by decide) rfl rfl)),.inr rfl,Fin.mk2 (aB.one (.tmp rfl)) [] (by decide) rfl rfl rfl rfl⟩
 refine aa.skip ?_
 refine aa.seq ?_
 refine aa.sr (ab.ev0n [0] [(6,di 0)] [] ?_)
 refine aa.block ?_
 refine ao h fun o25 ho25 h=>?_
 refine aa.cut (Q':=fun e s'=>match o25 with | .inl r23=>((e = .ret)∧Fin P (Tryz.f241.results) 0 [] (db r23) s') | .inr x24=>(e = .exit 0∧s'=⟨[],[]⟩)) ?_ ?_
 ·
  have h:=ho25
  refine aa.ghost (GStep.keep [1,2,5,6]) ?_
  refine aa.loopI (F:=fun k v=>dS k a0 a1 x9 v) (fun v=>⟨[(1,di a1),(2,.ptr 0 0),(5,.ptr 1 0),(6,di v)],[.live (.var (an a0)),.live (.var (aK x9.2))]⟩) (k:=k) (v:=0) h rfl (fun _=>rfl) ?_
  intro k v0_0 ih h
  have h:=(kl ..).symm.trans h
  refine aa.seq ?_
  refine aa.sr (ab.ev0n [0,0,0] [(69,db (decide (v0_0 < a1)))] [] ?_)
  refine aa.condI h rfl (fun hc19 h=>?_) (fun hc19 h=>?_)
  ·
   refine aa.skip ?_
   refine aa.seq ?_
   refine aa.block ?_
   refine aa.seq ?_
   refine aD h fun hb20 h=>?_
   refine aa.regionAny mixed (s':=?s22) (qs:=[⟨[2],[],[],[0],[]⟩,⟨[72],[0],[],[],[]⟩,⟨[6],[],[],[],[]⟩,⟨[73,74],[],[],[],[]⟩,⟨[75],[],[],[],[]⟩,⟨[5],[1],[],[],[]⟩,⟨[76,77],[],[],[],[]⟩]) ?_ (by kernel_rfl) ?_
   rotate_left
   ·
    refine Steps.runQ [2] [] [0] (v:=.ptr 0 0) (ae.fieldAddr (id:=0) (off:=0) (fo:=0) rfl rfl mg rfl rfl) rfl (by kernel_rfl) (by kernel_rfl) ?_
    refine Steps.runQ [72] [0] [] (v:=.d (af 3 ag a0.nodes)) (ae.load rfl rfl gN rfl rfl) rfl (by kernel_rfl) (by kernel_rfl) ?_
    refine Steps.runQ [6] [] [] (v:=di v0_0) (ae.move rfl rfl) rfl (by kernel_rfl) (by kernel_rfl) ?_
    refine Steps.runQ [73,74] [] [] (ae.index rfl rfl rfl dP hb20.1 hb20.2) rfl (by kernel_rfl) (by kernel_rfl) ?_
    refine Steps.runQ [75] [] [] (ae.loadVA rfl rfl jh rfl) rfl (by kernel_rfl) (by kernel_rfl) ?_
    refine Steps.runQ [5] [1] [] (ae.loadA rfl rfl jh rfl rfl) rfl (by kernel_rfl) (by kernel_rfl) ?_
    refine Steps.runQ [76,77] [] [] (v:=db ((decide ((nth a0.nodes v0_0).var=x9.2.var))&&((decide ((nth a0.nodes v0_0).low=x9.2.low))&&(decide ((nth a0.nodes v0_0).high=x9.2.high))))) (ae.eqlA [.int .i64 ((nth a0.nodes v0_0).var),.int .i64 ((nth a0.nodes v0_0).low),.int .i64 ((nth a0.nodes v0_0).high)] [.int .i64 x9.2.var,.int .i64 x9.2.low,.int .i64 x9.2.high] rfl rfl rfl pt rfl rfl) rfl (by kernel_rfl) (by kernel_rfl) ?_
    exact Steps.nil _
   refine aa.condI h rfl (fun hc21 h=>?_) (fun hc21 h=>?_)
   ·
    refine aa.sr (ab.ev0n [0] [(4,db false)] [] ?_)
    refine aa.ret ?_
    cases h
    exact ⟨_,(GStep.trans (GStep.keep [4]) (GStep.ren [] (by decide) rfl rfl)),rfl,Fin.mk2 (aB.one (.tmp rfl)) [] (by decide) rfl rfl rfl rfl⟩
   refine aa.skip ?_
   refine aa.region (ab.ev0n [0,0,0] [(6,di (IntKind.wrap .i64 (v0_0+1)))] [] ?_)
   exact aM.ghost (GStep.keep [1,2,5,6]) (ih (IntKind.wrap .i64 (v0_0+1)) h)
  refine aa.exit ?_
  cases h
  exact ⟨_,(GStep.trans (GStep.keep []) (GStep.ren [] (by decide) rfl rfl)),rfl,rfl⟩
 rcases o25 with r23 | x24
 ·
  rintro e s' hq
  obtain ⟨rfl,hq⟩:=hq
  cases h
  exact ⟨_,GStep.refl _ _,.inr rfl,hq⟩
 rintro e s' hq
 obtain ⟨rfl,rfl⟩:=hq
 refine aa.sr (ab.ev0n [0] [(4,db true)] [] ?_)
 refine aa.ret ?_
 cases h
 exact ⟨_,(GStep.keep [4]),.inr rfl,Fin.mk2 (aB.one (.tmp rfl)) [] (by decide) rfl rfl rfl rfl⟩
noncomputable def ey (k:Nat)(a0:ap)(a1:ap)(v:Int):Option (Bool⊕Unit):=match k,v with
  | 0,_=>none
  | k+1,v0_0=>(if (decide (v0_0 < (a0.nodes.length:Int)))=true then (if (0:Int)≤v0_0∧v0_0 < (a0.nodes.length:Int) then (if (0:Int)≤v0_0∧v0_0 < (a1.nodes.length:Int) then (if (!((decide ((nth a0.nodes v0_0).var=(nth a1.nodes v0_0).var))&&((decide ((nth a0.nodes v0_0).low=(nth a1.nodes v0_0).low))&&(decide ((nth a0.nodes v0_0).high=(nth a1.nodes v0_0).high)))))=true then some (.inl false) else (ey k a0 a1 (IntKind.wrap .i64 (v0_0+1)))) else none) else none) else some (.inr ()))
theorem lr:type_of% (@ey.eq_2):=@ey.eq_2
noncomputable def l4 (k:Nat)(a0:ap)(a1:ap):Option Bool:=(((if (!decide (a0.root=a1.root))=true then some true else some (!decide ((a0.nodes.length:Int)=(a1.nodes.length:Int)))):Option Bool).bind fun x3=>(if x3=true then some false else (((ey k a0 a1 0):Option (Bool⊕Unit)).bind fun o12=>match o12 with | .inl r10=>(some r10) | .inr x11=>(some true))))
set_option maxRecDepth 100000 in
set_option maxHeartbeats 4000000 in
theorem rP (k:Nat)(a0:ap)(a1:ap)(r:Bool)(h:l4 k a0 a1=some r):SC P 242 [.agg (an a0),.agg (an a1)] [] (db r) []:=by
 unfold l4 at h
 refine SC.intro3 (N:=38) Tryz.func242 rfl rfl Tryz.ntmps242 rfl ?_
 refine aa.sr (ab.evn (h':=[.live (.var (an a0)),.live (.var (an a1))]) [0,0,0] [(2,.ptr 0 0),(3,.ptr 1 0)] [] ?_)
 refine aa.seq ?_
 refine aa.seq ?_
 refine ao h fun x3 ho2 h=>?_
 refine aa.cut (Q':=fun e s'=>e = .normal∧s'=⟨[(2,.ptr 0 0),(3,.ptr 1 0),(19,db x3)],[.live (.var (an a0)),.live (.var (an a1))]⟩) ?_ ?_
 ·
  have h:=ho2
  refine au h (fun hc1 h=>?_) (fun hc1 h=>?_)
  ·
   refine aa.region (ab.ev0n [0,0,0,0,0,0,2,0,0,0,0,0,0,0] [(19,db true)] [⟨_,hc1⟩] ?_)
   cases h
   exact ⟨_,(GStep.keep [2,3,19]),rfl,rfl⟩
  refine aa.region (ab.ev0n [0,0,0,0,0,0,1,0,0,0,0,0,0,0] [(19,db (!decide ((a0.nodes.length:Int)=(a1.nodes.length:Int))))] [⟨_,hc1⟩] ?_)
  cases h
  exact ⟨_,(GStep.keep [2,3,19]),rfl,rfl⟩
 rintro e s' hq
 obtain ⟨rfl,rfl⟩:=hq
 refine aa.condI h rfl (fun hc4 h=>?_) (fun hc4 h=>?_)
 ·
  refine aa.sr (ab.ev0n [0] [(4,db false)] [] ?_)
  refine aa.ret ?_
  cases h
  exact ⟨_,(GStep.trans (GStep.keep [4]) (GStep.ren [] (by decide) rfl rfl)),.inr rfl,Fin.mk2 (aB.one (.tmp rfl)) [] (by decide) rfl rfl rfl rfl⟩
 refine aa.skip ?_
 refine aa.seq ?_
 refine aa.sr (ab.ev0n [0] [(5,di 0)] [] ?_)
 refine aa.block ?_
 refine ao h fun o12 ho12 h=>?_
 refine aa.cut (Q':=fun e s'=>match o12 with | .inl r10=>((e = .ret)∧Fin P (Tryz.f242.results) 0 [] (db r10) s') | .inr x11=>(e = .exit 0∧s'=⟨[],[]⟩)) ?_ ?_
 ·
  have h:=ho12
  refine aa.ghost (GStep.keep [2,3,5]) ?_
  refine aa.loopI (F:=fun k v=>ey k a0 a1 v) (fun v=>⟨[(2,.ptr 0 0),(3,.ptr 1 0),(5,di v)],[.live (.var (an a0)),.live (.var (an a1))]⟩) (k:=k) (v:=0) h rfl (fun _=>rfl) ?_
  intro k v0_0 ih h
  have h:=(lr ..).symm.trans h
  refine aa.seq ?_
  refine aa.sr (ab.ev0n [0,0,0,0,0] [(24,db (decide (v0_0 < (a0.nodes.length:Int))))] [] ?_)
  refine aa.condI h rfl (fun hc5 h=>?_) (fun hc5 h=>?_)
  ·
   refine aa.skip ?_
   refine aa.seq ?_
   refine aa.block ?_
   refine aa.seq ?_
   refine aD h fun hb6 h=>?_
   refine aD h fun hb7 h=>?_
   refine aa.regionAny mixed (s':=?s9) (qs:=[⟨[2],[],[],[0],[]⟩,⟨[27],[0],[],[],[]⟩,⟨[5],[],[],[],[]⟩,⟨[28,29],[],[],[],[]⟩,⟨[30],[],[],[],[]⟩,⟨[3],[],[],[1],[]⟩,⟨[32],[1],[],[],[]⟩,⟨[5],[],[],[],[]⟩,⟨[33,34],[],[],[],[]⟩,⟨[35],[],[],[],[]⟩,⟨[31,36],[],[],[],[]⟩]) ?_ (by kernel_rfl) ?_
   rotate_left
   ·
    refine Steps.runQ [2] [] [0] (v:=.ptr 0 0) (ae.fieldAddr (id:=0) (off:=0) (fo:=0) rfl rfl mg rfl rfl) rfl (by kernel_rfl) (by kernel_rfl) ?_
    refine Steps.runQ [27] [0] [] (v:=.d (af 3 ag a0.nodes)) (ae.load rfl rfl gN rfl rfl) rfl (by kernel_rfl) (by kernel_rfl) ?_
    refine Steps.runQ [5] [] [] (v:=di v0_0) (ae.move rfl rfl) rfl (by kernel_rfl) (by kernel_rfl) ?_
    refine Steps.runQ [28,29] [] [] (ae.index rfl rfl rfl dP hb6.1 hb6.2) rfl (by kernel_rfl) (by kernel_rfl) ?_
    refine Steps.runQ [30] [] [] (ae.loadVA rfl rfl jh rfl) rfl (by kernel_rfl) (by kernel_rfl) ?_
    refine Steps.runQ [3] [] [1] (v:=.ptr 1 0) (ae.fieldAddr (id:=1) (off:=0) (fo:=0) rfl rfl mg rfl rfl) rfl (by kernel_rfl) (by kernel_rfl) ?_
    refine Steps.runQ [32] [1] [] (v:=.d (af 3 ag a1.nodes)) (ae.load rfl rfl gN rfl rfl) rfl (by kernel_rfl) (by kernel_rfl) ?_
    refine Steps.runQ [5] [] [] (v:=di v0_0) (ae.move rfl rfl) rfl (by kernel_rfl) (by kernel_rfl) ?_
    refine Steps.runQ [33,34] [] [] (ae.index rfl rfl rfl dP hb7.1 hb7.2) rfl (by kernel_rfl) (by kernel_rfl) ?_
    refine Steps.runQ [35] [] [] (ae.loadVA rfl rfl jh rfl) rfl (by kernel_rfl) (by kernel_rfl) ?_
    refine Steps.runQ [31,36] [] [] (v:=db (!((decide ((nth a0.nodes v0_0).var=(nth a1.nodes v0_0).var))&&((decide ((nth a0.nodes v0_0).low=(nth a1.nodes v0_0).low))&&(decide ((nth a0.nodes v0_0).high=(nth a1.nodes v0_0).high)))))) (ae.neqA [.int .i64 ((nth a0.nodes v0_0).var),.int .i64 ((nth a0.nodes v0_0).low),.int .i64 ((nth a0.nodes v0_0).high)] [.int .i64 ((nth a1.nodes v0_0).var),.int .i64 ((nth a1.nodes v0_0).low),.int .i64 ((nth a1.nodes v0_0).high)] rfl rfl rfl pt rfl rfl) rfl (by kernel_rfl) (by kernel_rfl) ?_
    exact Steps.nil _
   refine aa.condI h rfl (fun hc8 h=>?_) (fun hc8 h=>?_)
   ·
    refine aa.sr (ab.ev0n [0] [(4,db false)] [] ?_)
    refine aa.ret ?_
    cases h
    exact ⟨_,(GStep.trans (GStep.keep [4]) (GStep.ren [] (by decide) rfl rfl)),rfl,Fin.mk2 (aB.one (.tmp rfl)) [] (by decide) rfl rfl rfl rfl⟩
   refine aa.skip ?_
   refine aa.region (ab.ev0n [0,0,0] [(5,di (IntKind.wrap .i64 (v0_0+1)))] [] ?_)
   exact aM.ghost (GStep.keep [2,3,5]) (ih (IntKind.wrap .i64 (v0_0+1)) h)
  refine aa.exit ?_
  cases h
  exact ⟨_,(GStep.trans (GStep.keep []) (GStep.ren [] (by decide) rfl rfl)),rfl,rfl⟩
 rcases o12 with r10 | x11
 ·
  rintro e s' hq
  obtain ⟨rfl,hq⟩:=hq
  cases h
  exact ⟨_,GStep.refl _ _,.inr rfl,hq⟩
 rintro e s' hq
 obtain ⟨rfl,rfl⟩:=hq
 refine aa.sr (ab.ev0n [0] [(4,db true)] [] ?_)
 refine aa.ret ?_
 cases h
 exact ⟨_,(GStep.keep [4]),.inr rfl,Fin.mk2 (aB.one (.tmp rfl)) [] (by decide) rfl rfl rfl rfl⟩
noncomputable def ee (k:Nat)(a0:ap)(v:Int):Option (Bool⊕Unit):=match k,v with
  | 0,_=>none
  | k+1,v0_0=>(if (decide (v0_0 < (a0.nodes.length:Int)))=true then ((j0 k a0 v0_0).bind fun y6=>(if (!y6)=true then some (.inl false) else (ee k a0 (IntKind.wrap .i64 (v0_0+1))))) else some (.inr ()))
theorem k6:type_of% (@ee.eq_2):=@ee.eq_2
noncomputable def k5 (k:Nat)(a0:ap):Option Bool:=(((if (decide (a0.root < 0))=true then some true else some (decide (a0.root≥(IntKind.wrap .i64 ((a0.nodes.length:Int)+2))))):Option Bool).bind fun x3=>(if x3=true then some false else (((ee k a0 0):Option (Bool⊕Unit)).bind fun o13=>match o13 with | .inl r8=>(some r8) | .inr x9=>((gv k a0.nodes a0.root).bind fun y10=>((l4 k a0 y10).bind fun y11=>some y11)))))
set_option maxRecDepth 100000 in
set_option maxHeartbeats 4000000 in
theorem qG (k:Nat)(a0:ap)(r:Bool)(h:k5 k a0=some r):SC P 235 [.agg (an a0)] [] (db r) []:=by
 unfold k5 at h
 refine SC.intro3 (N:=34) Tryz.func235 rfl rfl Tryz.ntmps235 rfl ?_
 refine aa.sr (ab.evn (h':=[.live (.var (an a0))]) [0,0] [(1,.ptr 0 0)] [] ?_)
 refine aa.seq ?_
 refine aa.seq ?_
 refine ao h fun x3 ho2 h=>?_
 refine aa.cut (Q':=fun e s'=>e = .normal∧s'=⟨[(1,.ptr 0 0),(15,db x3)],[.live (.var (an a0))]⟩) ?_ ?_
 ·
  have h:=ho2
  refine au h (fun hc1 h=>?_) (fun hc1 h=>?_)
  ·
   refine aa.region (ab.ev0n [0,0,0,0,2,0,0,0,0,0,0,0] [(15,db true)] [⟨_,hc1⟩] ?_)
   cases h
   exact ⟨_,(GStep.keep [1,15]),rfl,rfl⟩
  refine aa.region (ab.ev0n [0,0,0,0,1,0,0,0,0,0,0,0] [(15,db (decide (a0.root≥(IntKind.wrap .i64 ((a0.nodes.length:Int)+2)))))] [⟨_,hc1⟩] ?_)
  cases h
  exact ⟨_,(GStep.keep [1,15]),rfl,rfl⟩
 rintro e s' hq
 obtain ⟨rfl,rfl⟩:=hq
 refine aa.condI h rfl (fun hc4 h=>?_) (fun hc4 h=>?_)
 ·
  refine aa.sr (ab.ev0n [0] [(2,db false)] [] ?_)
  refine aa.ret ?_
  cases h
  exact ⟨_,(GStep.trans (GStep.keep [2]) (GStep.ren [] (by decide) rfl rfl)),.inr rfl,Fin.mk2 (aB.one (.tmp rfl)) [] (by decide) rfl rfl rfl rfl⟩
 refine aa.skip ?_
 refine aa.seq ?_
 refine aa.sr (ab.ev0n [0] [(3,di 0)] [] ?_)
 refine aa.block ?_
 refine ao h fun o13 ho13 h=>?_
 refine aa.cut (Q':=fun e s'=>match o13 with | .inl r8=>((e = .ret)∧Fin P (Tryz.f235.results) 0 [] (db r8) s') | .inr x9=>(e = .exit 0∧s'=⟨[(1,.ptr 0 0)],[.live (.var (an a0))]⟩)) ?_ ?_
 ·
  have h:=ho13
  refine aa.ghost (GStep.keep [1,3]) ?_
  refine aa.loopI (F:=fun k v=>ee k a0 v) (fun v=>⟨[(1,.ptr 0 0),(3,di v)],[.live (.var (an a0))]⟩) (k:=k) (v:=0) h rfl (fun _=>rfl) ?_
  intro k v0_0 ih h
  have h:=(k6 ..).symm.trans h
  refine aa.seq ?_
  refine aa.sr (ab.ev0n [0,0,0,0,0] [(20,db (decide (v0_0 < (a0.nodes.length:Int))))] [] ?_)
  refine aa.condI h rfl (fun hc5 h=>?_) (fun hc5 h=>?_)
  ·
   refine aa.skip ?_
   refine aa.seq ?_
   refine aa.block ?_
   refine aa.seq ?_
   refine ao h fun y6 hy6 h=>?_
   refine aa.region (ab.ev0 [0,0] [(23,.agg (an a0)),(24,di v0_0)] [] ?_)
   refine ab.step (v:=db y6) (ae.callS [] (pW k a0 v0_0 _ hy6) rfl rfl ⟨⟨rfl,rfl,trivial⟩,rfl,trivial⟩ (by decide) rfl rfl trivial) rfl rfl rfl ?_
   refine ab.ev0n [0] [(26,db (!y6))] [] ?_
   refine aa.condI h rfl (fun hc7 h=>?_) (fun hc7 h=>?_)
   ·
    refine aa.sr (ab.ev0n [0] [(2,db false)] [] ?_)
    refine aa.ret ?_
    cases h
    exact ⟨_,(GStep.trans (GStep.keep [2]) (GStep.ren [] (by decide) rfl rfl)),rfl,Fin.mk2 (aB.one (.tmp rfl)) [] (by decide) rfl rfl rfl rfl⟩
   refine aa.skip ?_
   refine aa.region (ab.ev0n [0,0,0] [(3,di (IntKind.wrap .i64 (v0_0+1)))] [] ?_)
   exact aM.ghost (GStep.keep [1,3]) (ih (IntKind.wrap .i64 (v0_0+1)) h)
  refine aa.exit ?_
  cases h
  exact ⟨_,(GStep.keep [1]),rfl,rfl⟩
 rcases o13 with r8 | x9
 ·
  rintro e s' hq
  obtain ⟨rfl,hq⟩:=hq
  cases h
  exact ⟨_,GStep.refl _ _,.inr rfl,hq⟩
 rintro e s' hq
 obtain ⟨rfl,rfl⟩:=hq
 refine aa.seq ?_
 refine ao h fun y10 hy10 h=>?_
 refine ao h fun y11 hy11 h=>?_
 refine aa.regionAny mixed (s':=?s12) (qs:=[⟨[1],[0],[],[],[]⟩,⟨[1],[],[],[0],[]⟩,⟨[28],[0],[],[],[]⟩,⟨[1],[],[],[0],[]⟩,⟨[30],[0],[],[],[]⟩,⟨[29,31],[],[],[],[]⟩,⟨[27,32],[],[],[],[]⟩,⟨[33],[],[],[],[]⟩]) ?_ (by kernel_rfl) ?_
 rotate_left
 ·
  refine Steps.runQ [1] [0] [] (ae.loadA rfl rfl bq rfl rfl) rfl (by kernel_rfl) (by kernel_rfl) ?_
  refine Steps.runQ [1] [] [0] (v:=.ptr 0 0) (ae.fieldAddr (id:=0) (off:=0) (fo:=0) rfl rfl mg rfl rfl) rfl (by kernel_rfl) (by kernel_rfl) ?_
  refine Steps.runQ [28] [0] [] (v:=.d (af 3 ag a0.nodes)) (ae.load rfl rfl gN rfl rfl) rfl (by kernel_rfl) (by kernel_rfl) ?_
  refine Steps.runQ [1] [] [0] (v:=.ptr 0 1) (ae.fieldAddr (id:=0) (off:=0) (fo:=1) rfl rfl mg rfl rfl) rfl (by kernel_rfl) (by kernel_rfl) ?_
  refine Steps.runQ [30] [0] [] (v:=di a0.root) (ae.load rfl rfl aX rfl rfl) rfl (by kernel_rfl) (by kernel_rfl) ?_
  refine Steps.runQ [29,31] [] [] (v:=.agg (an y10)) (ae.callS [] (jt k a0.nodes a0.root _ hy10) rfl rfl ⟨rfl,rfl,trivial⟩ (by decide) rfl rfl trivial) rfl (by kernel_rfl) (by kernel_rfl) ?_
  refine Steps.runQ [27,32] [] [] (v:=db y11) (ae.callS [] (rP k a0 y10 _ hy11) rfl rfl ⟨⟨rfl,rfl,trivial⟩,⟨rfl,rfl,trivial⟩,trivial⟩ (by decide) rfl rfl trivial) rfl (by kernel_rfl) (by kernel_rfl) ?_
  refine Steps.runQ [33] [] [] (v:=db y11) (ae.assign rfl rfl) rfl (by kernel_rfl) (by kernel_rfl) ?_
  exact Steps.nil _
 refine aa.ret ?_
 cases h
 exact ⟨_,(GStep.trans (GStep.keep [2]) (GStep.ren [] (by decide) rfl rfl)),.inr rfl,Fin.mk2 (aB.one (.tmp rfl)) [] (by decide) rfl rfl rfl rfl⟩
noncomputable def kX (k:Nat)(a0:ap):Option Int:=(if (decide ((a0.nodes.length:Int) > 4096))=true then some 2 else ((k5 k a0).bind fun y2=>(if (!y2)=true then some 20 else some 0)))
set_option maxRecDepth 100000 in
set_option maxHeartbeats 4000000 in
theorem qD (k:Nat)(a0:ap)(r:Int)(h:kX k a0=some r):SC P 216 [.agg (an a0)] [] (di r) []:=by
 unfold kX at h
 refine SC.intro3 (N:=10) Tryz.func216 rfl rfl Tryz.ntmps216 rfl ?_
 refine aa.sr (ab.evn (h':=[.live (.var (an a0))]) [0,0] [(1,.ptr 0 0)] [] ?_)
 refine aa.seq ?_
 refine aa.sr (ab.ev0n [0,0,0,0] [(6,db (decide ((a0.nodes.length:Int) > 4096)))] [] ?_)
 refine aa.condI h rfl (fun hc1 h=>?_) (fun hc1 h=>?_)
 ·
  refine aa.sr (ab.ev0n [0] [(2,di 2)] [] ?_)
  refine aa.ret ?_
  cases h
  exact ⟨_,(GStep.trans (GStep.keep [2]) (GStep.ren [] (by decide) rfl rfl)),.inr rfl,Fin.mk2 (aB.one (.tmp rfl)) [] (by decide) rfl rfl rfl rfl⟩
 refine aa.skip ?_
 refine aa.seq ?_
 refine aa.seq ?_
 refine ao h fun y2 hy2 h=>?_
 refine aa.region (ab.ev0 [0] [(7,.agg (an a0))] [] ?_)
 refine ab.step (v:=db y2) (ae.callS [] (qG k a0 _ hy2) rfl rfl ⟨⟨rfl,rfl,trivial⟩,trivial⟩ (by decide) rfl rfl trivial) rfl rfl rfl ?_
 refine ab.ev0n [0] [(9,db (!y2))] [] ?_
 refine aa.condI h rfl (fun hc3 h=>?_) (fun hc3 h=>?_)
 ·
  refine aa.sr (ab.ev0n [0] [(2,di 20)] [] ?_)
  refine aa.ret ?_
  cases h
  exact ⟨_,(GStep.trans (GStep.keep [2]) (GStep.ren [] (by decide) rfl rfl)),.inr rfl,Fin.mk2 (aB.one (.tmp rfl)) [] (by decide) rfl rfl rfl rfl⟩
 refine aa.skip ?_
 refine aa.sr (ab.ev0n [0] [(2,di 0)] [] ?_)
 refine aa.ret ?_
 cases h
 exact ⟨_,(GStep.trans (GStep.keep [2]) (GStep.ren [] (by decide) rfl rfl)),.inr rfl,Fin.mk2 (aB.one (.tmp rfl)) [] (by decide) rfl rfl rfl rfl⟩
noncomputable def eA (k:Nat)(a0:ap)(a1:Int)(v:Int):Option (Bool⊕Unit):=match k,v with
  | 0,_=>none
  | k+1,v0_0=>(if (decide (v0_0 < (a0.nodes.length:Int)))=true then (if (0:Int)≤v0_0∧v0_0 < (a0.nodes.length:Int) then (if (decide ((nth a0.nodes v0_0).var≥a1))=true then some (.inl false) else (eA k a0 a1 (IntKind.wrap .i64 (v0_0+1)))) else none) else some (.inr ()))
theorem lv:type_of% (@eA.eq_2):=@eA.eq_2
noncomputable def gx (k:Nat)(a0:ap)(a1:Int):Option Bool:=((kX k a0).bind fun y1=>(if (!decide (y1=0))=true then some false else (((eA k a0 a1 0):Option (Bool⊕Unit)).bind fun o8=>match o8 with | .inl r6=>(some r6) | .inr x7=>(some true))))
set_option maxRecDepth 100000 in
set_option maxHeartbeats 4000000 in
theorem mw (k:Nat)(a0:ap)(a1:Int)(r:Bool)(h:gx k a0 a1=some r):SC P 175 [.agg (an a0),di a1] [] (db r) []:=by
 unfold gx at h
 refine SC.intro3 (N:=24) Tryz.func175 rfl rfl Tryz.ntmps175 rfl ?_
 refine aa.sr (ab.evn (h':=[.live (.var (an a0))]) [0,0] [(2,.ptr 0 0)] [] ?_)
 refine aa.seq ?_
 refine aa.seq ?_
 refine ao h fun y1 hy1 h=>?_
 refine aa.region (ab.ev0 [0] [(6,.agg (an a0))] [] ?_)
 refine ab.step (v:=di y1) (ae.callS [] (qD k a0 _ hy1) rfl rfl ⟨⟨rfl,rfl,trivial⟩,trivial⟩ (by decide) rfl rfl trivial) rfl rfl rfl ?_
 refine ab.ev0n [0] [(8,db (!decide (y1=0)))] [] ?_
 refine aa.condI h rfl (fun hc2 h=>?_) (fun hc2 h=>?_)
 ·
  refine aa.sr (ab.ev0n [0] [(4,db false)] [] ?_)
  refine aa.ret ?_
  cases h
  exact ⟨_,(GStep.trans (GStep.keep [4]) (GStep.ren [] (by decide) rfl rfl)),.inr rfl,Fin.mk2 (aB.one (.tmp rfl)) [] (by decide) rfl rfl rfl rfl⟩
 refine aa.skip ?_
 refine aa.seq ?_
 refine aa.sr (ab.ev0n [0] [(5,di 0)] [] ?_)
 refine aa.block ?_
 refine ao h fun o8 ho8 h=>?_
 refine aa.cut (Q':=fun e s'=>match o8 with | .inl r6=>((e = .ret)∧Fin P (Tryz.f175.results) 0 [] (db r6) s') | .inr x7=>(e = .exit 0∧s'=⟨[],[]⟩)) ?_ ?_
 ·
  have h:=ho8
  refine aa.ghost (GStep.keep [1,2,5]) ?_
  refine aa.loopI (F:=fun k v=>eA k a0 a1 v) (fun v=>⟨[(1,di a1),(2,.ptr 0 0),(5,di v)],[.live (.var (an a0))]⟩) (k:=k) (v:=0) h rfl (fun _=>rfl) ?_
  intro k v0_0 ih h
  have h:=(lv ..).symm.trans h
  refine aa.seq ?_
  refine aa.sr (ab.ev0n [0,0,0,0,0] [(13,db (decide (v0_0 < (a0.nodes.length:Int))))] [] ?_)
  refine aa.condI h rfl (fun hc3 h=>?_) (fun hc3 h=>?_)
  ·
   refine aa.skip ?_
   refine aa.seq ?_
   refine aa.block ?_
   refine aa.seq ?_
   refine aD h fun hb4 h=>?_
   refine aa.region (ab.ev0n [0,0,0,0,0,0,0,0] [(23,db (decide ((nth a0.nodes v0_0).var≥a1)))] [⟨_,hb4.1⟩,⟨_,hb4.2⟩] ?_)
   refine aa.condI h rfl (fun hc5 h=>?_) (fun hc5 h=>?_)
   ·
    refine aa.sr (ab.ev0n [0] [(4,db false)] [] ?_)
    refine aa.ret ?_
    cases h
    exact ⟨_,(GStep.trans (GStep.keep [4]) (GStep.ren [] (by decide) rfl rfl)),rfl,Fin.mk2 (aB.one (.tmp rfl)) [] (by decide) rfl rfl rfl rfl⟩
   refine aa.skip ?_
   refine aa.region (ab.ev0n [0,0,0] [(5,di (IntKind.wrap .i64 (v0_0+1)))] [] ?_)
   exact aM.ghost (GStep.keep [1,2,5]) (ih (IntKind.wrap .i64 (v0_0+1)) h)
  refine aa.exit ?_
  cases h
  exact ⟨_,(GStep.trans (GStep.keep []) (GStep.ren [] (by decide) rfl rfl)),rfl,rfl⟩
 rcases o8 with r6 | x7
 ·
  rintro e s' hq
  obtain ⟨rfl,hq⟩:=hq
  cases h
  exact ⟨_,GStep.refl _ _,.inr rfl,hq⟩
 rintro e s' hq
 obtain ⟨rfl,rfl⟩:=hq
 refine aa.sr (ab.ev0n [0] [(4,db true)] [] ?_)
 refine aa.ret ?_
 cases h
 exact ⟨_,(GStep.keep [4]),.inr rfl,Fin.mk2 (aB.one (.tmp rfl)) [] (by decide) rfl rfl rfl rfl⟩
noncomputable def gF (a0:aA):Option Bool:=(((if (decide (a0.kind=1))=true then some true else some (decide (a0.kind=2))):Option Bool).bind fun x3=>(((if (!x3)=true then (if (!decide (a0.parent=0))=true then some true else (if (!decide (a0.atF=0))=true then some true else (if (!decide (a0.child=0))=true then some true else (if x3=true then some (decide ((a0.tokens.length:Int) > 0)) else some false)))) else (if x3=true then some (decide ((a0.tokens.length:Int) > 0)) else some false)):Option Bool).bind fun x11=>(if x11=true then some false else (((if (decide (a0.kind=3))=true then some true else some (decide (a0.kind=4))):Option Bool).bind fun x15=>(((if x15=true then (if (decide (a0.kind=5))=true then some true else some (decide (a0.token=0))) else (if (decide (a0.left=0))=true then (if (decide (a0.kind=5))=true then some true else some (decide (a0.token=0))) else some false)):Option Bool).bind fun x21=>some x21)))))
set_option maxRecDepth 100000 in
set_option maxHeartbeats 4000000 in
theorem qJ (a0:aA)(r:Bool)(h:gF a0=some r):SC P 176 [.agg (aW a0)] [] (db r) []:=by
 unfold gF at h
 refine SC.intro3 (N:=63) Tryz.func176 rfl rfl Tryz.ntmps176 rfl ?_
 refine aa.sr (ab.evn (h':=[.live (.var (aW a0))]) [0,0] [(1,.ptr 0 0)] [] ?_)
 refine aa.seq ?_
 refine ao h fun x3 ho2 h=>?_
 refine aa.cut (Q':=fun e s'=>e = .normal∧s'=⟨[(1,.ptr 0 0),(3,db x3)],[.live (.var (aW a0))]⟩) ?_ ?_
 ·
  have h:=ho2
  refine au h (fun hc1 h=>?_) (fun hc1 h=>?_)
  ·
   refine aa.region (ab.ev0n [0,0,0,0,2,0,0,0,0] [(3,db true)] [⟨_,hc1⟩] ?_)
   cases h
   exact ⟨_,(GStep.keep [1,3]),rfl,rfl⟩
  refine aa.region (ab.ev0n [0,0,0,0,1,0,0,0,0] [(3,db (decide (a0.kind=2)))] [⟨_,hc1⟩] ?_)
  cases h
  exact ⟨_,(GStep.keep [1,3]),rfl,rfl⟩
 rintro e s' hq
 obtain ⟨rfl,rfl⟩:=hq
 refine aa.seq ?_
 refine aa.seq ?_
 refine ao h fun x11 ho10 h=>?_
 refine aa.cut (Q':=fun e s'=>e = .normal∧s'=⟨[(1,.ptr 0 0),(38,db x11)],[.live (.var (aW a0))]⟩) ?_ ?_
 ·
  have h:=ho10
  refine au h (fun hc4 h=>?_) (fun hc4 h=>?_)
  ·
   refine au h (fun hc5 h=>?_) (fun hc5 h=>?_)
   ·
    refine aa.region (ab.ev0n [0,0,0,1,0,0,0,2,0,0,0,0,0,0,0,0,0,0,0,0,0,0,0,0,0,0] [(38,db true)] [⟨_,hc4⟩,⟨_,hc5⟩] ?_)
    cases h
    exact ⟨_,(GStep.keep [1,38]),rfl,rfl⟩
   refine au h (fun hc6 h=>?_) (fun hc6 h=>?_)
   ·
    refine aa.region (ab.ev0n [0,0,0,1,0,0,0,1,0,0,0,0,2,0,0,0,0,0,0,0,0,0,0,0,0,0] [(38,db true)] [⟨_,hc4⟩,⟨_,hc5⟩,⟨_,hc6⟩] ?_)
    cases h
    exact ⟨_,(GStep.keep [1,38]),rfl,rfl⟩
   refine au h (fun hc7 h=>?_) (fun hc7 h=>?_)
   ·
    refine aa.region (ab.ev0n [0,0,0,1,0,0,0,1,0,0,0,0,1,0,0,0,0,0,2,0,0,0,0,0,0,0] [(38,db true)] [⟨_,hc4⟩,⟨_,hc5⟩,⟨_,hc6⟩,⟨_,hc7⟩] ?_)
    cases h
    exact ⟨_,(GStep.keep [1,38]),rfl,rfl⟩
   refine au h (fun hc8 h=>?_) (fun hc8 h=>?_)
   ·
    refine aa.region (ab.ev0n [0,0,0,1,0,0,0,1,0,0,0,0,1,0,0,0,0,0,1,0,1,0,0,0,0,0] [(38,db (decide ((a0.tokens.length:Int) > 0)))] [⟨_,hc4⟩,⟨_,hc5⟩,⟨_,hc6⟩,⟨_,hc7⟩,⟨_,hc8⟩] ?_)
    cases h
    exact ⟨_,(GStep.keep [1,38]),rfl,rfl⟩
   refine aa.region (ab.ev0n [0,0,0,1,0,0,0,1,0,0,0,0,1,0,0,0,0,0,1,0,2,0,0,0,0,0] [(38,db false)] [⟨_,hc4⟩,⟨_,hc5⟩,⟨_,hc6⟩,⟨_,hc7⟩,⟨_,hc8⟩] ?_)
   cases h
   exact ⟨_,(GStep.keep [1,38]),rfl,rfl⟩
  refine au h (fun hc9 h=>?_) (fun hc9 h=>?_)
  ·
   refine aa.region (ab.ev0n [0,0,0,2,0,0,0,0,0,0,0,0,0,0,0,0,0,0,0,0,1,0,0,0,0,0] [(38,db (decide ((a0.tokens.length:Int) > 0)))] [⟨_,hc4⟩,⟨_,hc9⟩] ?_)
   cases h
   exact ⟨_,(GStep.keep [1,38]),rfl,rfl⟩
  refine aa.region (ab.ev0n [0,0,0,2,0,0,0,0,0,0,0,0,0,0,0,0,0,0,0,0,2,0,0,0,0,0] [(38,db false)] [⟨_,hc4⟩,⟨_,hc9⟩] ?_)
  cases h
  exact ⟨_,(GStep.keep [1,38]),rfl,rfl⟩
 rintro e s' hq
 obtain ⟨rfl,rfl⟩:=hq
 refine aa.condI h rfl (fun hc12 h=>?_) (fun hc12 h=>?_)
 ·
  refine aa.sr (ab.ev0n [0] [(2,db false)] [] ?_)
  refine aa.ret ?_
  cases h
  exact ⟨_,(GStep.trans (GStep.keep [2]) (GStep.ren [] (by decide) rfl rfl)),.inr rfl,Fin.mk2 (aB.one (.tmp rfl)) [] (by decide) rfl rfl rfl rfl⟩
 refine aa.skip ?_
 refine aa.seq ?_
 refine ao h fun x15 ho14 h=>?_
 refine aa.cut (Q':=fun e s'=>e = .normal∧s'=⟨[(1,.ptr 0 0),(4,db x15)],[.live (.var (aW a0))]⟩) ?_ ?_
 ·
  have h:=ho14
  refine au h (fun hc13 h=>?_) (fun hc13 h=>?_)
  ·
   refine aa.region (ab.ev0n [0,0,0,0,2,0,0,0,0] [(4,db true)] [⟨_,hc13⟩] ?_)
   cases h
   exact ⟨_,(GStep.keep [1,4]),rfl,rfl⟩
  refine aa.region (ab.ev0n [0,0,0,0,1,0,0,0,0] [(4,db (decide (a0.kind=4)))] [⟨_,hc13⟩] ?_)
  cases h
  exact ⟨_,(GStep.keep [1,4]),rfl,rfl⟩
 rintro e s' hq
 obtain ⟨rfl,rfl⟩:=hq
 refine aa.seq ?_
 refine ao h fun x21 ho20 h=>?_
 refine aa.cut (Q':=fun e s'=>e = .normal∧s'=⟨[(2,db x21)],[]⟩) ?_ ?_
 ·
  have h:=ho20
  refine au h (fun hc16 h=>?_) (fun hc16 h=>?_)
  ·
   refine au h (fun hc17 h=>?_) (fun hc17 h=>?_)
   ·
    refine aa.region (ab.ev0n [0,0,2,0,0,0,0,0,0,0,0,2,0,0,0,0,0] [(2,db true)] [⟨_,hc16⟩,⟨_,hc17⟩] ?_)
    cases h
    exact ⟨_,(GStep.trans (GStep.keep [2]) (GStep.ren [] (by decide) rfl rfl)),rfl,rfl⟩
   refine aa.region (ab.ev0n [0,0,2,0,0,0,0,0,0,0,0,1,0,0,0,0,0] [(2,db (decide (a0.token=0)))] [⟨_,hc16⟩,⟨_,hc17⟩] ?_)
   cases h
   exact ⟨_,(GStep.trans (GStep.keep [2]) (GStep.ren [] (by decide) rfl rfl)),rfl,rfl⟩
  refine au h (fun hc18 h=>?_) (fun hc18 h=>?_)
  ·
   refine au h (fun hc19 h=>?_) (fun hc19 h=>?_)
   ·
    refine aa.region (ab.ev0n [0,0,1,0,0,0,0,1,0,0,0,2,0,0,0,0,0] [(2,db true)] [⟨_,hc16⟩,⟨_,hc18⟩,⟨_,hc19⟩] ?_)
    cases h
    exact ⟨_,(GStep.trans (GStep.keep [2]) (GStep.ren [] (by decide) rfl rfl)),rfl,rfl⟩
   refine aa.region (ab.ev0n [0,0,1,0,0,0,0,1,0,0,0,1,0,0,0,0,0] [(2,db (decide (a0.token=0)))] [⟨_,hc16⟩,⟨_,hc18⟩,⟨_,hc19⟩] ?_)
   cases h
   exact ⟨_,(GStep.trans (GStep.keep [2]) (GStep.ren [] (by decide) rfl rfl)),rfl,rfl⟩
  refine aa.region (ab.ev0n [0,0,1,0,0,0,0,2,0,0,0,0,0,0,0,0,0] [(2,db false)] [⟨_,hc16⟩,⟨_,hc18⟩] ?_)
  cases h
  exact ⟨_,(GStep.trans (GStep.keep [2]) (GStep.ren [] (by decide) rfl rfl)),rfl,rfl⟩
 rintro e s' hq
 obtain ⟨rfl,rfl⟩:=hq
 refine aa.ret ?_
 cases h
 exact ⟨_,(GStep.keep [2]),.inr rfl,Fin.mk2 (aB.one (.tmp rfl)) [] (by decide) rfl rfl rfl rfl⟩
noncomputable def bP (k:Nat)(a0:am)(a1:List Int)(a2:Bool)(v:Int):Option (Bool⊕Unit):=match k,v with
  | 0,_=>none
  | k+1,v0_0=>(if (decide (v0_0 < (a1.length:Int)))=true then (((if (0:Int)≤v0_0∧v0_0 < (a1.length:Int) then (if (decide ((nth a1 v0_0) < 0))=true then some true else (if (0:Int)≤v0_0∧v0_0 < (a1.length:Int) then (if (decide ((nth a1 v0_0)≥(a0.tokens.length:Int)))=true then some true else (if (decide (v0_0 > 0))=true then (if (0:Int)≤v0_0∧v0_0 < (a1.length:Int) then (if (0:Int)≤(IntKind.wrap .i64 (v0_0 - 1))∧(IntKind.wrap .i64 (v0_0 - 1)) < (a1.length:Int) then some (decide ((nth a1 v0_0)≤(nth a1 (IntKind.wrap .i64 (v0_0 - 1))))) else none) else none) else some false)) else none)) else none):Option Bool).bind fun x14=>(if x14=true then some (.inl false) else (if (0:Int)≤v0_0∧v0_0 < (a1.length:Int) then (if (0:Int)≤(nth a1 v0_0)∧(nth a1 v0_0) < (a0.tokens.length:Int) then (((if a2=true then (if (decide ((nth a0.tokens (nth a1 v0_0)).literal=(⟨#[]⟩:ByteArray)))=true then some true else some false) else some (!decide ((nth a0.tokens (nth a1 v0_0)).classF=0))):Option Bool).bind fun x21=>(if x21=true then some (.inl false) else (bP k a0 a1 a2 (IntKind.wrap .i64 (v0_0+1))))) else none) else none))) else some (.inr ()))
theorem fh:type_of% (@bP.eq_2):=@bP.eq_2
noncomputable def fY (k:Nat)(a0:am)(a1:List Int)(a2:Bool):Option Bool:=(((bP k a0 a1 a2 0):Option (Bool⊕Unit)).bind fun o26=>match o26 with | .inl r24=>(some r24) | .inr x25=>(some (decide ((a1.length:Int) > 0))))
end
end Go.Abs
