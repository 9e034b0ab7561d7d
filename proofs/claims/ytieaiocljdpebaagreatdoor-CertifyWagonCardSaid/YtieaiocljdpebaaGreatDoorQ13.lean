/- Part 13 of the proof; the last part says what is shown. -/
import Derived.Test.YtieaiocljdpebaaGreatDoorProg
import Derived.Test.YtieaiocljdpebaaGreatDoorQ1
import Derived.WalkKit
import Derived.LoopTactic
import Derived.Lib.Hide
import Derived.Outline
import Derived.OwnWalk
import Derived.Below
import Derived.RegionTactic
import Derived.BigQuiet
import Derived.Deep.QuietTactic
import Derived.WalkSpells
import Derived.WalkLawsBesides
import Derived.WalkSmall
import Derived.StillTailTactics
import Derived.RangeFuncIn
import Derived.RangeFuncLeaves
import Derived.RangeFuncRecord
import Derived.RangeFuncSeq
import Derived.RangeFuncCalls
import Derived.OwnWalkIn
import Derived.TacticsInMore
import Derived.LoopNIn
import Derived.LoopIn
import Derived.RegionIn
import Derived.BigRegionIn
import Derived.Shelf.Abstract
import Derived.Shelf.RegionOpen
import Derived.Deep.RegionWith
set_option linter.defProp false
set_option linter.unusedVariables false
set_option linter.unusedSimpArgs false
set_option linter.unnecessarySimpa false
open Bool renaming and_eq_true→awF,and_eq_false_iff→azh
open List renaming cons_append→awV,nil_append→awX,length_cons→axm,getElem?_cons_zero→axz,mem_of_mem_take→axL,size_toArray→axQ,take_of_length_le→axX,length_nil→ayj,append_toArray→ayB,drop_zero→azt,drop_succ_cons→az9,push_toArray→aAo
open Nat renaming le_trans→axn,zero_le→axN,add_zero→ax1,lt_of_lt_of_le→ayo,mod_lt→ayI,gcd→ayR,gcd_comm→azo,mul_le_mul→azW,gcd_rec→aAp
open Option renaming getD_some→axi
open Array renaming getElem?_modify→aye,replicate→ayM,getElem?_eq_none→ay8,replicate_succ→az3,replicate_zero→az4
namespace Go.Proofs.YtieaiocljdpebaaGreatDoor
open Go.RowKit
section
def avl{P:Program}{w:World}(Z:Array TypeId)(t:TypeId)(x y:Int):(Builtin.min_ Z t #[.int .i64 x,.int .i64 y]).run P w=.ok (.int .i64 (min x y)) w:=by
 simp[Builtin.min_,Builtin.min2];omega
def avm{P:Program}{w:World}(Z:Array TypeId)(t:TypeId)(x y:Int):(Builtin.max_ Z t #[.int .i64 x,.int .i64 y]).run P w=.ok (.int .i64 (max x y)) w:=by
 simp[Builtin.max_,Builtin.max2];omega
attribute[go_sem high] avl avm
def Sl{α:Type}(enc:α->List Value)(k:Nat)(w:World)(v:Value)(xs:List α):Prop:=
 ∃(a:Option Addr)(Z cap:Nat),v=.slice a Z cap/\xs.length=Z/\Z<=cap/\cap<=4611686018427387904/\
  ∀i(h:i<xs.length),∃b off,a=some ⟨b,off,none⟩/\b<w.heap.size/\∀j,j<k->w.cell? ⟨b,off+i*k+j,none⟩=(enc xs[i])[j]?
def Sl.below{α:Type}{enc:α->List Value}{k:Nat}{w Z:World}{v:Value}{xs:List α}(h:Sl enc k w v xs)(X:Below w.heap.size w Z):Sl enc k Z v xs:=by
 obtain⟨a,V,cap,U,R,Q,P,O⟩:=h;refine⟨a,V,cap,U,R,Q,P,λi hi=> ?_⟩;obtain⟨b,off,e,W,N⟩:=O i hi;exact⟨b,off,e,ayo W X.size,λj M=>(X.cell (p:=⟨b,_,none⟩) W).trans (N j M)⟩
def Sx(n:Int):List Value:=[.int .i64 n]
def Ir{a b:Bool}(h:a=b):Ending.returned (.bool a)=.returned (.bool b):=by rw[h]
def Sy{k:IntKind}{a b:Int}(h:a=b):Ending.returned (.int k a)=.returned (.int k b):=by rw[h]
def akT{W Z:World}(X:Below W.heap.size W Z):(∀b o,b<W.heap.size->Z.cell? ⟨b,o,none⟩=W.cell? ⟨b,o,none⟩)/\(∀b o,b<W.heap.size->Z.frozen? ⟨b,o,none⟩=W.frozen? ⟨b,o,none⟩):=
 ⟨λb o h=>X.cell (p:=⟨b,o,none⟩) h,λb o h=>X.frozen (p:=⟨b,o,none⟩) h⟩
def asc:List Value:=[.int .i64 0,.int .i64 29,.int .i64 20,.int .i64 21,.int .i64 29,.int .i64 0,.int .i64 20,.int .i64 (-21),.int .i64 0,.int .i64 (-29),.int .i64 (-20),.int .i64 (-21),.int .i64 (-29),.int .i64 0,.int .i64 (-20),.int .i64 21]
def aaz(w:World):Prop:=4<=w.heap.size/\∀i,i<16->w.cell? ⟨2,i,none⟩=asc[i]?
def aaz.below{w Z:World}(h:aaz w)(X:Below w.heap.size w Z):aaz Z:=
 ⟨axn h.1 X.size,λi hi=>(X.cell (p:=⟨2,i,none⟩) (by have:=h.1;show 2<_;omega)).trans (h.2 i hi)⟩
def ma{w Z:World}(h:Below w.heap.size w Z)(o:Obj):Below w.heap.size w (Z.alloc o):=h.alloc h.size o
def rH{w Z:World}(h:Below w.heap.size w Z){p:Addr}(X:w.heap.size<=p.block)(u:Value):Below w.heap.size w (Z.setCell p u):=h.setCell X u
def rI{w Z X:World}(h:Below w.heap.size w Z)(k:Below Z.heap.size Z X):Below w.heap.size w X:=h.trans (k.mono h.size)
def BT{w Z:World}(h:Below w.heap.size w Z)(n:Nat):Below w.heap.size w (Z.drewN n):=below_drewN h n
def vw{w Z:World}(h:Below w.heap.size w Z):Below w.heap.size w Z.drew:=h.drew
def Bx(W:World)(b:Nat)(t:TypeId)(vs:Array Value):Prop:=W.heap[b]?=some (.cells vs t (0,0))
def Bx.lt{W:World}{b:Nat}{t:TypeId}{vs:Array Value}(h:Bx W b t vs):b<W.heap.size:=by
 unfold Bx at h;by_cases Z:b<W.heap.size;exact Z;rw[ay8 (by omega)] at h;cases h
def Bx.cell{W:World}{b:Nat}{t:TypeId}{vs:Array Value}(h:Bx W b t vs):∀i,W.cell? ⟨b,i,none⟩=vs[i]?:=by
 intro i;unfold Bx at h;simp[World.cell?,h]
def Bx.free{W:World}{b:Nat}{t:TypeId}{vs:Array Value}(h:Bx W b t vs):∀i,W.frozen? ⟨b,i,none⟩=false:=by
 intro i;unfold Bx at h;simp[World.frozen?,h]
def Bx.new(w:World)(vs:Array Value)(t:TypeId):Bx (w.alloc (.cells vs t)) w.heap.size t vs:=by
 show(w.heap.push _)[w.heap.size]?=_;simp
def Bx.alloc{W:World}{b:Nat}{t:TypeId}{vs:Array Value}(h:Bx W b t vs)(o:Obj):Bx (W.alloc o) b t vs:=
 (Below.heap_alloc W o b h.lt).trans h
def Bx.drew{W:World}{b:Nat}{t:TypeId}{vs:Array Value}(h:Bx W b t vs):Bx W.drew b t vs:=h
def Bx.drewN{W:World}{b:Nat}{t:TypeId}{vs:Array Value}(h:Bx W b t vs)(n:Nat):Bx (W.drewN n) b t vs:=h
def Bx.below{W Z:World}{b:Nat}{t:TypeId}{vs:Array Value}(h:Bx W b t vs)(X:Below W.heap.size W Z):Bx Z b t vs:=
 (X.block b h.lt).trans h
def Bx.other{W:World}{b c i:Nat}{t:TypeId}{vs:Array Value}(h:Bx W b t vs)(hne:b≠c)(u:Value):Bx (W.setCell ⟨c,i,none⟩ u) b t vs:=
 (Below.heap_setCell W _ u b hne).trans h
def Bx.set{W:World}{b i:Nat}{t:TypeId}{vs:Array Value}(h:Bx W b t vs)(u:Value):Bx (W.setCell ⟨b,i,none⟩ u) b t (vs.setIfInBounds i u):=by
 unfold Bx at*;simp[World.setCell,aye,h]
end
section
def Bx.only{S:List Nat}{W Z:World}{b:Nat}{t:TypeId}{vs:Array Value}(h:Bx W b t vs)(X:bS S W Z)(V:b∉S):Bx Z b t vs:=X.heap h V
def asd(P:Program)(l:Nat)(R:Ending->World->Prop):Exit->Act->World->Prop
 |.normal,_,w=>∃v Z,(Instr.endRound l none).run P w=.ok v Z/\R (.returned v) Z
 |.ret,_,w=>∃v Z,(Instr.endRound l (some .ret)).run P w=.ok v Z/\R (.returned v) Z
 |.exit id,_,w=>∃v Z,(Instr.endRound l (some (.exit id))).run P w=.ok v Z/\R (.returned v) Z
 |.goto t,_,w=>∃v Z,(Instr.endRound l (some (.goto t))).run P w=.ok v Z/\R (.returned v) Z
 |.panic X,a,w=>a.defers=[]/\R (.panicked X) w
 |.outgrown,_,_=>False
def ase{F:Fence}{n:Nat}{P:Program}{l:Nat}{f:FuncId}{fn:Func}{tmps:Array Value}{assign body:Code}{w:World}{R:Ending->World->Prop}(A:F.fn f)(x:P.funcs[f]?=some fn)
  (h:assign.wpIn (F.inRound l) n P (Exit.then (λJ D=>∃E,(Instr.beginRound l).run P D=.ok () E/\body.wpIn (F.inRound l) n P (asd P l R) J E) (λ_ _ _=>False))
   {tmps:=tmps,defers:=[]} w):
  RoundIn F n P l f tmps assign body w R:=by
 refine⟨A,λc cs u=> ?_⟩;let b:Frame:={(default:Frame) with fn:=f,kind:=.normal,roundOf:=some l};have s:Frame.round l f tmps assign body .normal=b.atR {tmps:=tmps,defers:=[]} [.code assign,.beginRound,.code body]:=by
  simp[Frame.round,Frame.atR,b]
 have Z:(F.inRound l).room ((c::cs).length+1+n):=u;have X:(F.inRound l).fn b.fn:=A;obtain⟨e,J,D,O,N⟩:=h b [.beginRound,.code body] (c::cs) rfl X Z;rw[<-s] at N;cases e with
 |normal=>
  obtain⟨E,r,q⟩:=O;have I:StepsIn (Machine.fenced P (F.inRound l)) P (lone (b.atR J [.beginRound,.code body]) (c::cs) D) (lone (b.atR J [.code body]) (c::cs) E):=
   .one (fenced_calm (fr:=b.atR J [.beginRound,.code body]) X Z rfl) (stepR_beginRound rfl r)
  obtain⟨p,M,C,L,H⟩:=q b [] (c::cs) rfl X Z;cases p with
  |normal=>
   obtain⟨v,W,V,hR⟩:=L;exact⟨.returned v,W,hR,(StepsIn.trans N I).trans (StepsIn.trans H (.one (fenced_calm (fr:=b.atR M []) X Z rfl) (stepR_round_end rfl rfl V)))⟩
  |ret=>
   obtain⟨v,W,V,hR⟩:=L;obtain⟨G,U⟩:=H.2 rfl;exact⟨.returned v,W,hR,(StepsIn.trans N I).trans (StepsIn.trans U (.one (fenced_calm (fr:=b.atR M (.code .ret::G)) X Z rfl) (stepR_round_ret rfl rfl V)))⟩
  |exit id=>
   obtain⟨v,W,V,hR⟩:=L;obtain⟨G,B,U⟩:=H.2 rfl rfl;exact⟨.returned v,W,hR,(StepsIn.trans N I).trans (StepsIn.trans U (.one (fenced_calm (fr:=b.atR M (.code (.exit id)::G)) X Z rfl) (stepR_round_exit rfl rfl B V)))⟩
  |goto t=>
   obtain⟨v,W,V,hR⟩:=L;obtain⟨G,B,U⟩:=H.2 rfl rfl;exact⟨.returned v,W,hR,(StepsIn.trans N I).trans (StepsIn.trans U (.one (fenced_calm (fr:=b.atR M (.code (.goto t)::G)) X Z rfl) (stepR_round_goto rfl rfl B V)))⟩
  |panic chain=>
   obtain⟨o,hR⟩:=L;obtain⟨z,U⟩:=H;have y:({b.atR M z with mode:=.panicking chain}:Frame).leaving P C (.panicked chain):=⟨rfl,o,fn,x⟩;have m:(lone {b.atR M z with mode:=.panicking chain} (c::cs) C).fenced P (F.inRound l):=fenced_leaving (n:=n) X Z y;exact⟨.panicked chain,C,hR,(StepsIn.trans N I).trans (StepsIn.trans U (.one m (step_leave_panicked y)))⟩
  |outgrown=>exact L.elim
 |exit id=>exact O.elim
 |goto t=>exact O.elim
 |ret=>exact O.elim
 |panic chain=>exact O.elim
 |outgrown=>exact O.elim
def akU{n m:Nat}{P:Program}{l:Nat}{f:FuncId}{tmps:Array Value}{assign body:Code}{w:World}{R:Ending->World->Prop}(h:RoundIn Fence.wide n P l f tmps assign body w R):RoundIn Fence.wide m P l f tmps assign body w R:=
 ⟨h.1,λc cs _=>h.2 c cs (room_wide _)⟩
def akV{α R:Type}(P:Program)(f:FuncId)(N:Array Value)(M:α->Array Value)(xs:List α)(T:List Nat)(U:R->World->Prop)(L:R):Prop:=
 ∀(n l:Nat)(J:List α->World->Prop)(V:World->Prop)(O:List PanicEntry->World->Prop)(W:World),
  (∀Z W W',J Z W->bS T W W'->J Z W')->(∀W W',V W->bS T W W'->V W')->
  (∀Z x W s,J Z W->U s W->Z++[x]<+:xs->YieldAt Fence.wide n P l (M x) W λe W'=>
   (e=.returned (.bool true)/\J (Z++[x]) W'/\U s W')\/(e=.returned (.bool false)/\V W')\/(∃X,e=.panicked X/\O X W'))->
  J [] W->U L W->
  CallsIn Fence.wide n P f (#[.func (.yield l) #[] #[]]++N) W λe W'=>(∃v,e=.returned v/\(J xs W'\/V W'))\/(∃X,e=.panicked X/\O X W')
def asf{α:Type}(S:List Nat)(W:World)(I:List α->World->Prop)(Z:Code->World->Prop)(X:List PanicEntry->World->Prop)(V:List α):Exit->Act->World->Prop
 |.normal,_,W'=>bS S W W'/\I V W'
 |.ret,_,W'=>bS S W W'/\Z .ret W'
 |.exit id,_,W'=>bS S W W'/\Z (.exit id) W'
 |.panic U,a,W'=>a.defers=[]/\bS S W W'/\X U W'
 |_,_,_=>False
def rJ(u:FuncId)(P:Program)(c:Code)(Q:Exit->Act->World->Prop)(a:Act)(w:World):Prop:=
 ∀(b:Frame)(k:List Item)(cs:List Frame),b.roundOf=none->b.fn=u->
  ∃e a' Z,Q e a' Z/\ArrivesIn (Machine.fenced P Fence.wide) P (lone (b.atR a (.code c::k)) cs w) b k cs e a' Z
def asg(u:FuncId)(P:Program)(l:Nat)(Q:Exit->Act->World->Prop)(a':Act):Ending->World->Prop
 |.returned _,Z=>∃W X,(Instr.endLoop l).run P Z=.ok W X/\
   (match W with
    |none=>Q .normal a' X
    |some c=>rJ u P c Q a' X)
 |.panicked chain,Z=>Q (.panic chain) a' Z
 |.outgrown,_=>False
section at_
variable{u:FuncId}{P:Program}{Q:Exit->Act->World->Prop}{a:Act}{w:World}
def akW{c:Code}(h:c.wp P Q a w):rJ u P c Q a w:=
 λb k cs Z _=>(wpIn_wide (n:=0)).2 h b k cs Z trivial (room_wide _)
def akX{x y:Code}(h:rJ u P x (Exit.then (rJ u P y Q) Q) a w):rJ u P (Code.seq x y) Q a w:=by
 intro b k cs R O;have Z:(lone (b.atR a (.code (.seq x y)::k)) cs w).fenced P Fence.wide:=fenced_wide _ _;obtain⟨e,V,U,X,W⟩:=h b (.code y::k) cs R O;cases e with
 |normal=>
  obtain⟨N,M,L,J,I⟩:=X b k cs R O;exact⟨N,M,L,J,.of_steps (.head Z stepR_seq W) I⟩
 |exit id=>exact⟨_,V,U,X,.of_steps (.one Z stepR_seq) (.pass (x:=.code y) rfl (λ_ _=>.inl (by simp)) W)⟩
 |goto l=>exact⟨_,V,U,X,.of_steps (.one Z stepR_seq) (.pass (x:=.code y) rfl (λ_ _=>.inl (by simp)) W)⟩
 |ret=>exact⟨_,V,U,X,.of_steps (.one Z stepR_seq) (.pass (x:=.code y) rfl (λ_ _=>.inl (by simp)) W)⟩
 |panic H=>exact⟨_,V,U,X,.of_steps (.one Z stepR_seq) (.pass (x:=.code y) rfl (λ_ _=>.inl (by simp)) W)⟩
 |outgrown=>exact⟨_,V,U,X,.of_steps (.one Z stepR_seq) (.pass (x:=.code y) rfl (λ_ _=>.inl (by simp)) W)⟩
def LZ{x y:Code}(h:x.wp P (Exit.then (rJ u P y Q) Q) a w):rJ u P (Code.seq x y) Q a w:=akX (akW h)
def ash{id:Nat}{c:Code}(h:rJ u P c (Exit.inBlock id Q) a w):rJ u P (Code.block id c) Q a w:=by
 intro b k cs G F;have Z:(lone (b.atR a (.code (.block id c)::k)) cs w).fenced P Fence.wide:=fenced_wide _ _;obtain⟨e,V,U,X,W⟩:=h b (.inBlock id::k) cs G F;cases e with
 |normal=>exact⟨.normal,V,U,X,.head Z stepR_block (StepsIn.trans W (.one (fenced_wide _ _) stepR_inBlock))⟩
 |exit O=>
  by_cases hid:O=id;simp only[Exit.inBlock,hid,if_true] at X;exact⟨.normal,V,U,X,.head Z stepR_block (W.1 k (by simp[exitTo,hid]))⟩;simp only[Exit.inBlock,hid,if_false] at X;have this:(id==O)=false:=by simp;exact λh=>hid h.symm
  have N:exitTo O (.inBlock id::k)=exitTo O k:=by simp[exitTo,this]
  exact⟨.exit O,V,U,X,λM R=>.head Z stepR_block (W.1 M (by rw[N];exact R)),
   λL R=>let⟨J,I,H⟩:=W.2 L (by rw[N];exact R);⟨J,I,.head Z stepR_block H⟩⟩
 |goto l=>
  have N:gotoIn l (.inBlock id::k)=gotoIn l k:=by simp[gotoIn]
  exact⟨_,V,U,X,λM R=>.head Z stepR_block (W.1 M (by rw[N];exact R)),
   λL R=>let⟨J,I,H⟩:=W.2 L (by rw[N];exact R);⟨J,I,.head Z stepR_block H⟩⟩
 |ret=>exact⟨_,V,U,X,.of_steps (.one Z stepR_block) W⟩
 |panic E=>exact⟨_,V,U,X,.of_steps (.one Z stepR_block) W⟩
 |outgrown=>exact⟨_,V,U,X,.of_steps (.one Z stepR_block) W⟩
def asi{g:Operand}{ps:Array Tmp}{assign body:Code}
  (h:∃(l:Nat)(mark:List Deferred)(Z:World)(d:Deferred)(X:World)(f:FuncId)(args:Array Value)(W:World),
   (Instr.enterLoop u a.tmps ps assign body none).run P w=.ok (l,mark) Z/\
   (resolve a.eval (rangeCall g l) 0).run P Z=.ok d X/\
   (invoke d.target d.args).run P X=.ok (.enter f args) W/\
   CallsIn Fence.wide 0 P f args W (asg u P l Q {a with defers:=mark++a.defers})):
  rJ u P (Code.rangeFunc g ps assign body) Q a w:=by
 intro b k cs V U;obtain⟨l,mark,Z,d,X,f,args,W,R,hres,F,t,E⟩:=h;rw[<-V,<-U] at R;have O:(lone (b.atR a (.code (.rangeFunc g ps assign body)::k)) cs w).fenced P Fence.wide:=fenced_wide _ _;have N:=stepR_rangeFunc (P:=P) (b:=b) (a:=a) (k:=k) (cs:=cs) (w:=w) R hres F;obtain⟨e,D,fr,hR,M,s,L⟩:=E (b.atR {a with defers:=mark++a.defers} (.inRangeFunc l::k)::cs) (room_wide _);cases e with
 |outgrown=>exact hR.elim
 |returned v=>
  obtain⟨J,I,C,H⟩:=hR;have G:StepsIn (Machine.fenced P Fence.wide) P (lone (b.atR a (.code (.rangeFunc g ps assign body)::k)) cs w) (lone (b.atR {a with defers:=mark++a.defers} ((J.map Item.code).toList++k)) cs I):=by
   refine .head O N (StepsIn.trans M (.head (fenced_wide _ _) ?_ (.one (fenced_wide _ _) (stepR_endRangeFunc C))));rw[<-finish_atR_inRangeFunc l v];exact step_leave_returned L
  cases J with
  |none=>exact⟨.normal,_,I,H,G⟩
  |some c=>
   obtain⟨B,A,z,y,x⟩:=H b k cs V U;exact⟨B,A,z,y,.of_steps G x⟩
 |panicked chain=>
  refine⟨.panic chain,_,D,hR,.inRangeFunc l::k,.head O N (StepsIn.trans M (.one (fenced_wide _ _) ?_))⟩;rw[<-Frame.raise_atR];exact step_leave_panicked L
end at_
def asj{P:Program}{f:FuncId}{fn:Func}{c:Code}{args:Array Value}{w:World}{R:Ending->World->Prop}
  (L:P.funcs[f]?=some fn)(F:fn.body=some c)
  (h:rJ f P c (bodyPostM Fence.wide 0 P fn R) {tmps:=args++ayM (fn.ntmps-args.size) undef,defers:=[]} w):Calls P f args w R:=by
 refine(callsIn_wide (n:=0)).1 ⟨trivial,λcs I=> ?_⟩;let b:Frame:={(default:Frame) with fn:=f,kind:=.normal,roundOf:=none};have E:Frame.enter P f args .normal=
   b.atR {tmps:=args++ayM (fn.ntmps-args.size) undef,defers:=[]} [.code c]:=by
  simp[Frame.enter,Frame.atR,L,F,b]
 obtain⟨e,a',J,Z,X⟩:=h b [] cs rfl rfl;rw[<-E] at X;cases e with
 |normal=>
  obtain⟨W,V,U,hR,O,N,M⟩:=leaves_stepsInM a'.defers .returning J {b.atR a' [] with mode:=.returning} cs rfl rfl rfl L rfl trivial I Z;exact⟨W,V,U,hR,ComesIn.of_steps (StepsIn.trans X (.one (fenced_wide _ _) (stepR_end rfl))) O,N,M⟩
 |ret=>
  obtain⟨H,G⟩:=X.1 rfl;obtain⟨W,V,U,hR,O,N,M⟩:=leaves_stepsInM a'.defers .returning J {b.atR a' H with mode:=.returning} cs rfl rfl rfl L rfl trivial I Z;exact⟨W,V,U,hR,ComesIn.of_steps G O,N,M⟩
 |panic chain=>
  obtain⟨H,G⟩:=X;obtain⟨W,V,U,hR,O,N,M⟩:=leaves_stepsInM a'.defers (.panicking chain) J {b.atR a' H with mode:=.panicking chain} cs rfl rfl rfl L rfl trivial I Z;exact⟨W,V,U,hR,ComesIn.of_steps G O,N,M⟩
 |exit id=>exact Z.elim
 |goto l=>exact Z.elim
 |outgrown=>exact⟨.outgrown,J,b,Z,X.resolve_left (by simp[b]),rfl,trivial⟩
def asl{α n:Type}{P:Program}{u:FuncId}{b:Func}(a6:P.funcs[u]?=some b){g:Operand}{ps:Array Tmp}{assign body:Code}{Q:Exit->Act->World->Prop}{a:Act}{w:World}
  {f:FuncId}{r:Array Value}{m:α->Array Value}{xs:List α}(S T:List Nat)(H:n->World->Prop)(af:n)
  (I:List α->World->Prop)(E:Code->World->Prop)(l:List PanicEntry->World->Prop)
  (hg:a.eval g=.func (.func f) #[] r)
  (eg:∀args w,(callFunc f args).run P w=.ok (.enter f args) w)
  (a7:akV P f r m xs T H af)
  (a8:∀x,(m x).size=ps.size)
  (k:∀s W W',H s W->bS (w.heap.size::(w.heap.size+1)::S) W W'->H s W')
  (D:∀R W W',I R W->bS (w.heap.size::(w.heap.size+1)::T) W W'->I R W')
  (q:∀c W W',E c W->bS (w.heap.size::(w.heap.size+1)::T) W W'->E c W')
  (hS:∀x,x∈S->x<w.heap.size)(hT:∀x,x∈T->x<w.heap.size)
  (h0:I [] w)(a9:H af w)(ag:α->Act)
  (bb:∀(x:α)(W:World)(K:Act->World->Prop),K (ag x) W->
   assign.wpIn (Fence.wide.inRound (w.heap.size+1)) 0 P (Exit.then K (λ_ _ _=>False))
    {tmps:=(ps.zip (m x)).foldl (λtmps (t,a)=>tmps.setIfInBounds t a) a.tmps,defers:=[]} W)
  (bd:∀(R:List α)(x:α)(W:World)(s:n),I R W->H s W->R++[x]<+:xs->w.heap.size+1<W.heap.size->
   body.wpIn (Fence.wide.inRound (w.heap.size+1)) 0 P (asf S W I E l (R++[x])) (ag x) W)
  (bf:∀W,I xs W->W.heap[w.heap.size]?=some (.deferred (some []))->Q .normal {a with defers:={target:=.collected w.heap.size,args:= #[]}::a.defers} W)
  (bk:∀c W,E c W->W.heap[w.heap.size]?=some (.deferred (some []))->rJ u P c Q {a with defers:={target:=.collected w.heap.size,args:= #[]}::a.defers} W)
  (br:∀J W,l J W->W.heap[w.heap.size]?=some (.deferred (some []))->Q (.panic J) {a with defers:={target:=.collected w.heap.size,args:= #[]}::a.defers} W):
  rJ u P (Code.rangeFunc g ps assign body) Q a w:=by
 refine asi ?_;obtain⟨rec,V⟩:∃rec:LoopState->Option Code->Loop,rec=λst pe=>{state:=st,pending:=pe,fn:=u,tmps:=a.tmps,params:=ps,assign,body,defers:=w.heap.size}:=⟨_,rfl⟩
 obtain⟨M,p⟩:∃M,(w.alloc (.deferred (some []))).alloc (.loop (rec .ready none))=M:=⟨_,rfl⟩;have bs:M.heap[w.heap.size+1]?=some (.loop (rec .ready none)):=by
  rw[<-p];have:=World.alloc_heap_new (w.alloc (.deferred (some []))) (.loop (rec .ready none));rwa [World.size_alloc] at this
 have bt:M.heap[w.heap.size]?=some (.deferred (some [])):=by
  rw[<-p];exact(Below.heap_alloc _ _ _ (by simp)).trans (World.alloc_heap_new w _)
 have an:∀j,bS j w M:=λj=>by rw[<-p];exact((bS.refl j w).alloc _).alloc _
 refine⟨w.heap.size+1,[{target:=.collected w.heap.size,args:= #[]}],M,{target:=.fn (.func f) r,args:= #[.func (.yield (w.heap.size+1)) #[] #[]]},M,f,
  #[.func (.yield (w.heap.size+1)) #[] #[]]++r,M, ?_, ?_, ?_, ?_⟩
 rw[<-p,V];exact run_enterLoop_outer _ _ _ _ _
 ·simp only[resolve,hg];simp[go_sem]
 ·simp[invoke,go_sem,eg]
 ·have a0:w.heap.size∉T:=λh=>by have:=hT _ h;omega
  have a1:w.heap.size+1∉T:=λh=>by have:=hT _ h;omega
  have a2:w.heap.size∉S:=λh=>by have:=hS _ h;omega
  have bx:w.heap.size+1∉S:=λh=>by have:=hS _ h;omega
  refine CallsIn.mono (a7 0 (w.heap.size+1)
   (λR W=>I R W/\W.heap[w.heap.size+1]?=some (.loop (rec .ready none))/\W.heap[w.heap.size]?=some (.deferred (some [])))
   (λW=>∃c,E c W/\W.heap[w.heap.size+1]?=some (.loop (rec .done (some c)))/\W.heap[w.heap.size]?=some (.deferred (some [])))
   (λJ W=>l J W/\W.heap[w.heap.size]?=some (.deferred (some []))) M ?_ ?_ ?_ ⟨D _ _ _ h0 (an _),bs,bt⟩ (k _ _ _ a9 (an _))) ?_
  rintro R W W' ⟨O,X,L⟩ Z;exact⟨D _ _ _ O (Z.mono λx C=>by simp[C]),Z.heap X a1,Z.heap L a0⟩;rintro W W' ⟨c,O,X,L⟩ Z;exact⟨c,q _ _ _ O (Z.mono λx C=>by simp[C]),Z.heap X a1,Z.heap L a0⟩
  ·rintro R x W s ⟨O,X,L⟩ b0 b1;have o:w.heap.size+1<W.heap.size:=by
    by_cases o:w.heap.size+1<W.heap.size;exact o;rw[ay8 (by omega)] at X;cases X
   refine⟨_,_,_,_,run_yield X (by rw[V];exact a8 x), ?_⟩;rw[V];refine ase (fn:=b) trivial a6 ?_;refine bb x W _ ?_;have b2:=run_beginRound (P:=P) X (by rw[V]);refine⟨_,b2, ?_⟩;have b3:bS (w.heap.size::(w.heap.size+1)::T) W (W.putObj (w.heap.size+1) (.loop (rec .busy none))):=(bS.refl _ _).putObj (by simp) _;have b4:bS (w.heap.size::(w.heap.size+1)::S) W (W.putObj (w.heap.size+1) (.loop (rec .busy none))):=(bS.refl _ _).putObj (by simp) _;have b5:(W.putObj (w.heap.size+1) (.loop (rec .busy none))).heap[w.heap.size+1]?=some (.loop (rec .busy none)):=World.putObj_heap_same o;have a3:(W.putObj (w.heap.size+1) (.loop (rec .busy none))).heap[w.heap.size]?=some (.deferred (some [])):=(World.putObj_heap_other (by omega)).trans L;have b6:=D _ _ _ O b3;have a4:=k _ _ _ b0 b4;have a5:w.heap.size+1<(W.putObj (w.heap.size+1) (.loop (rec .busy none))).heap.size:=by simpa[World.putObj] using o
   have b7:({rec .ready none with state:=.busy}:Loop)=rec .busy none:=by rw[V]
   rw[b7];generalize cf:W.putObj (w.heap.size+1) (.loop (rec .busy none))=Wb at*;refine wpIn_mono (bd R x Wb s b6 a4 b1 a5) ?_;intro e a' W' G;have key:∀(F:Option Code),bS S Wb W'->(∃v N,(Instr.endRound (w.heap.size+1) F).run P W'=.ok v N/\v=.bool F.isNone/\N.heap[w.heap.size+1]?=some (.loop (rec (if F.isNone then .ready else .done) F))/\N.heap[w.heap.size]?=some (.deferred (some []))/\(∀U,bS (w.heap.size::(w.heap.size+1)::U) W' N)/\H s N):=by
    intro F Z;have b8:=Z.heap b5 bx;have ca:=Z.heap a3 a2;have cc:w.heap.size+1<W'.heap.size:=ayo a5 Z.size;refine⟨_,_,run_endRound F b8,rfl, ?_, ?_,λU=>(bS.refl _ _).putObj (by simp) _, ?_⟩;rw[World.putObj_heap_same cc,V];exact(World.putObj_heap_other (by omega)).trans ca;exact k _ _ _ a4 ((Z.mono λx C=>by simp[C]).putObj (by simp) _)
   cases e with
   |normal=>
    obtain⟨Z,hi⟩:=G;obtain⟨v,N,B,rfl,A,z,y,i⟩:=key none Z;exact⟨_,N,B,.inl ⟨rfl,⟨D _ _ _ hi (y T),by rw[A,V];rfl,z⟩,i⟩⟩
   |ret=>
    obtain⟨Z,hi⟩:=G;obtain⟨v,N,B,rfl,A,z,y,i⟩:=key (some .ret) Z;exact⟨_,N,B,.inr (.inl ⟨rfl,.ret,q _ _ _ hi (y T),by rw[A,V];rfl,z⟩)⟩
   |exit id=>
    obtain⟨Z,hi⟩:=G;obtain⟨v,N,B,rfl,A,z,y,i⟩:=key (some (.exit id)) Z;exact⟨_,N,B,.inr (.inl ⟨rfl,.exit id,q _ _ _ hi (y T),by rw[A,V];rfl,z⟩)⟩
   |goto t=>exact G.elim
   |panic J=>
    obtain⟨hd,Z,hi⟩:=G;exact⟨hd,.inr (.inr ⟨J,rfl,hi,Z.heap a3 a2⟩)⟩
   |outgrown=>exact G.elim
  rintro e W' (⟨v,rfl,h⟩|⟨J,rfl,O,X⟩);rcases h with⟨O,X,L⟩|⟨c,O,X,L⟩;have d:(Instr.endLoop (w.heap.size+1)).run P W'=.ok none (W'.putObj (w.heap.size+1) (.loop (rec .exhausted none))):=by
   have:=run_endLoop (P:=P) X (by rw[V];simp);rw[this,V]
  exact⟨none,_,d,bf _ (D _ _ _ O ((bS.refl _ _).putObj (by simp) _)) ((World.putObj_heap_other (by omega)).trans L)⟩;have d:(Instr.endLoop (w.heap.size+1)).run P W'=.ok (some c) (W'.putObj (w.heap.size+1) (.loop (rec .exhausted (some c)))):=by
   have:=run_endLoop (P:=P) X (by rw[V];simp);rw[this,V]
  exact⟨some c,_,d,bk c _ (q _ _ _ O ((bS.refl _ _).putObj (by simp) _)) ((World.putObj_heap_other (by omega)).trans L)⟩;exact br _ _ O X
attribute[go_sem] Oper.semAt_some
def Bx.putObj{W:World}{b r:Nat}{t:TypeId}{vs:Array Value}(h:Bx W b t vs)(hne:b≠r)(o:Obj):Bx (W.putObj r o) b t vs:=(World.putObj_heap_other hne).trans h
def asm{w Z:World}(h:Below w.heap.size w Z){r:Nat}(X:w.heap.size<=r)(o:Obj):Below w.heap.size w (Z.putObj r o):=
 h.trans ⟨rfl,rfl,rfl,by simp[World.putObj],λk W=>World.putObj_heap_other (by omega)⟩
def asn{P:Program}{fn:Func}{R:Ending->World->Prop}{tmps:Array Value}{W:World}{D:Nat}{v:Value}(hK:W.heap[D]?=some (.deferred (some [])))
  (hres:(results fn tmps).run P (W.putObj D (.deferred none))=.ok v (W.putObj D (.deferred none)))(hR:R (.returned v) (W.putObj D (.deferred none))):
  bodyPostM Fence.wide 0 P fn R .ret {tmps,defers:=[{target:=.collected D,args:= #[]}]} W:=
 ⟨by simp,.inl ⟨D,_,rfl,run_takeDeferred hK,v,hres,hR⟩⟩
def aso{P:Program}{fn:Func}{R:Ending->World->Prop}{tmps:Array Value}{W:World}{b D:Nat}{t:TypeId}{vs:Array Value}{v:Value}(hK:W.heap[D]?=some (.deferred (some [])))
  (B:Bx W b t vs)(hne:b≠D)(hres:∀W',Bx W' b t vs->(results fn tmps).run P W'=.ok v W')(hR:R (.returned v) (W.putObj D (.deferred none))):
  bodyPostM Fence.wide 0 P fn R .ret {tmps,defers:=[{target:=.collected D,args:= #[]}]} W:=
 asn hK (hres _ (B.putObj hne _)) hR
end
end Go.Proofs.YtieaiocljdpebaaGreatDoor
namespace Go.Proofs.YtieaiocljdpebaaGreatDoor.K
structure lx where
 N:Int
 D:Int
 deriving DecidableEq
def rK:Nat->Nat->Nat->List Nat
 |0,_,_=>[]
 |n+1,a,b=>if a=0 then[] else a::(if a%b=0 then[b] else rK n b (a%b))
def akY:∀(n a b d:Nat),b<n->0<b->a≠0->((rK n a b).getLast?).getD d=ayR a b
 |0,_,b,_,h,_,_=>by omega
 |n+1,a,b,d,h,X,W=>by
  simp only[rK,W,if_false];by_cases Z:a%b=0;simp only[Z,if_true,List.getLast?_cons_cons,List.getLast?_singleton,axi];exact(Nat.gcd_eq_right (Nat.dvd_of_mod_eq_zero Z)).symm;simp only[Z,if_false];have U:=ayI a X;have V:=akY n b (a%b) a (by omega) (by omega) (by omega);rw[List.getLast?_cons];simp only[axi];rw[V,azo b,<-aAp,azo]
def lx.ok(a:lx):Bool:=decide (1<=a.D)&&decide (a.D<=1073741824)&&decide (-1073741824<=a.N)&&decide (a.N<=1073741824)&&(ayR a.N.natAbs a.D.natAbs==1)
def fJ(x y:Int):Int:=if x<y then-1 else if y<x then 1 else 0
def lx.cmp(a b:lx):Int:=fJ (a.N*b.D) (b.N*a.D)
end Go.Proofs.YtieaiocljdpebaaGreatDoor.K
namespace Go.Proofs.YtieaiocljdpebaaGreatDoor
open Go.RowKit
section
def avn{P:Program}{w:World}(Z:Array TypeId)(t:TypeId)(x y:Int):(Builtin.max_ Z t #[.int .u64 x,.int .u64 y]).run P w=.ok (.int .u64 (max x y)) w:=by
 simp[Builtin.max_,Builtin.max2];omega
attribute[go_sem high] avn
def aaA(w:World)(b:Nat):Nat:=match w.cell? ⟨b,0,none⟩ with|some (.int _ n)=>n.toNat|_=>0
def akZ{w:World}{b:Nat}{t:TypeId}{n:Nat}{k:IntKind}(h:Bx w b t #[.int k n]):aaA w b=n:=by
 unfold aaA;rw[h.cell 0];simp
set_option maxHeartbeats 2000000 in
def asp (a b X Z:Nat) (g:0<b) (f:a<4611686018427387904) (d:b<4611686018427387904) (hne:X≠Z):
  akV Tryz.prog 359 #[.pointer (some ⟨X,0,none⟩),.pointer (some ⟨Z,0,none⟩)] (λx:Nat=> #[.int .u64 x]) (K.rK (b+1) a b) [X,Z]
   (λ(s:Nat×Nat) W=>Bx W X 205 #[.int .u64 s.1]/\Bx W Z 205 #[.int .u64 s.2]) (a,b):=by
 intro n l J Jx Jp W A z w c af;obtain⟨B1,B2⟩:=af;refine callsIn_of_wp Tryz.func359 rfl trivial ?_ rfl;simp only[Tryz.ntmps359,axQ,axm,ayj,Nat.reduceAdd,Nat.reduceSub,az3,az4,aAo,ayB,awX,awV];generalize v:K.rK (b+1) a b=xs at*;have ag:=Lib.hid v;clear v;have HJ:=Lib.hid A;clear A;have a1:=Lib.hid z;clear z;have u:=Lib.hid w;clear w
 gi_wp2
 gi_loopw [4] (λ_ wr=>∃(V:List Nat)(x y m:Nat),J V wr/\Bx wr X 205 #[.int .u64 x]/\Bx wr Z 205 #[.int .u64 y]/\xs=V++K.rK m x y/\0<y/\y<m/\x<4611686018427387904/\y<4611686018427387904) (λ_ wr=>aaA wr Z)
 case atStart=>exact⟨[],a,b,b+1,c,B1,B2,by simp[ag.out],g,by omega,f,d⟩
 case round=>
  obtain⟨V,x,y,m,t,q,M,p,an,a2,a3,a4⟩:=hrel;have R:=Lib.hid p;clear p;have L:=q.cell;have I:=M.cell;by_cases Q:x=0
  ·subst Q
   gi_wp2
   refine⟨λ_ h=>(by cases h), ?_⟩
   gi_wp2
   go_end0
   exact .inl ⟨_,rfl,.inl (by rw[R.out];obtain⟨m,rfl⟩:∃H,m=H+1:=⟨m-1,by omega⟩;simpa[K.rK] using t)⟩
  ·obtain⟨m,rfl⟩:∃H,m=H+1:=⟨m-1,by omega⟩;have a5:((x:Int)!=0)=true:=by simp;omega
   obtain⟨fn,tmps,assign,body,G,hR⟩:=u.out V x wr (x,y) t ⟨q,M⟩ (by rw[R.out];simp[K.rK,Q])
   gi_wp2
   refine⟨by simp[Fence.wide],(akU hR).mono ?_⟩;clear hR G L I;rintro e W3 (⟨rfl,o,P,D2⟩|⟨rfl,F⟩|⟨E,rfl,D⟩)
   ·have L:=P.cell;have I:=D2.cell;have f1:=P.free;have f2:=D2.free;have a6:max (y:Int) 1=y:=by omega
    gi_wp2
    gi_region
    rw[show((x:Int)%(y:Int))=((x%y:Nat):Int) from rfl];have a7:=ayI x an;generalize k:x%y=r at*;have C:=Lib.hid k;clear k;obtain⟨U,O⟩:∃U,U=((W3.setCell ⟨X,0,none⟩ (.int .u64 y)).setCell ⟨Z,0,none⟩ (.int .u64 r)).drew:=⟨_,rfl⟩;have B:Bx U X 205 #[.int .u64 y]:=by rw[O];exact((P.set _).other hne _).drew
    have N:Bx U Z 205 #[.int .u64 r]:=by rw[O];exact((D2.other (Ne.symm hne) _).set _).drew
    have j:J (V++[x]) U:=HJ.out _ _ _ o (by rw[O];exact(((bS.refl _ _).setCell (by simp) _).setCell (by simp) _).drew);rw[<-O];clear O L I f1 f2 P D2 o;have e1:=B.cell;have e2:=N.cell;by_cases i:r=0
    ·subst i;obtain⟨fn,tmps,assign,body,G,hR⟩:=u.out (V++[x]) y U (y,0) j ⟨B,N⟩ (by rw[R.out];simp[K.rK,Q,C.out])
     gi_wp2
     refine⟨by simp[Fence.wide],(akU hR).mono ?_⟩;clear hR G e1 e2;rintro e W5 (⟨rfl,a0,P,D2⟩|⟨rfl,F⟩|⟨E,rfl,D⟩)
     ·gi_wp2
      refine bodyPost_ret (results_none rfl _ _ _) rfl ?_;exact .inl ⟨_,rfl,.inl (by rw[R.out];simpa[K.rK,Q,C.out] using a0)⟩
     ·gi_wp2
      refine bodyPost_ret (results_none rfl _ _ _) rfl ?_;exact .inl ⟨_,rfl,.inr F⟩
     refine⟨rfl,.inr ⟨E,rfl,D⟩⟩
    ·have a8:((r:Int)==0)=false:=by simp;omega
     gi_wp2
     go_roundw
     case rel=>exact⟨V++[x],y,r,m,j,B,N,by rw[R.out];simp[K.rK,Q,C.out,i],by omega,by omega,by omega,by omega⟩
     case measure=>rw[akZ N,akZ M];omega
   ·gi_wp2
    go_end0
    exact .inl ⟨_,rfl,.inr F⟩
   refine⟨rfl,.inr ⟨E,rfl,D⟩⟩
def asq(a b:Nat)(w:World):
  Calls Tryz.prog 321 #[.int .u64 a,.int .u64 b] w λe Z=>e=.returned (.func (.func 359) #[] #[.pointer (some ⟨w.heap.size,0,none⟩),.pointer (some ⟨w.heap.size+1,0,none⟩)])/\Z=(w.alloc (.cells #[.int .u64 a] 205)).alloc (.cells #[.int .u64 b] 205):=by
 go_enter Tryz.func321,Tryz.ntmps321;go_wp2;go_ret;exact⟨rfl,rfl⟩
def asr(a b:Nat)(w:World)(Z:0<b)(M:a<4611686018427387904)(L:b<4611686018427387904):
  Calls Tryz.prog 275 #[.int .u64 a,.int .u64 b] w λe P=>e=.returned (.int .u64 (ayR a b))/\Below w.heap.size w P:=by
 have A:((b:Int)==0)=false:=by simp;omega
 refine asj Tryz.func275 rfl ?_;simp only[Tryz.ntmps275,axQ,axm,ayj,Nat.reduceAdd,Nat.reduceSub,az3,az4,aAo,ayB,awX,awV];refine LZ ?_;go_wp2;refine LZ ?_;go_wp2;refine LZ ?_;go_wp2;refine akX ?_;refine LZ ?_
 go_wp2_with (go_at_call 321;refine(asq _ _ _).mono ?_;rintro e P ⟨rfl,rfl⟩)
 refine ash ?_;have O:((K.rK (b+1) a b).getLast?).getD b=ayR a b:=by
  by_cases h:a=0;subst h;simp[K.rK];exact K.akY _ _ _ _ (by omega) Z h
 have J:=Lib.hid O;clear O;obtain⟨V,U⟩:∃V,V=((w.alloc (.cells #[.int .u64 (b:Int)] 205)).alloc (.cells #[.int .u64 (a:Int)] 205)).alloc (.cells #[.int .u64 (b:Int)] 205):=⟨_,rfl⟩;have N:V.heap.size=w.heap.size+1+1+1:=by rw[U];simp
 have I:Bx V w.heap.size 205 #[.int .u64 (b:Int)]:=by rw[U];exact((Bx.new w _ _).alloc _).alloc _
 have H:Bx V (w.heap.size+1) 205 #[.int .u64 (a:Int)]:=by rw[U];have:=(Bx.new (w.alloc (.cells #[.int .u64 (b:Int)] 205)) #[.int .u64 (a:Int)] 205).alloc (.cells #[.int .u64 (b:Int)] 205);simpa using this
 have G:Bx V (w.heap.size+1+1) 205 #[.int .u64 (b:Int)]:=by rw[U];have:=Bx.new ((w.alloc (.cells #[.int .u64 (b:Int)] 205)).alloc (.cells #[.int .u64 (a:Int)] 205)) #[.int .u64 (b:Int)] 205;simpa using this
 have F:Below w.heap.size w V:=by rw[U];(repeat' first|with_reducible apply ma|with_reducible apply vw|with_reducible apply BT|with_reducible apply rH|with_reducible exact Below.refl _ _|(dsimp only;omega)|(simp;done)|(simp;omega))
 rw[<-U];clear U;have X:=Lib.hid N;clear N;refine asl Tryz.func275 [w.heap.size] [w.heap.size+1,w.heap.size+1+1] _ (a,b)
  (λQ W=>Bx W w.heap.size 205 #[.int .u64 ((Q.getLast?).getD b:Nat)]/\Below w.heap.size w W) (λ_ _=>False) (λ_ _=>False)
  rfl (enters_of Tryz.func359 (by kernel_rfl) rfl) (asp a b (w.heap.size+1) (w.heap.size+1+1) Z M L (by omega)) (λ_=>rfl) ?hIT ?hI ?hIx ?hS ?hT ?h0 ⟨H,G⟩
  (λx=>{tmps:= #[.int .u64 a,.int .u64 b,undef,undef,.pointer (some ⟨w.heap.size,0,none⟩),.int .u64 x,.int .u64 b,.bool false,undef,.int .u64 b,.int .u64 a,.int .u64 b,.func (.func 359) #[] #[.pointer (some ⟨w.heap.size+1,0,none⟩),.pointer (some ⟨w.heap.size+1+1,0,none⟩)],.int .u64 x,undef,undef],defers:=[]}) ?assign ?body ?done ?stop ?aS
 case hIT=>rintro s W W' ⟨E,D⟩ R;exact⟨E.only R (by have:=X.out;simp<;>omega),D.only R (by have:=X.out;simp<;>omega)⟩
 case hI=>rintro Q W W' ⟨C,Z⟩ R;exact⟨C.only R (by have:=X.out;simp<;>omega),alO Z Z.size R (by have:=X.out;simp<;>omega)⟩
 case hIx=>exact λ_ _ _ h _=>h
 case hS=>have:=X.out;simp<;>omega
 case hT=>have:=X.out;simp<;>omega
 case h0=>exact⟨I,F⟩
 case assign=>
  intro x W K hK
  gi_wp2
  exact hK
 case body=>
  rintro Q x W s ⟨C,Z⟩ _ _ _;have c:=C.cell;have f:=C.free
  gi_wp2
  exact⟨(bS.refl _ _).setCell (by simp) _,by have:=C.set (i:=0) (.int .u64 x);simpa using this,rH Z (by simp) _⟩
 case done=>
  rintro W ⟨C,Z⟩ hK;rw[J.out] at C;have c:=C.cell;have f:=C.free;refine LZ ?_;go_wp2;refine akW ?_;go_wp2;apply aso (v:=.int .u64 (ayR a b)) (b:=w.heap.size)
  case hK=>exact(Below.heap_setCell _ _ _ _ (by have:=X.out;dsimp only;omega)).trans hK
  case B=>exact C.set _
  case hne=>have:=X.out;omega
  case hres=>intro W' B;have c:=B.cell;simp[results,Tryz.results275,go_sem,c]
  case hR=>exact⟨rfl,asm (rH Z (by simp) _) (by have:=X.out;omega) _⟩
 case stop=>rintro c W h;exact h.elim
 case aS=>rintro c W h;exact h.elim
end
end Go.Proofs.YtieaiocljdpebaaGreatDoor
namespace Go.Proofs.YtieaiocljdpebaaGreatDoor.K
structure Range where
 Lo:Int
 Hi:Int
 deriving DecidableEq
structure gh where
 X:Range
 Y:Range
 deriving DecidableEq
structure Vec where
 X:Int
 Y:Int
 Z:Int
 deriving DecidableEq
def gh.zero:gh:=⟨⟨0,0⟩,⟨0,0⟩⟩
def vx(m:Int)(xs:List Int):Bool:=xs.all λn=> !(n< -m||n>m)
def gh.valid(b:gh):Bool:=vx 1099511627776 [b.X.Lo,b.X.Hi,b.Y.Lo,b.Y.Hi]&&decide (b.X.Lo<=b.X.Hi)&&decide (b.Y.Lo<=b.Y.Hi)
def Range.oW(x y:Range):Bool:=decide (x.Lo<=y.Hi)&&decide (y.Lo<=x.Hi)
def gh.oW(a b:gh):Bool:=a.X.oW b.X&&a.Y.oW b.Y
def gh.shift(a:gh)(x y:Int):gh:=⟨⟨a.X.Lo+x,a.X.Hi+x⟩,⟨a.Y.Lo+y,a.Y.Hi+y⟩⟩
def ast(m:Int)(xs:List Int)(k:Nat)(h:k<xs.length):vx m (xs.take (k+1))=(vx m (xs.take k)&& !(xs[k]< -m||xs[k]>m)):=by
 unfold vx;rw[List.take_succ_eq_append_getElem h,List.all_append];simp
def asu{m:Int}{xs:List Int}{k:Nat}(h:vx m (xs.take k)=false):vx m xs=false:=by
 unfold vx at*;rw[List.all_eq_false] at*;obtain⟨x,Z,h⟩:=h;exact⟨x,axL Z,h⟩
end Go.Proofs.YtieaiocljdpebaaGreatDoor.K
namespace Go.Proofs.YtieaiocljdpebaaGreatDoor
open Go.RowKit
section
abbrev K.Range.v(x:K.Range):Value:=.agg #[.int .i64 x.Lo,.int .i64 x.Hi]
abbrev K.gh.v(x:K.gh):Value:=.agg #[.int .i64 x.X.Lo,.int .i64 x.X.Hi,.int .i64 x.Y.Lo,.int .i64 x.Y.Hi]
def K.gh.vs(x:K.gh):List Value:=[.int .i64 x.X.Lo,.int .i64 x.X.Hi,.int .i64 x.Y.Lo,.int .i64 x.Y.Hi]
set_option maxHeartbeats 400000 in
def asv (m:Int) (v:Value) (xs:List Int) (w:World) (G:0<=m) (F:m<=4611686018427387904) (M:Sl Sx 1 w v xs):
  Calls Tryz.prog 131 #[.int .i64 m,v] w λe L=>e=.returned (.bool (K.vx m xs))/\w=L:=by
 obtain⟨a,Z,cap,rfl,W,E,D,V⟩:=M;have J:=Lib.hid V;clear V;have U:=Lib.hid W;clear W;go_enter Tryz.func131,Tryz.ntmps131;go_wp2
 go_loop [9] (λi=>∃k:Nat,k<=Z/\i=.int .i64 k/\K.vx m (xs.take k)=true) (λi=>Z-(intOf i).toNat)
 case atStart=>exact⟨0,axN _,rfl,rfl⟩
 case round=>
  obtain⟨k,C,rfl,R⟩:=hrel;have X:=Lib.hid R;clear R;by_cases I:k<Z
  ·have Q:k<xs.length:=by rw[U.out];exact I
   have P:=K.ast m xs k Q;have O:=Lib.hid P;clear P;obtain⟨b,off,rfl,B,N⟩:=J.out k Q;have H:=N 0 (by omega);clear N;simp only[Sx,axz,ax1,Nat.mul_one] at H;generalize xs[k]=y at*;go_wp2
   all_goals first
    |(go_ret;exact⟨Ir (K.asu (k:=k+1) (by rw[O.out,X.out];simp<;>omega)).symm,rfl⟩)
    |(go_round
      case rel=>exact⟨k+1,by omega,by go_num,by rw[O.out,X.out];simp<;>omega⟩
      case measure=>simp[intOf];omega)
  ·go_wp2;go_ret;exact⟨Ir (by rw[<-X.out,axX (by rw[U.out];omega)]),rfl⟩
set_option maxHeartbeats 400000 in
def L4 (x:K.gh) (r:Bool) (V:x.valid=r) (w:World):
  Calls Tryz.prog 66 #[x.v] w λe Z=>e=.returned (.bool r)/\Below w.heap.size w Z:=by
 subst V;have U:Sl Sx 1 ((w.alloc (.cells #[.int .i64 x.X.Lo,.int .i64 x.X.Hi,.int .i64 x.Y.Lo,.int .i64 x.Y.Hi] 143)).alloc (.cells #[.int .i64 x.X.Lo,.int .i64 x.X.Hi,.int .i64 x.Y.Lo,.int .i64 x.Y.Hi] 3)) (.slice (some ⟨w.heap.size+1,0,none⟩) 4 4) [x.X.Lo,x.X.Hi,x.Y.Lo,x.Y.Hi]:=by
  refine⟨_,_,_,rfl,rfl,by omega,by omega,λi hi=>⟨w.heap.size+1,0,rfl,by simp,λj R=> ?_⟩⟩;obtain rfl:j=0:=by omega
  simp at hi;rcases i with _|_|_|_|i<;>first|omega|simp[Sx,go_sem]
 cases W:K.vx 1099511627776 [x.X.Lo,x.X.Hi,x.Y.Lo,x.Y.Hi]
 all_goals
  go_enter Tryz.func66,Tryz.ntmps66
  go_wp2_with (go_at_call 131;refine(asv _ _ _ _ (by omega) (by omega) U).mono ?_;rw[W];rintro e Z ⟨rfl,rfl⟩)
  all_goals(go_ret;exact⟨Ir (by simp[K.gh.valid,W]<;>omega),ma (ma (Below.refl _ _) _) _⟩)
set_option maxHeartbeats 400000 in
def aaB (x y:K.Range) (r:Bool) (Z:x.oW y=r) (w:World):
  Calls Tryz.prog 73 #[x.v,y.v] w λe X=>e=.returned (.bool r)/\Below w.heap.size w X:=by
 subst Z;by_cases W:x.Lo<=y.Hi
 all_goals
  go_enter Tryz.func73,Tryz.ntmps73;go_wp2
  all_goals(go_ret;exact⟨Ir (by simp[K.Range.oW]<;>omega),ma (ma (Below.refl _ _) _) _⟩)
set_option maxHeartbeats 400000 in
def asw (a b:K.gh) (w:World):
  Calls Tryz.prog 67 #[a.v,b.v,.func (.func 73) #[] #[]] w λe Q=>e=.returned (.bool (a.oW b))/\Below w.heap.size w Q:=by
 cases V:a.X.oW b.X
 ·have Z:=Lib.hid V;clear V;go_enter Tryz.func67,Tryz.ntmps67
  go_wp2_with (go_at_call 73;refine(aaB ⟨_,_⟩ ⟨_,_⟩ false Z.out _).mono ?_;rintro e P ⟨rfl,W⟩;obtain⟨O,N⟩:=akT W)
  go_ret;exact⟨Ir (by simp[K.gh.oW,Z.out]),rI (ma (ma (Below.refl _ _) _) _) W⟩
 ·have Z:=Lib.hid V;clear V;cases U:a.Y.oW b.Y
  all_goals
   have R:=Lib.hid U;clear U;go_enter Tryz.func67,Tryz.ntmps67
   go_wp2_with fail
   refine(aaB ⟨_,_⟩ ⟨_,_⟩ true Z.out _).mono ?_;rintro e P ⟨rfl,W⟩;obtain⟨O,N⟩:=akT W
   go_wp2_with fail
   refine(aaB ⟨_,_⟩ ⟨_,_⟩ _ R.out _).mono ?_;rintro e L ⟨rfl,M⟩;go_wp2;go_ret;exact⟨Ir (by simp[K.gh.oW,Z.out,R.out]),rI (rI (ma (ma (Below.refl _ _) _) _) W) M⟩
def asx{P:Program}{id:Nat}{Q:Exit->Act->World->Prop}{a:Act}{w:World}{l:List Oper}(n:Nat)(Z:P.follows .mixedOrders=true)(X:Region.lexTailB .any l.toArray n=true)
  (h:wpStill P l.toArray w.drew (λa'=>wpList P l.toArray Q (l.drop n) a' w.drew) (l.take n) a):(Code.region id l.toArray true).wp P Q a w:=
 wp_region_still_tail n Z X h
abbrev K.Vec.v(x:K.Vec):Value:=.agg #[.int .i64 x.X,.int .i64 x.Y,.int .i64 x.Z]
set_option maxHeartbeats 1000000 in
def asy (a b:K.gh) (U:a.valid=true) (R:b.valid=true) (r:Bool) (Q:a.oW b= !r) (w:World):
  Calls Tryz.prog 26 #[a.v,b.v] w λe P=>e=.returned (.tuple #[.bool r,.int .i64 0])/\Below w.heap.size w P:=by
 have O:=Lib.hid U;clear U;have N:=Lib.hid R;clear R;have M:=Lib.hid Q;clear Q;go_enter Tryz.func26,Tryz.ntmps26
 go_wp2_with fail
 refine(L4 ⟨⟨_,_⟩,⟨_,_⟩⟩ true O.out _).mono ?_;rintro e I ⟨rfl,X⟩;have W:=((Bx.new w _ _).alloc _).below X;have Z:=(Bx.new (w.alloc _) _ _).below X;simp only[World.size_alloc] at Z;have L:=Z.cell
 go_wp2_with fail
 refine(L4 ⟨⟨_,_⟩,⟨_,_⟩⟩ true N.out _).mono ?_;rintro e H ⟨rfl,V⟩;replace W:=W.below V;replace Z:=Z.below V;have G:=W.cell;have L:=Z.cell
 go_wp2_with fail
 refine(asw ⟨⟨_,_⟩,⟨_,_⟩⟩ ⟨⟨_,_⟩,⟨_,_⟩⟩ _).mono ?_;rw[show K.gh.oW ⟨⟨_,_⟩,⟨_,_⟩⟩ ⟨⟨_,_⟩,⟨_,_⟩⟩= !r from M.out];rintro e F ⟨rfl,J⟩;go_wp2
 go_ret2
 refine⟨by simp, ?_⟩
 repeat' first|with_reducible apply ma|with_reducible apply vw|(with_reducible refine rH ?_ (by dsimp only;omega) _)|with_reducible exact Below.refl _ _|(refine rI ?_ J)|(refine rI ?_ V)|(refine rI ?_ X)
end
def ak1{x y m n:Int}(k:Int)(Z:m*n=k)(X:0<=m)(W:0<=n)(R:-m<=x/\x<=m)(Q:-n<=y/\y<=n):-k<=x*y/\x*y<=k:=by
 have V:x.natAbs<=m.natAbs:=by omega
 have U:y.natAbs<=n.natAbs:=by omega
 have P:(x*y).natAbs<=m.natAbs*n.natAbs:=by rw[Int.natAbs_mul];exact azW V U
 have O:((m.natAbs*n.natAbs:Nat):Int)=k:=by rw[<-Int.natAbs_mul,Z];have:=Int.mul_nonneg X W;omega
 omega
section
abbrev K.lx.v(x:K.lx):Value:=.agg #[.int .i64 x.N,.int .i64 x.D]
def asz(n:Int)(Z:-4611686018427387904<n)(h:n<0):IntKind.u64.wrap (-IntKind.u64.wrap n)=n.natAbs:=by
 simp only[IntKind.wrap_u64];omega
def asA(n:Int)(w:World)(Z:-4611686018427387904<n)(W:n<4611686018427387904):
  Calls Tryz.prog 276 #[.int .i64 n] w λe X=>e=.returned (.int .u64 n.natAbs)/\w=X:=by
 by_cases h:n<0
 ·go_enter Tryz.func276,Tryz.ntmps276;go_wp2;go_ret;exact⟨Sy (asz n Z h),rfl⟩
 ·go_enter Tryz.func276,Tryz.ntmps276;go_wp2;go_ret;exact⟨Sy (by omega),rfl⟩
def asB(a:K.lx)(O:a.D<1\/1073741824<a.D\/a.N< -1073741824\/1073741824<a.N)(w:World):
  Calls Tryz.prog 210 #[a.v] w λe V=>e=.returned (.int .i64 120)/\Below w.heap.size w V:=by
 by_cases Z:a.D<1
 ·have U:decide (a.D<1)=true:=by simp[Z]
  go_enter Tryz.func210,Tryz.ntmps210;go_wp2
  go_quiet (fail)
  go_wp2;go_ret;exact⟨rfl,by(repeat' first|with_reducible apply ma|with_reducible apply vw|with_reducible apply BT|with_reducible apply rH|with_reducible exact Below.refl _ _|(dsimp only;omega)|(simp;done)|(simp;omega))⟩
 have U:decide (a.D<1)=false:=by simp[Z]
 by_cases X:1073741824<a.D
 ·have R:decide (1073741824<a.D)=true:=by simp[X]
  go_enter Tryz.func210,Tryz.ntmps210;go_wp2
  go_quiet (fail)
  go_wp2;go_ret;exact⟨rfl,by(repeat' first|with_reducible apply ma|with_reducible apply vw|with_reducible apply BT|with_reducible apply rH|with_reducible exact Below.refl _ _|(dsimp only;omega)|(simp;done)|(simp;omega))⟩
 have R:decide (1073741824<a.D)=false:=by simp[X]
 by_cases W:a.N< -1073741824
 ·have Q:decide (a.N< -1073741824)=true:=by simp[W]
  go_enter Tryz.func210,Tryz.ntmps210;go_wp2
  go_quiet (fail)
  go_wp2;go_ret;exact⟨rfl,by(repeat' first|with_reducible apply ma|with_reducible apply vw|with_reducible apply BT|with_reducible apply rH|with_reducible exact Below.refl _ _|(dsimp only;omega)|(simp;done)|(simp;omega))⟩
 ·have Q:decide (a.N< -1073741824)=false:=by simp[W]
  have P:1073741824<a.N:=by omega
  have M:decide (1073741824<a.N)=true:=by simp[P]
  go_enter Tryz.func210,Tryz.ntmps210;go_wp2
  go_quiet (fail)
  go_wp2;go_ret;exact⟨rfl,by(repeat' first|with_reducible apply ma|with_reducible apply vw|with_reducible apply BT|with_reducible apply rH|with_reducible exact Below.refl _ _|(dsimp only;omega)|(simp;done)|(simp;omega))⟩
set_option maxRecDepth 100000 in
set_option maxHeartbeats 2000000 in
def asC (a:K.lx) (r:Bool) (X:(ayR a.N.natAbs a.D.natAbs==1)=r) (Q:1<=a.D) (P:a.D<=1073741824) (O:-1073741824<=a.N) (M:a.N<=1073741824) (w:World):
  Calls Tryz.prog 210 #[a.v] w λe U=>e=.returned (.int .i64 (if r then 0 else 120))/\Below w.heap.size w U:=by
 obtain⟨N,D⟩:=a;dsimp only at*;obtain⟨d,rfl⟩:=Int.eq_ofNat_of_zero_le (show 0<=D by omega);simp only[Int.natAbs_natCast] at X;have L:decide ((d:Int)<1)=false:=by simp;omega
 have J:decide (1073741824<(d:Int))=false:=by simp;omega
 have I:decide (N< -1073741824)=false:=by simp;omega
 have H:decide (1073741824<N)=false:=by simp;omega
 obtain⟨g,Z⟩:∃g,ayR N.natAbs d=g:=⟨_,rfl⟩;rw[Z] at X;have W:=Lib.hid X;clear X;have R:=Lib.hid Z;clear Z;go_enter Tryz.func210,Tryz.ntmps210;go_wp2;refine asx 25 (by kernel_rfl) (by kernel_rfl) ?_;simp only[List.take_succ_cons,List.take_zero,az9,azt]
 repeat still_step
 still_call ((asA _ _ (by omega) (by omega)).mono λ_ _ h=>⟨h.1,h.2.symm⟩)
 repeat still_step
 refine wpStill_nil ?_
 go_wp2_with fail
 refine(asr N.natAbs d _ (by omega) (by omega) (by omega)).mono ?_;rw[R.out];rintro e G ⟨rfl,V⟩;by_cases Z:g=1
 ·subst Z;obtain rfl:r=true:=by rw[<-W.out];simp
  go_wp2;go_ret;exact⟨rfl,by(repeat' first|with_reducible apply ma|with_reducible apply vw|with_reducible apply BT|with_reducible apply rH|with_reducible exact Below.refl _ _|(refine rI ?_ V)|(dsimp only;omega)|(simp;done)|(simp;omega))⟩
 ·obtain rfl:r=false:=by rw[<-W.out];simp[Z]
  have F:((g:Int)!=1)=true:=by simp;omega
  go_wp2;go_ret;exact⟨rfl,by(repeat' first|with_reducible apply ma|with_reducible apply vw|with_reducible apply BT|with_reducible apply rH|with_reducible exact Below.refl _ _|(refine rI ?_ V)|(dsimp only;omega)|(simp;done)|(simp;omega))⟩
def ak2(a:K.lx)(r:Bool)(Z:a.ok=r)(w:World):
  Calls Tryz.prog 210 #[a.v] w λe R=>e=.returned (.int .i64 (if r then 0 else 120))/\Below w.heap.size w R:=by
 by_cases h:1<=a.D/\a.D<=1073741824∧-1073741824<=a.N/\a.N<=1073741824;obtain⟨X,W,V,U⟩:=h;exact asC a r (by rw[<-Z];simp[K.lx.ok,X,W,V,U]) X W V U w;obtain rfl:r=false:=by
  rw[<-Z];simp only[K.lx.ok,azh,decide_eq_false_iff_not];omega
 exact asB a (by omega) w
def ak3(x y:Int)(w:World):Calls Tryz.prog 110 #[.int .i64 x,.int .i64 y] w λe Z=>e=.returned (.int .i64 (K.fJ x y))/\w=Z:=by
 by_cases X:x<y
 ·go_enter Tryz.func110,Tryz.ntmps110;go_wp2
  all_goals(go_ret;exact⟨Sy (by simp[K.fJ,X]),rfl⟩)
 ·go_enter Tryz.func110,Tryz.ntmps110;go_wp2
  all_goals(go_ret;exact⟨Sy (by simp[K.fJ]<;>omega),rfl⟩)
def ak4{a:K.lx}(h:a.ok=true):(1<=a.D/\a.D<=1073741824)/\(-1073741824<=a.N/\a.N<=1073741824):=by
 simp only[K.lx.ok,awF,decide_eq_true_eq] at h;omega
set_option maxHeartbeats 1000000 in
def asD (a b:K.lx) (X:a.ok=true) (W:b.ok=true) (w:World):
  Calls Tryz.prog 142 #[a.v,b.v] w λe O=>e=.returned (.tuple #[.int .i64 (a.cmp b),.int .i64 0])/\Below w.heap.size w O:=by
 have V:=ak4 X;have U:=ak4 W;have N:=ak1 1152921504606846976 (by decide) (by decide) (by decide) V.2 ⟨by omega,U.1.2⟩;have M:=ak1 1152921504606846976 (by decide) (by decide) (by decide) U.2 ⟨by omega,V.1.2⟩;obtain⟨H,G⟩:=N;obtain⟨F,E⟩:=M;clear V U;have L:=Lib.hid X;clear X;have J:=Lib.hid W;clear W;go_enter Tryz.func142,Tryz.ntmps142
 go_wp2_with fail
 refine(ak2 ⟨_,_⟩ true L.out _).mono ?_;rintro e D ⟨rfl,R⟩;have Q:=((Bx.new w _ _).alloc _).below R;have Z:=(Bx.new (w.alloc _) _ _).below R;simp only[World.size_alloc] at Z;have I:=Z.cell
 go_wp2_with fail
 refine(ak2 ⟨_,_⟩ true J.out _).mono ?_;rintro e C ⟨rfl,P⟩;replace Q:=Q.below P;replace Z:=Z.below P;have B:=Q.cell;have I:=Z.cell
 go_wp2_with fail
 refine(ak3 _ _ _).mono ?_;rintro e A ⟨rfl,rfl⟩;go_wp2
 go_ret2
 exact⟨rfl,by(repeat' first|with_reducible apply ma|with_reducible apply vw|with_reducible apply BT|with_reducible apply rH|with_reducible exact Below.refl _ _|(refine rI ?_ P)|(refine rI ?_ R)|(dsimp only;omega)|(simp;done)|(simp;omega))⟩
end
end Go.Proofs.YtieaiocljdpebaaGreatDoor
namespace Go.Proofs.YtieaiocljdpebaaGreatDoor.Y
open Go.RowKit
noncomputable section
section
set_option maxHeartbeats 1000000 in
def asE (a b:K.gh) (Z:a.valid=false) (w:World):Calls Tryz.prog 26 #[a.v,b.v] w λe V=>e=.returned (.tuple #[.bool false,.int .i64 150])/\Below w.heap.size w V:=by
 have U:=Lib.hid Z;clear Z;go_enter Tryz.func26,Tryz.ntmps26
 go_wp2_with fail
 refine(L4 ⟨⟨_,_⟩,⟨_,_⟩⟩ false U.out _).mono ?_;rintro e R ⟨rfl,X⟩;have W:=(Bx.new (w.alloc _) _ _).below X;simp only[World.size_alloc] at W;have Q:=W.cell;go_wp2
 go_ret2
 refine⟨by simp, ?_⟩
 repeat' first|with_reducible apply ma|with_reducible apply vw|(with_reducible refine rH ?_ (by dsimp only;omega) _)|with_reducible exact Below.refl _ _|(refine rI ?_ X)
set_option maxHeartbeats 1000000 in
def asF (a b:K.gh) (U:a.valid=true) (R:b.valid=false) (w:World):Calls Tryz.prog 26 #[a.v,b.v] w λe Q=>e=.returned (.tuple #[.bool false,.int .i64 150])/\Below w.heap.size w Q:=by
 have P:=Lib.hid U;clear U;have O:=Lib.hid R;clear R;go_enter Tryz.func26,Tryz.ntmps26
 go_wp2_with fail
 refine(L4 ⟨⟨_,_⟩,⟨_,_⟩⟩ true P.out _).mono ?_;rintro e M ⟨rfl,X⟩;have W:=((Bx.new w _ _).alloc _).below X;have Z:=(Bx.new (w.alloc _) _ _).below X;simp only[World.size_alloc] at Z;have N:=Z.cell
 go_wp2_with fail
 refine(L4 ⟨⟨_,_⟩,⟨_,_⟩⟩ false O.out _).mono ?_;rintro e L ⟨rfl,V⟩;replace W:=W.below V;replace Z:=Z.below V;have J:=W.cell;have N:=Z.cell;go_wp2
 go_ret2
 refine⟨by simp, ?_⟩
 repeat' first|with_reducible apply ma|with_reducible apply vw|(with_reducible refine rH ?_ (by dsimp only;omega) _)|with_reducible exact Below.refl _ _|(refine rI ?_ V)|(refine rI ?_ X)
end
end
end Go.Proofs.YtieaiocljdpebaaGreatDoor.Y
