/- The law ReadBlanks answers true for every argument; a part of its proof. -/
import Derived.Test.YtjaobihcdkjmbaaGreatDoorBa
import Derived.Test.YtjaobihcdkjmbaaGreatDoorBb
import Derived.Test.YtjaobihcdkjmbaaGreatDoorB0
import Derived.Test.YtjaobihcdkjmbaaGreatDoorB7
import Derived.Test.YtjaobihcdkjmbaaGreatDoorB8
import Derived.Test.YtjaobihcdkjmbaaGreatDoorB9
import Derived.Test.YtjaobihcdkjmbaaGreatDoorB11
import Derived.Test.YtjaobihcdkjmbaaGreatDoorB12
import Derived.Test.YtjaobihcdkjmbaaGreatDoorB13
set_option linter.unusedVariables false
set_option linter.unusedSimpArgs false
namespace Go.Proofs.YtjaobihcdkjmbaaGreatDoor.PReadTokens
end Go.Proofs.YtjaobihcdkjmbaaGreatDoor.PReadTokens
namespace Go.Proofs.YtjaobihcdkjmbaaGreatDoorW.PrintWords
end Go.Proofs.YtjaobihcdkjmbaaGreatDoorW.PrintWords
set_option maxRecDepth 100000
set_option maxHeartbeats 8000000
section
namespace Go.Proofs.YtjaobihcdkjmbaaGreatDoor
open Go.RowKit Go.Proofs.YtjaobihcdkjmbaaGreatDoorW.PrintWords Go.Proofs.YtjaobihcdkjmbaaGreatDoor.PReadTokens
theorem extract_whole (s:ByteArray):s.extract 0 s.size=s:=by
 apply kBX;rw[← kBV,kBp];exact kBw (kA2 _)
theorem chunks1_in (n l:Nat) (box:Addr) (s:ByteArray) (h0:0<s.size) (h1:s.size≤9) (W:World) (J:World→Prop) (hbox:W.cell? box=some (.string s))
  (hY:YieldAt Fence.wide (n-1) Tryz.prog l #[.string s] W fun e B=>e=.returned (.bool true)∧J B∧B.cell? box=some (.string s)∧B.frozen? box=false) :
  CallsIn Fence.wide n Tryz.prog 257 #[.func (.yield l) #[] #[],.pointer (some box)] W fun e W'=>e=.returned (.tuple #[])∧∃B,J B∧W'=B.setCell box (.string ⟨#[]⟩):=by
 have hD:Fence.wide.depth.isSome=false:=rfl;obtain⟨fn,tmps,assign,body,hy,hR⟩:=hY;have hmax:max 0 ((s.size:Int)-9)=0:=kCT
 have hex:=extract_whole s;have hex0:s.extract 0 0=⟨#[]⟩:=by apply kBX;rw[← kBV,kBp];simp
 have hpos:decide (0<(s.size:Int))=true:=kA7 kCT;refine kCu Tryz.func257 rfl trivial ?_ rfl;simp only[Tryz.ntmps257,kAc,List.length_cons,List.length_nil,Nat.reduceAdd,Nat.reduceSub,kAY,Array.replicate_zero,kBj,kAP,List.nil_append,List.cons_append]
 gi_wp2
 gi_loopg [] 1 (fun k wr=>(k=1∧wr=W)∨(k=0∧∃B,J B∧wr=B.setCell box (.string ⟨#[]⟩)∧wr.cell? box=some (.string ⟨#[]⟩)))
 case atStart=>exact .inl ⟨rfl,rfl⟩
 case round =>
  rcases hrel with⟨rfl,rfl⟩ | ⟨rfl,B,hJ,rfl,hc⟩
  ·gi_wp2
   refine hR.mono ?_;rintro e B ⟨rfl,hJ,hb,hf⟩;clear hR hy hbox
   gi_wp2
   gi_roundg 0
   case measure=>omega
   case rel=>exact .inr ⟨rfl,B,hJ,rfl,World.cell?_setCell_same _ _ _ hb⟩
  ·gi_wp2
   exact kBd (kB0 rfl _ _ _) rfl ⟨rfl,B,hJ,rfl⟩
def chunkPost (bb:Nat) (I:World→Prop) (W:World):Exit→Act→World→Prop
 | .normal,_,W'=>KeepsOthers W W'∧I W'∧W'.heap[bb]?=W.heap[bb]?
 | _,_,_=>False
theorem zFa {n:Nat} {g:Operand} {p:Tmp} {assign body:Code} {Q:Exit→Act→World→Prop} {a:Act} {w:World} {bb:Nat} {s:ByteArray} (tm:Array Value)
  (hg:a.eval g=.func (.func 257) #[] #[.pointer (some ⟨bb,0,none⟩)]) (h0:0<s.size) (h1:s.size≤9) (hbox:w.heap[bb]?=some (.cells #[.string s] 9 (0,0)))
  (I:World→Prop) (hI:∀A B k,I A→(k=w.heap.size+1∨k=bb)→A.grownBy B (some k)→I B)
  (hassign:∀(l:Nat) (A:World) (K:Act→World→Prop),K { tmps:=tm,defers:=[] } A →
   assign.wpIn (Fence.wide.inRound l) (n-1-1) Tryz.prog (Exit.then K (fun _ _ _=>False)) { tmps:=a.tmps.setIfInBounds p (.string s),defers:=[] } A)
  (hbody:∀(W0:World),w.grownBy W0 none→W0.heap.size=w.heap.size+2 →
   body.wpIn (Fence.wide.inRound (w.heap.size+1)) (n-1-1) Tryz.prog (chunkPost bb I W0) { tmps:=tm,defers:=[] } W0)
  (hdone:∀(W:World),I W→W.heap[w.heap.size]?=some (.deferred (some []))→Q .normal { a with defers:={ target:=.collected w.heap.size,args:=#[] } :: a.defers } W) :
  (Code.rangeFunc g #[p] assign body).wpIn Fence.wide n Tryz.prog Q a w:=by
 refine wpIn_rangeFunc ?_;intro fn _;obtain⟨rec,hrec⟩:∃rec:LoopState→Option Code→Loop,rec=fun st pe=>{ state:=st,pending:=pe,fn,tmps:=a.tmps,params:=#[p],assign,body,defers:=w.heap.size }:=⟨_,rfl⟩
 obtain⟨W1,hW1⟩:∃W1,(w.alloc (.deferred (some []))).alloc (.loop (rec .ready none))=W1:=⟨_,rfl⟩;have hsz1:W1.heap.size=w.heap.size+2:=by rw[← hW1];simp
 have hL1:W1.heap[w.heap.size+1]?=some (.loop (rec .ready none)):=by
  rw[← hW1];have:=kBL (w.alloc (.deferred (some []))) (.loop (rec .ready none));rwa [kAz] at this
 have hK1:W1.heap[w.heap.size]?=some (.deferred (some [])):=by
  rw[← hW1];exact (kA4 _ _ _ kCV).trans (kBL w _)
 have hbl:=zA5 hbox;have hg1:w.grownBy W1 none:=by rw[← hW1];exact zCp _ _ _ _
 have hb1:W1.heap[bb]?=some (.cells #[.string s] 9 (0,0)):=(hg1.block _ hbl kCV).trans hbox;refine⟨w.heap.size+1,[{ target:=.collected w.heap.size,args:=#[] }],W1,{ target:=.fn (.func 257) #[.pointer (some ⟨bb,0,none⟩)],args:=#[.func (.yield (w.heap.size+1)) #[] #[]] },W1,257,
  #[.func (.yield (w.heap.size+1)) #[] #[],.pointer (some ⟨bb,0,none⟩)],W1,?_,?_,?_,?_,zEB,?_⟩
 ·rw[← hW1,hrec];exact run_enterLoop_outer _ _ _ _ _
 ·simp only[resolve,hg];simp[go_sem]
 ·intro f' _;trivial
 ·simp only[invoke];simp[go_sem]
 ·refine (chunks1_in (n-1) (w.heap.size+1) ⟨bb,0,none⟩ s h0 h1 W1
   (fun W=>I W∧W.heap[w.heap.size+1]?=some (.loop (rec .ready none))∧W.heap[w.heap.size]?=some (.deferred (some []))) (zA1 hb1 0) ?_).mono ?_
  ·have hy:=run_yield (P:=Tryz.prog) (args:=#[.string s]) hL1 (by rw[hrec];rfl);rw[hrec] at hy;refine⟨fn,_,assign,body,hy,roundIn_of_wpIn trivial ?_⟩;have hzip:(#[p].zip #[Value.string s]).foldl (fun tmps (x:Tmp×Value)=>tmps.setIfInBounds x.1 x.2) a.tmps=a.tmps.setIfInBounds p (.string s):=kCV
   show assign.wpIn _ _ _ _ { tmps:=(#[p].zip #[Value.string s]).foldl (fun tmps (x:Tmp×Value)=>tmps.setIfInBounds x.1 x.2) a.tmps,defers:=[] } _;rw[hzip];refine hassign _ _ _ ?_;refine⟨_,run_beginRound hL1 (by rw[hrec]),?_⟩;obtain⟨W0,hW0⟩:∃W0,W0=W1.putObj (w.heap.size+1) (.loop { rec .ready none with state:=.busy }):=⟨_,rfl⟩;show Code.wpIn _ _ _ body _ _ (W1.putObj (w.heap.size+1) (.loop { rec .ready none with state:=.busy }));rw[← hW0];have hgr0:W1.grownBy W0 (some (w.heap.size+1)):=by rw[hW0];exact zAt _ _ _
   have hz0:W0.heap.size=w.heap.size+2:=by rw[hW0];simp[hsz1]
   have hl2:W0.heap[w.heap.size+1]?=some (.loop { rec .ready none with state:=.busy }):=by rw[hW0];exact kBg (by simp[hsz1])
   have hk2:W0.heap[w.heap.size]?=some (.deferred (some [])):=(hgr0.block _ kCT kCZ).trans hK1;have hb2:W0.heap[bb]?=some (.cells #[.string s] 9 (0,0)):=(hgr0.block _ kCT kCZ).trans hb1;have hgw:w.grownBy W0 none:=⟨hgr0.os.trans hg1.os,hgr0.tape.trans hg1.tape,hgr0.output.trans hg1.output,kAB hg1.size hgr0.size,fun k hk _=>(hgr0.block k kCT kCZ).trans (hg1.block k hk kCV)⟩;refine wpIn_mono (hbody W0 hgw hz0) ?_;rintro e a3 W3 hp
   cases e with
   | normal =>
    obtain⟨hk3,hi3,hbb⟩:=hp;have hl3:=hk3.same _ _ hl2 rfl;have hd3:=hk3.same _ _ hk2 rfl;have hr:=run_endRound (P:=Tryz.prog) none hl3;rw[hrec] at hr hl3;have hb3:(W3.putObj (w.heap.size+1) (.loop (rec .ready none))).heap[bb]?=some (.cells #[.string s] 9 (0,0)):=(kAp kCT).trans (hbb.trans hb2);rw[hrec] at hb3;refine⟨_,_,hr,rfl,⟨hI _ _ _ hi3 (.inl rfl) (zAt _ _ _),?_,(kAp kCT).trans hd3⟩,zA1 hb3 0,zA2 hb3 0⟩;rw[hrec];exact kBg (zA5 hl3)
   | ret=>exact hp.elim
   | exit id=>exact hp.elim
   | goto t=>exact hp.elim
   | panic ch=>exact hp.elim
   | outgrown=>exact hp.elim
  ·rintro e W2⟨rfl,B,⟨hi,hl,hk⟩,rfl⟩;have hl2:(B.setCell ⟨bb,0,none⟩ (.string ⟨#[]⟩)).heap[w.heap.size+1]?=some (.loop (rec .ready none)):=(kA5 _ _ _ _ kCX).trans hl;have hk2:(B.setCell ⟨bb,0,none⟩ (.string ⟨#[]⟩)).heap[w.heap.size]?=some (.deferred (some [])):=(kA5 _ _ _ _ kCX).trans hk;have he:=run_endLoop (P:=Tryz.prog) hl2 kDv;rw[hrec] at he;exact⟨none,_,he,hdone _ (hI _ _ _ (hI _ _ _ hi (.inr rfl) (kAf _ _ _ _)) (.inl rfl) (zAt _ _ _)) ((kAp kCT).trans hk2)⟩
structure Trim (l:List Int) (k:Nat):Prop where
 le:k≤l.length
 zero:∀i (h:i<l.length),k≤i→l[i]=0
 last:∀i (h:i<l.length),k=i+1→l[i]≠0
def madeV (s:Int) (A:Option Addr) (k:Nat):Value:=if k=0 then .agg #[.int .i64 0,.slice none 0 0] else .agg #[.int .i64 s,.slice A k k]
theorem made_calls (s:Int) (A:Addr) (l:List Int) (c:Nat) (w:World) (hc:l.length≤c) (hsm:l.length≤1000000) (hcells:∀i (h:i<l.length),w.cell? (A.add i)=some (.int .u32 l[i])) :
  Calls Tryz.prog 229 #[.int .i64 s,.slice (some A) l.length c] w fun e w'=>∃k,Trim l k∧e=.returned (madeV s (some A) k)∧Below w.heap.size w w':=by
 have HCL:=kA1 hcells;clear hcells;have hb0:Below w.heap.size w (w.alloc (.cells #[.int .i64 0,.slice none 0 0] 234)):=(kA3 _ w).alloc (kA2 _) _;have h0:=zA4 w (.cells #[.int .i64 0,.slice none 0 0] 234);go_enter Tryz.func229,Tryz.ntmps229;go_wp2_with fail;generalize w.alloc (.cells #[.int .i64 0,.slice none 0 0] 234)=X at *;go_loopg [5] l.length (fun m i wr=>m≤l.length∧i=.int .i64 m∧wr=X∧Hid (∀i (h:i<l.length),m≤i→l[i]=0))
 case atStart=>exact⟨kA2 _,rfl,rfl,kA1 (fun i h hk=>by omega)⟩
 case round =>
  obtain⟨hkl,rfl,rfl,HZ⟩:=hrel;have d0:=zA1 h0 0;have d1:=zA1 h0 1;have f0:=zA2 h0 0;have f1:=zA2 h0 1
  cases gk with
  | zero =>
   have HF:Hid (∀s':Int,Trim l 0):=kA1 (fun _=>⟨kAT _,HZ.out,fun i h e=>by omega⟩);go_wp2;refine kAi (zAg Tryz.results229 _ _ w.heap.size 234 _ (0,0) _ rfl (zBP _ _ h0) Tryz.underlying234 rfl zBT) rfl ⟨0,HF.out 0,rfl,(hb0.setCell (p:=⟨w.heap.size,0,none⟩) (kA2 _) _).setCell (p:=⟨w.heap.size,1,none⟩) (kA2 _) _⟩
  | succ k =>
   have hlt:k<l.length:=kCT
   have hcl:=zA0 hb0 (HCL.out k hlt);by_cases hz:l[k]=0
   ·rw[hz] at hcl;have HZ2:Hid (∀i (h:i<l.length),k≤i→l[i]=0):=kA1 (fun i h hk=>by
     by_cases hik:i=k
     ·subst hik;exact hz
     ·exact HZ.out i h kCT)
    clear hz;go_wp2;go_roundg k
    case measure=>omega
    case rel=>exact⟨kCT,by go_num,rfl,HZ2⟩
   ·have HF:Hid (Trim l (k+1)):=kA1 ⟨hkl,HZ.out,fun i h e=>by obtain rfl:i=k:=kCT
                                                              exact hz⟩
    generalize l[k]=y at *;have hy:=zAF hz;have hk1:(((k+1:Nat):Int)==0)=false:=zAF kCT;clear hz;go_wp2;refine kAi (zAg Tryz.results229 _ _ w.heap.size 234 _ (0,0) _ rfl (zBP _ _ h0) Tryz.underlying234 rfl zBT) rfl ⟨k+1,HF.out,by unfold madeV;rw[kA9 kCT],(hb0.setCell (p:=⟨w.heap.size,0,none⟩) (kA2 _) _).setCell (p:=⟨w.heap.size,1,none⟩) (kA2 _) _⟩
theorem num_ne {w:World} {g:Addr} {n a:Int} {R:Nat} {B:Option Addr} {l c:Nat} {t:TypeId} (hg:w.cell? g=some (.int .u32 n)) (hR:w.heap[R]?=some (.cells #[.int .i64 a,.slice B l c] t (0,0))):g.block≠R:=by
 intro e;obtain⟨b,o,sp⟩:=g;simp only at e;subst e;simp only[World.cell?,hR] at hg
 match o with
 | 0=>simp at hg
 | 1=>simp at hg
 | k+2=>simp at hg
structure One (w:World) (n:Int) (v:Value):Prop where
 out:∃g c,1≤c∧v=.agg #[.int .i64 1,.slice (some g) 1 c]∧w.cell? g=some (.int .u32 n)
theorem made_first (A:Addr) (n:Int) (r:List Int) (c:Nat) (w:World) (hn:n≠0) (hr:∀x∈r,x=0) (hc:(n :: r).length≤c) (hsm:(n :: r).length≤1000000) (hcells:∀i (h:i<(n :: r).length),w.cell? (A.add i)=some (.int .u32 (n :: r)[i])) :
  Calls Tryz.prog 229 #[.int .i64 1,.slice (some A) (n :: r).length c] w fun e w'=>∃v,e=.returned v∧One w' n v∧Below w.heap.size w w':=by
 refine (made_calls 1 A (n :: r) c w hc hsm hcells).mono ?_;rintro e w' ⟨k,ht,rfl,hb⟩;have hk:k=1:=by
  rcases kBW k 1 with h | h
  ·exact absurd (ht.zero 0 kCV kCT) hn
  ·rcases kBW 1 k with h2 | h2
   ·obtain⟨j,rfl⟩:∃j,k=j+1:=⟨k-1,kCT⟩;have hl:=ht.le;have:=ht.last j kCT rfl;obtain⟨i,rfl⟩:∃i,j=i+1:=⟨j-1,kCT⟩;exact absurd (hr _ (kAA (by simp at hl;omega))) this
   ·omega
 subst hk;refine⟨_,rfl,⟨A,1,kA2 _,rfl,?_⟩,hb⟩;have:=hcells 0 kCV;rw[kAO] at this;exact zA0 hb this
theorem of1_calls (w:World):Calls Tryz.prog 192 #[.int .i64 1] w fun e w'=>∃v,e=.returned v∧One w' 1 v∧Below w.heap.size w w':=by
 have hb0:Below w.heap.size w ((w.alloc (.cells #[.int .i64 0,.slice none 0 0] 234)).alloc (.cells #[.int .u32 1,.int .u32 0,.int .u32 0] 270)):=((kA3 _ w).alloc (kA2 _) _).alloc kCV _;have h0:((w.alloc (.cells #[.int .i64 0,.slice none 0 0] 234)).alloc (.cells #[.int .u32 1,.int .u32 0,.int .u32 0] 270)).heap[w.heap.size]?=some (.cells #[.int .i64 0,.slice none 0 0] 234 (0,0)):=(kA4 _ _ _ kCV).trans (zA4 w _);have h1:((w.alloc (.cells #[.int .i64 0,.slice none 0 0] 234)).alloc (.cells #[.int .u32 1,.int .u32 0,.int .u32 0] 270)).heap[w.heap.size+1]?=some (.cells #[.int .u32 1,.int .u32 0,.int .u32 0] 270 (0,0)):=zAu _ _ _ kCV;go_enter Tryz.func192,Tryz.ntmps192;go_wp2_with fail;have hm:=made_first ⟨w.heap.size+1,0,none⟩ 1 [0,0] 3 _ kCW kCV (kA2 _) kCV (fun i h=>by
  have:=zA1 h1 i;rw[zC7,this]
  match i,h with
  | 0,_=>rfl
  | 1,_=>rfl
  | 2,_=>rfl)
 simp only[List.length_cons,List.length_nil] at hm;refine hm.mono ?_;rintro e w1 ⟨v,rfl,hv,hb1⟩;have hr:=zA9 hb1 h0;have hbw:=hb0.trans (hb1.mono kCX);obtain⟨g,c,hc,rfl,hg⟩:=hv.out;have d0:=zA1 hr 0;have d1:=zA1 hr 1;have f0:=zA2 hr 0;have f1:=zA2 hr 1;have hne:=num_ne hg hr;go_wp2;have hfar:((w1.setCell ⟨w.heap.size,0,none⟩ (.int .i64 1)).setCell ⟨w.heap.size,1,none⟩ (.slice (some g) 1 c)).cell? g=some (.int .u32 1):=by
  rw[kAy _ _ _ _ (kCo hne),kAy _ _ _ _ (kCo hne)];exact hg
 exact kAi (zAg Tryz.results192 _ _ w.heap.size 234 _ (0,0) _ rfl (zBP _ _ hr) Tryz.underlying234 rfl zBT) rfl ⟨_,rfl,⟨g,c,hc,rfl,hfar⟩,(hbw.setCell (p:=⟨w.heap.size,0,none⟩) (kA2 _) _).setCell (p:=⟨w.heap.size,1,none⟩) (kA2 _) _⟩
section
attribute [local go_sem] Oper.semAt_some
theorem zG3 (n:Nat) (s:ByteArray) (w:World):CallsIn Fence.wide n Tryz.prog 228 #[.string s] w fun e w'=>e=.returned (.func (.func 257) #[] #[.pointer (some ⟨w.heap.size,0,none⟩)])∧w'=w.alloc (.cells #[.string s] 9):=by
 refine kCu Tryz.func228 rfl trivial ?_ rfl;simp only[Tryz.ntmps228,kAc,List.length_cons,List.length_nil,Nat.reduceAdd,Nat.reduceSub,kAY,Array.replicate_zero,kBj,kAP,List.nil_append,List.cons_append]
 gi_wp2
 go_ret;exact⟨rfl,rfl⟩
theorem info270:(Tryz.prog.info? 270).map (fun i=>(i.zero,i.size,i.bytes))=some (some (.int .u32 0),1,4):=kCU
theorem own_one {w:World} {base:Nat} {v x:Value} {e:TypeId} (h:w.ownsRow base e 1 v 1 [x]):∃g c,v=.slice (some ⟨g,0,none⟩) 1 c∧base≤g∧1≤c∧w.cell? ⟨g,0,none⟩=some x:=by
 rcases h.2 with⟨_,h0⟩ | ⟨g,cap,cur,rfl,hb,hg,hc,_⟩
 ·omega
 ·have:=World.ownsRow.cells h (g:=g) rfl 0 x rfl;rw[zC7] at this;exact⟨g,cap,rfl,hb,hc,this⟩
structure Short (s:ByteArray) (n:Int):Prop where
 pos:0<s.size
 len:s.size≤9
 num:Lib.atoiAll s.data.toList=.ok n
 lo:1≤n
 hi:n≤9
 sign:strings_HasPrefix.f s ⟨#[45]⟩=some false
theorem zCU (n:Nat) (s:ByteArray) (m:Int) (hs:Short s m) (w:World):CallsIn Fence.wide n Tryz.prog 189 #[.string s] w fun e w'=>∃v,e=.returned v∧One w' m v∧Below w.heap.size w w':=by
 have hD:Fence.wide.depth.isSome=false:=rfl;have hF227:Fence.wide.fn 227:=trivial;have hF228:Fence.wide.fn 228:=trivial;have hF229:Fence.wide.fn 229:=trivial;have hpre:=fun w=>(kBl (n:=n-1)).2 ((strings_HasPrefix.calls s ⟨#[45]⟩ false w hs.sign).mono fun _ _ ⟨a,b⟩=>(⟨a,b.out⟩:_∧∃n,_))
 have HS:=kA1 hs;clear hs;refine kCp Tryz.func189 rfl trivial ?_ rfl;simp only[Tryz.ntmps189,kAc,List.length_cons,List.length_nil,Nat.reduceAdd,Nat.reduceSub,kAY,Array.replicate_zero,kBj,kAP,List.nil_append,List.cons_append]
 gi_wp2_with (first
  | (gi_at_call 227;refine (hpre _).mono ?_;rintro e w' ⟨rfl,k,rfl⟩)
  | (gi_at_call 228;refine (zG3 (n-1) s _).mono ?_;rintro e w' ⟨rfl,rfl⟩))
 obtain⟨W,hW⟩:∃W,W=((((w.alloc (.cells #[.int .i64 0,.slice none 0 0] 234)).drewN k).alloc (.cells #[.slice none 0 0] 232)).alloc (.cells #[.string s] 9)):=⟨_,rfl⟩;have hz:W.heap.size=w.heap.size+3:=by rw[hW];simp
 have hbW:Below w.heap.size w W:=by rw[hW];exact ((zA3 ((kA3 _ w).alloc (kA2 _) _) k).alloc kCV _).alloc kCX _
 have hR:W.heap[w.heap.size]?=some (.cells #[.int .i64 0,.slice none 0 0] 234 (0,0)):=by
  rw[hW];exact (kA4 _ _ _ kCX).trans ((kA4 _ _ _ kCV).trans (zAS (zA4 w _) k))
 have hQ:W.heap[w.heap.size+1]?=some (.cells #[.slice none 0 0] 232 (0,0)):=by
  rw[hW];exact (kA4 _ _ _ kCV).trans (zAu _ _ _ kCV)
 have hB:W.heap[w.heap.size+1+1]?=some (.cells #[.string s] 9 (0,0)):=by
  rw[hW];exact zAu _ _ _ kCV
 rw[← hW];clear hW;refine zFa (bb:=w.heap.size+1+1) (s:=s)
  #[.string s,undef,.pointer (some ⟨w.heap.size,0,none⟩),.int .i64 1,.pointer (some ⟨w.heap.size+1,0,none⟩),.string s,undef,undef,.string s,.bool false,undef,undef,.string s,
   .func (.func 257) #[] #[.pointer (some ⟨w.heap.size+1+1,0,none⟩)],.string s,undef,undef,undef,undef,undef,undef,undef,undef,undef,undef,undef,undef,undef]
  rfl HS.out.pos HS.out.len hB
  (fun X=>∃g c,1≤c∧X.heap[w.heap.size+1]?=some (.cells #[.slice (some g) 1 c] 232 (0,0))∧X.cell? g=some (.int .u32 m)∧W.heap.size+2≤g.block∧X.heap[w.heap.size]?=some (.cells #[.int .i64 0,.slice none 0 0] 234 (0,0))∧Below w.heap.size w X)
  ?hI ?assign ?body ?done
 case hI =>
  rintro A B k⟨g,c,hc,h1,h2,h3,h4,h5⟩ hk hg;have hlt:=kAE _ _ h2;have hcell:B.cell? g=some (.int .u32 m):=by
   have:=hg.block g.block hlt kCZ;simpa[World.cell?,this] using h2
  exact⟨g,c,hc,(hg.block _ (zA5 h1) kCZ).trans h1,hcell,h3,(hg.block _ (zA5 h4) kCZ).trans h4,h5.grown hg h5.size (fun j e=>by injection e with e;omega)⟩
 case assign =>
  intro l A K hK
  gi_wp2
  exact hK
 case body =>
  rintro W0 hgw hz0;have hq0:W0.heap[w.heap.size+1]?=some (.cells #[.slice none 0 0] 232 (0,0)):=(hgw.block _ (zA5 hQ) kCV).trans hQ;have hr0:W0.heap[w.heap.size]?=some (.cells #[.int .i64 0,.slice none 0 0] 234 (0,0)):=(hgw.block _ (zA5 hR) kCV).trans hR;have hb0:W0.heap[w.heap.size+1+1]?=some (.cells #[.string s] 9 (0,0)):=(hgw.block _ (zA5 hB) kCV).trans hB;have hbw:Below w.heap.size w W0:=hbW.grown hgw hbW.size (fun k e=>by cases e);have hF216:(Fence.wide.inRound (W.heap.size+1)).fn 216:=trivial;have hat:=fun wx=>(kBl (n:=n-1-1-1)).2 (zGd s (by have:=HS.out.len;omega) m HS.out.num wx)
  have hat2:∀l wx,CallsIn (Fence.wide.inRound l) (n-1-1-1) Tryz.prog 216 #[.string s] wx fun e w''=>e=.returned (.tuple #[.int .i64 m,.nilIface])∧Below wx.heap.size wx w'':=fun _=>hat
  have hwm:m % 4294967296=m:=by have:=HS.out.lo;have:=HS.out.hi;omega
  clear hat
  gi_wp2
  refine⟨trivial,(hat2 _ _).mono ?_⟩;rintro e w1 ⟨rfl,hb1⟩;have hq1:=zA9 hb1 hq0;have q0:=zA1 hq1 0;have q1:=zA2 hq1 0;have hbx:=hbw.trans (hb1.mono hbw.size);have hrx:=zA9 hb1 hr0;have hb9:=zA9 hb1 hb0;have hlt:=zA5 hb9;have hs1:=hb1.size;have HB0:=kA1 hb0;have HB1:=kA1 hb1;clear hq0 hr0 hb0 hat2;obtain⟨i0,hi,iz0,iz1,iz2⟩:=info_parts info270;have HO:(w1.alloc (.cells #[.int .u32 m] 270)).ownsRow (W.heap.size+2) 270 1 (.slice none 0 0) 0 []:=kCh _ _ _ _;have HC:∀j u,([Value.int .u32 m]:List Value)[j]?=some u→(w1.alloc (.cells #[.int .u32 m] 270)).cell? ((⟨w1.heap.size,0,none⟩:Addr).add j)=some u:=by simpa using kBP (zA4 w1 (.cells #[.int .u32 m] 270))
  have H1:=kA1 HO;have H2:=kA1 HC;clear HO HC
  gi_wp2_with (gi_at_builtin;go_loud (refine kC4 _ rfl _ _ 232 rfl (W.heap.size+2) 270 i0 (.int .u32 0) 1 4 Tryz.underlying232 hi iz0 iz1 iz2 rfl (kCn 0) (.slice none 0 0) 0 [] rfl H1.out ⟨w1.heap.size,0,none⟩ 1 1 [.int .u32 m] rfl rfl H2.out kDm kDb kCT kCX ?_);intro v' w2 hown' hgrow _;obtain⟨gv,cv,rfl,hge,hcv,hgc⟩:=own_one hown';have hq2:=(hgrow.block (w.heap.size+1) kCX kDC).trans ((kA4 _ _ _ kCT).trans hq1);have c1:=zA1 hq2 0;have c2:=zA2 hq2 0;have HQ2:=kA1 hq2;clear hown' hq2)
  have hne:gv≠w.heap.size+1:=kCT
  have hgB:∀j o,w1.heap[j]?=some o→w2.heap[j]?=some o:=fun j o hj=>(hgrow.block j (by have:=zA5 hj;simp;omega) kDC).trans ((kA4 _ _ _ (zA5 hj)).trans hj)
  refine⟨?_,⟨⟨gv,0,none⟩,cv,hcv,zA7 HQ2.out 0 _,?_,by show _≤gv;omega,?_,?_⟩,?_⟩
  ·exact ((KeepsOthers.mk HB1.out.size (fun k o hk _=>zA9 HB1.out hk)).trans (KeepsOthers.mk (by have:=hgrow.size;simp at this;omega) (fun k o hk _=>hgB k o hk))).trans (kBA _ _ _)
  ·rw[kAy _ _ _ _ kCX];exact hgc
  ·exact (kA5 _ _ _ _ kCV).trans (hgB _ _ hrx)
  ·exact ((hbx.alloc hbx.size (.cells #[.int .u32 m] 270)).grown hgrow kCX (fun k e=>by simp[Value.ownBlock] at e)).setCell (p:=⟨w.heap.size+1,0,none⟩) kCV _
  ·exact (kA5 _ _ _ _ kCV).trans ((hgB _ _ hb9).trans HB0.out.symm)
 case done =>
  rintro X⟨g,c,hc,h1,h2,h3,h4,h5⟩ hdef;rw[hz] at hdef;have q0:=zA1 h1 0;have hmf:=fun wx (hcell:wx.cell? g=some (.int .u32 m))=>made_first g m [] c wx (by have:=HS.out.lo;omega) kCV (by simpa using hc) kCV (fun i h=>by
   obtain rfl:i=0:=by simp at h;omega
   rw[kAO];exact hcell)
  have hmi:=(kBl (n:=n-1)).2 (hmf X h2);simp only[List.length_cons,List.length_nil,kAH] at hmi
  gi_wp2_with (gi_at_call 229;refine hmi.mono ?_;rintro e w1 ⟨v,rfl,hv,hb1⟩;obtain⟨gv,cv,hcv,rfl,hgv⟩:=hv.out;have hr1:=zA9 hb1 h4;have d0:=zA1 hr1 0;have d1:=zA1 hr1 1;have f0:=zA2 hr1 0;have f1:=zA2 hr1 1;have HR1:=kA1 hr1;clear hr1)
  have hdl:=zA5 hdef;have hd1:=zA9 hb1 hdef;have hd:((w1.setCell ⟨w.heap.size,0,none⟩ (.int .i64 1)).setCell ⟨w.heap.size,1,none⟩ (.slice (some gv) 1 cv)).heap[(w.heap.size+3)]?=some (.deferred (some [])):=(kA5 _ _ _ _ kD3).trans ((kA5 _ _ _ _ kD3).trans hd1);have hm:=num_ne hgv HR1.out;have hY:=zBP (.int .i64 1) (.slice (some gv) 1 cv) HR1.out;have hYg:((w1.setCell ⟨w.heap.size,0,none⟩ (.int .i64 1)).setCell ⟨w.heap.size,1,none⟩ (.slice (some gv) 1 cv)).cell? gv=some (.int .u32 m):=by
   rw[kAy _ _ _ _ (kCo hm),kAy _ _ _ _ (kCo hm)];exact hgv
  have hYb:=((h5.trans (hb1.mono h5.size)).setCell (p:=⟨w.heap.size,0,none⟩) (kA2 _) (.int .i64 1)).setCell (p:=⟨w.heap.size,1,none⟩) (kA2 _) (.slice (some gv) 1 cv);generalize (w1.setCell ⟨w.heap.size,0,none⟩ (.int .i64 1)).setCell ⟨w.heap.size,1,none⟩ (.slice (some gv) 1 cv)=Y at *;refine⟨kCV,.inl ⟨_,_,rfl,kC8 hd,?_⟩⟩;have j0:=(kAp (w:=Y) (o:=.deferred none) (r:=(w.heap.size+3)) kCT).trans hY;have hgb:gv.block≠(w.heap.size+3):=by
   intro e;have:=hYg;simp only[World.cell?,e,hd] at this
   cases this
  have j1:(Y.putObj (w.heap.size+3) (.deferred none)).cell? gv=some (.int .u32 m):=by
   have hh:=kAp (w:=Y) (o:=.deferred none) (r:=(w.heap.size+3)) (k:=gv.block) hgb;simpa[World.cell?,hh] using hYg
  refine⟨_,zAg Tryz.results189 _ _ w.heap.size 234 _ (0,0) _ rfl j0 Tryz.underlying234 rfl zBT,_,rfl,⟨gv,cv,hcv,rfl,j1⟩,hYb.grown (zAt _ _ _) hYb.size (fun k e=>by injection e with e;omega)⟩
end
def zAM (l:List Int):Array Value:=(l.map (Value.int .u32)).toArray
theorem zAU {w:World} {b:Nat} {l:List Int} {t:TypeId} (h:w.heap[b]?=some (.cells (zAM l) t (0,0))) (i:Nat) (hi:i<l.length):w.cell? ⟨b,i,none⟩=some (.int .u32 l[i]):=by
 have:=zA1 h i;rw[this];simp[zAM,hi]
theorem zBy {w:World} {b:Nat} {l:List Int} {t:TypeId} (h:w.heap[b]?=some (.cells (zAM l) t (0,0))) (i:Nat) (x:Int):(w.setCell ⟨b,i,none⟩ (.int .u32 x)).heap[b]?=some (.cells (zAM (l.set i x)) t (0,0)):=by
 have:=zA7 h i (.int .u32 x);rw[this];simp[zAM,List.map_set]
theorem limbs_made (n:Nat):madeCells #[.int .u32 0] n=zAM (List.replicate n 0):=by
 apply Array.ext';rw[toList_madeCells_one];simp[zAM]
theorem limbs_make (n:Nat) (h:n≤100000) (W:World):(Instr.makeSlice 232 (.int .i64 (n:Int)) (.int .i64 (n:Int))).run Tryz.prog W=.ok (.slice (some ⟨W.heap.size,0,none⟩) n n) (W.alloc (.cells (zAM (List.replicate n 0)) 270)):=by
 rw[run_make_row' 232 270 (.int .u32 0) 4 Tryz.underlying232 info270 rfl .i64 .i64 n kCT kCT W,limbs_made]
theorem zF4 (l:List Int) (m:Int) (A:Option Addr) (c:Nat) (w:World) (hC:U32.C w A l.length l) (hl:Limb l) (hm:0≤m) (hm2:m<1000000000) (hsm:l.length≤1000) :
  Calls Tryz.prog 280 #[.slice A l.length c,.int .u32 m] w fun e w'=>∃r:List Int,r.length=l.length+1∧Limb r∧val r=val l*m∧e=.returned (.slice (some ⟨w.heap.size,0,none⟩) (l.length+1) (l.length+1))∧w'.heap[w.heap.size]?=some (.cells (zAM r) 270 (0,0))∧Below w.heap.size w w':=by
 replace hC:=kA1 hC;replace hl:=kA1 hl;have hmk:=limbs_make (l.length+1) kCT w;rw[show ((l.length+1:Nat):Int)=(l.length:Int)+1 from by omega] at hmk;obtain⟨Y,hY⟩:∃Y,Y=w.alloc (.cells (zAM (List.replicate (l.length+1) 0)) 270):=⟨_,rfl⟩;rw[← hY] at hmk;have hB:Below w.heap.size w Y:=by rw[hY];exact (kA3 _ w).alloc (kA2 _) _
 have hH:Hid (Y.heap[w.heap.size]?=some (.cells (zAM (List.replicate (l.length+1) 0)) 270 (0,0))):=kA1 (by rw[hY];exact zA4 w _);clear hY;go_enter Tryz.func280,Tryz.ntmps280;go_wp2_with fail;clear hmk;go_loopg [6,15] l.length (fun gk v6 v15 wr=>∃(i:Nat) (out:List Int) (carry:Int),i+gk=l.length∧v6=.int .u64 carry∧v15=.int .i64 (i:Int)∧out.length=l.length+1∧0≤carry∧carry<1000000000∧Hid (Limb (out.take i))∧Hid (val (out.take i)+1000000000 ^ i*carry=val (l.take i)*m)∧Hid (wr.heap[w.heap.size]?=some (.cells (zAM out) 270 (0,0)))∧Below w.heap.size w wr)
 case atStart=>exact⟨0,List.replicate (l.length+1) 0,0,kCT,rfl,rfl,kCV,kCT,kCT,kA1 (fun x hx=>by simp at hx),kA1 (by simp[val]),hH,hB⟩
 case round =>
  obtain⟨i,out,carry,hi,rfl,rfl,ho,h0,h1,HL,HV,HH,hBr⟩:=hrel;replace ho:=kA1 ho
  cases gk with
  | zero =>
   obtain rfl:i=l.length:=kCT
   have hlt2:l.length<out.length:=by have:=ho.out;omega
   have hx:=zAU HH.out l.length hlt2;have hfz:=zA2 HH.out l.length;generalize out[l.length]=y at *;go_wp2;go_ret;refine⟨out.set l.length carry,by simp[ho.out],?_,?_,rfl,zBy HH.out _ _,hBr.setCell (p:=⟨w.heap.size,l.length,none⟩) (kA2 _) _⟩
   ·rw[← kB1 (l:=out.set l.length carry),List.length_set,ho.out];refine zCV l.length kCX ?_ kCX;rw[List.take_set_of_le (kA2 _)];exact HL.out
   ·have e:=val_set (l:=out) l.length hlt2 carry;have e2:=HV.out;rw[kB1] at e2;rw[kBw (by simp[ho.out])] at e;rw[e,e2]
  | succ k =>
   have hlt:i<l.length:=kCT
   have hlt2:i<out.length:=by have:=ho.out;omega
   obtain⟨ad,rfl,hc1⟩:=zE0 (Kd.C_below hC.out hBr) i hlt;obtain⟨hx0,hx1⟩:=hl.out.at i hlt;have hx:=zAU HH.out i hlt2;have hfz:=zA2 HH.out i;obtain⟨x,hxx⟩:∃x,x=l[i]:=⟨_,rfl⟩;rw[← hxx] at hc1 hx0 hx1;replace hxx:=kA1 hxx;generalize out[i]=y at *;have p0:0≤x*m:=kC9 hx0 hm;have p1:x*m≤999999999*999999999:=Int.mul_le_mul kCT kCT hm kCT;obtain⟨p,hp⟩:∃p,p=x*m:=⟨_,rfl⟩;rw[← hp] at p0 p1;have hw1:IntKind.u64.wrap (x*m)=p:=by rw[← hp];exact zDZ p0 kCT
   have hw2:IntKind.u64.wrap (carry+p)=carry+p:=zDZ kCT kCT;replace hp:=kA1 hp;have hd:=kBI (carry+p) 1000000000;have hr0:=kBH (carry+p) (show (1000000000:Int)≠0 by omega);have hr1:=kBv (carry+p) (show (0:Int)<1000000000 by omega);replace hd:=kA1 hd;go_wp2;go_roundg k
   case measure=>omega
   case rel =>
    refine⟨i+1,out.set i ((carry+p) % 1000000000),(carry+p) / 1000000000,kCT,rfl,by go_num,by simp[ho.out],kCT,kCT,kA1 ?_,kA1 ?_,kA1 (zBy HH.out _ _),hBr.setCell (p:=⟨w.heap.size,i,none⟩) (kA2 _) _⟩
    ·refine zCV i kCX ?_ kCX;rw[List.take_set_of_le (kA2 _)];exact HL.out
    ·have e2:=HV.out;have e3:=hd.out;have e4:=hp.out;rw[val_set i hlt2,zAD i hlt,← hxx.out,kBB];generalize (carry+p) / 1000000000=q at *;generalize (carry+p) % 1000000000=r at *;generalize (1000000000:Int) ^ i=B at *;generalize val (List.take i out)=V at *;generalize val (List.take i l)=U at *;have e5:B*(1000000000*q+r)=B*(carry+p):=by rw[e3]
     have e6:B*p=B*x*m:=by rw[e4,kAZ]
     rw[kBs,kBs] at e5;rw[kAZ,Int.add_mul];omega
theorem zCT {l:List Int} (h:Limb l) (i:Nat) (x:Int) (hx:0≤x∧x<1000000000):Limb (l.set i x):=fun y hy=>by
 rcases List.mem_or_eq_of_mem_set hy with h1 | rfl
 ·exact h y h1
 ·exact hx
theorem pull_step {P C V T A B y times c d have_ q r d2:Int} (h:P+C*(times*V)=A+B*(c+d)) (hB:B=C*T) (he:q*1000000000+r=c+y*times) :
  P+B*(have_-(r+d)+1000000000*d2)+C*(times*(V+T*y))=A+B*have_+B*1000000000*(q+d2):=by
 subst hB;have h2:C*T*(c+y*times)=C*T*(q*1000000000+r):=by rw[he]
 grind
theorem take_min {bb:List Int} {n i:Nat} {y:Int} (hn:n≤bb.length) (hi:i≤n) (hy:(∃h:i<n,y=bb[i]' kCT)∨(i=n∧y=0)):val (bb.take (min (i+1) n))=val (bb.take (min i n))+1000000000 ^ i*y:=by
 rcases hy with⟨h,rfl⟩ | ⟨rfl,rfl⟩
 ·rw[kAU kCT,kAU kCT,zAD i kCT]
 ·rw[Nat.min_eq_right kCT,Nat.min_self];omega
theorem drop_next {a r:List Int} {m:Nat} {x:Int} (hl:r.length=a.length) (h:r.drop m=a.drop m):(r.set m x).drop (m+1)=a.drop (m+1):=by
 rw[List.drop_set_of_lt kCT];have h3:=congrArg (List.drop 1) h;rw[kC0,kC0] at h3;exact h3
theorem drop_same {a r:List Int} {m:Nat} (h1:m<r.length) (h2:m<a.length) (h:r.drop m=a.drop m):r[m]=a[m]:=by
 rw[kAr h1,kAr h2] at h;injection h
theorem pull_round {a r bb:List Int} {n i at_:Nat} {times c d y d2:Int} (hn:n≤bb.length) (hi:i≤n) (hy:(∃h:i<n,y=bb[i]' kCT)∨(i=n∧y=0)) (hl:r.length=a.length) (hat:at_+i<r.length) (hd:r.drop (at_+i)=a.drop (at_+i))
  (hV:val (r.take (at_+i))+1000000000 ^ at_*(times*val (bb.take (min i n)))=val (a.take (at_+i))+1000000000 ^ (at_+i)*(c+d)) :
  val ((r.set (at_+i) (r[at_+i]-((c+y*times) % 1000000000+d)+1000000000*d2)).take (at_+(i+1)))+1000000000 ^ at_*(times*val (bb.take (min (i+1) n)))=val (a.take (at_+(i+1)))+1000000000 ^ (at_+(i+1))*((c+y*times) / 1000000000+d2):=by
 rw[show at_+(i+1)=(at_+i)+1 from by omega,val_set _ hat,zAD (l:=a) _ kCT,← drop_same hat kCT hd,take_min hn hi hy];have e:=kBI (c+y*times) 1000000000;rw[kBe] at e;have h:=pull_step (have_:=r[at_+i]) (d2:=d2) (T:=1000000000 ^ i) (y:=y) hV (kCA _ _ _) e;rw[kBB];exact h
def PullPost (a bb:List Int) (n at_:Nat) (times:Int) (Ba L:Nat) (w:World) (e:Ending) (w':World):Prop :=
 ∃(r:List Int) (d:Int),(d=0∨d=1)∧e=.returned (.bool (d != 0))∧r.length=L∧Limb r∧r.drop (at_+n+1)=a.drop (at_+n+1) ∧
   val (r.take (at_+n+1))+1000000000 ^ at_*(times*val (bb.take n))=val (a.take (at_+n+1))+1000000000 ^ (at_+n+1)*d∧w'.heap[Ba]?=some (.cells (zAM r) 270 (0,0))∧w.grownBy w' (some Ba)
theorem pull_calls (a bb:List Int) (n at_:Nat) (times:Int) (Ba Bb ca cb:Nat) (w:World) (hA:w.heap[Ba]?=some (.cells (zAM a) 270 (0,0))) (hBb:w.heap[Bb]?=some (.cells (zAM bb) 270 (0,0))) (hab:Ba≠Bb)
  (la:Limb a) (lb:Limb bb) (hn:n≤bb.length) (hat:at_+n+1≤a.length) (ht0:0≤times) (ht1:times≤1000000000) (hs:a.length≤1002) :
  Calls Tryz.prog 281 #[.slice (some ⟨Ba,0,none⟩) a.length ca,.slice (some ⟨Bb,0,none⟩) n cb,.int .i64 (at_:Int),.int .u64 times] w (PullPost a bb n at_ times Ba a.length w):=by
 replace la:=kA1 la;replace lb:=kA1 lb;obtain⟨L,hL⟩:∃L,L=a.length:=⟨_,rfl⟩;rw[← hL] at hat hs ⊢;replace hL:=kA1 hL;replace hA:=kA1 hA;replace hBb:=kA1 hBb;go_enter Tryz.func281,Tryz.ntmps281;go_wp2_with fail;go_loopg [9,10,18] (n+1) (fun gk v9 v10 v18 wr=>∃(i:Nat) (r:List Int) (c d:Int),i+gk=n+1∧v9=.int .u64 c∧v10=.int .u64 d∧v18=.int .i64 (i:Int)∧0≤c∧c<1000000000∧Hid (n<i→c=0)∧0≤d∧d≤1∧Hid (r.length=L)∧Hid (Limb r)∧Hid (r.drop (at_+i)=a.drop (at_+i))∧Hid (val (r.take (at_+i))+1000000000 ^ at_*(times*val (bb.take (min i n)))=val (a.take (at_+i))+1000000000 ^ (at_+i)*(c+d))∧Hid (wr.heap[Ba]?=some (.cells (zAM r) 270 (0,0)))∧w.grownBy wr (some Ba))
 case atStart=>exact⟨0,a,0,0,kCT,rfl,rfl,rfl,kCT,kCT,kA1 kCT,kCT,kCT,kA1 hL.out.symm,la,kA1 rfl,kA1 (by simp[val]),hA,kAF _ _⟩
 case round =>
  obtain⟨i,r,c,d,hi,rfl,rfl,rfl,hc0,hc1,hcn,hd0,hd1,hrl,hrL,hrd,hV,hH,hG⟩:=hrel
  cases gk with
  | zero =>
   obtain rfl:i=n+1:=kCT
   have hR:Hid (∃(r:List Int) (d':Int),(d'=0∨d'=1)∧(d != 0)=(d' != 0)∧r.length=L∧Limb r∧r.drop (at_+n+1)=a.drop (at_+n+1)∧val (r.take (at_+n+1))+1000000000 ^ at_*(times*val (bb.take n))=val (a.take (at_+n+1))+1000000000 ^ (at_+n+1)*d'∧wr.heap[Ba]?=some (.cells (zAM r) 270 (0,0))):=kA1 (by
    refine⟨r,d,kCT,rfl,hrl.out,hrL.out,hrd.out,?_,hH.out⟩;have:=hV.out;rw[hcn.out kCT,Int.zero_add,Nat.min_eq_right kCT] at this;exact this)
   clear hcn hrl hrL hrd hV hH;go_wp2;go_ret;obtain⟨r,d',h1,h2,h3,h4,h5,h6,h7⟩:=hR.out;exact⟨r,d',h1,by rw[← h2];rfl,h3,h4,h5,h6,h7,hG⟩
  | succ k =>
   have hin:i≤n:=kCT
   have hlt:at_+i<r.length:=by have:=hrl.out;omega
   have hltL:at_+i<L:=kCT
   have hlti:(at_:Int)+(i:Int)<(L:Int):=kCT
   have hx:=zAU hH.out (at_+i) hlt;have hfz:=zA2 hH.out (at_+i);obtain⟨hx0,hx1⟩:=hrL.out.at (at_+i) hlt;obtain⟨x,hxx⟩:∃x,x=r[at_+i]:=⟨_,rfl⟩;rw[← hxx] at hx hx0 hx1;have hb:=(hG.block Bb (zA5 hBb.out) kCZ).trans hBb.out;obtain⟨y,hy,hyv⟩:∃y,((∃h:i<n,y=bb[i]' kCT)∨(i=n∧y=0))∧(i<n→wr.cell? ⟨Bb,i,none⟩=some (.int .u32 y)):=by
    by_cases h:i<n
    ·exact⟨bb[i]' kCT,.inl ⟨h,rfl⟩,fun _=>zAU hb i kCT⟩
    ·exact⟨0,.inr ⟨kCT,rfl⟩,fun h'=>absurd h' h⟩
   have hy0:0≤y∧y<1000000000∧(i=n→y=0):=by
    rcases hy with⟨h,rfl⟩ | ⟨h,rfl⟩
    ·have:=lb.out.at i kCT;exact⟨this.1,this.2,fun h'=>by omega⟩
    ·exact⟨kCT,kCT,fun _=>rfl⟩
   obtain⟨hy1,hy2,hy3⟩:=hy0;have hfin:=fun d2=>pull_round (c:=c) (d:=d) (times:=times) (d2:=d2) (by omega:n≤bb.length) hin hy kDn hlt hrd.out hV.out
   rw[← hxx] at hfin;have p0:0≤y*times:=kC9 hy1 ht0;have p1:y*times≤999999999*1000000000:=Int.mul_le_mul kCT kCT ht0 kCT;have p2:i=n→y*times=0:=fun h=>by rw[hy3 h];omega
   obtain⟨p,hp⟩:∃p,p=y*times:=⟨_,rfl⟩;rw[← hp] at p0 p1 p2 hfin;have hw1:IntKind.u64.wrap (y*times)=p:=by rw[← hp];exact zDZ p0 kCT
   have hr0:=kBH (c+p) (show (1000000000:Int)≠0 by omega);have hr1:=kBv (c+p) (show (0:Int)<1000000000 by omega);have hq0:0≤(c+p) / 1000000000:=kCT
   have hq1:(c+p) / 1000000000<1000000000:=kCT
   have hq2:n<i+1→(c+p) / 1000000000=0:=fun h=>by rw[p2 kCT];omega
   have hd3:Hid (∀v:Int,(r.set (at_+i) v).drop (at_+(i+1))=a.drop (at_+(i+1))):=kA1 (fun v=>drop_next kDn hrd.out);replace hfin:=kA1 hfin;replace hq2:=kA1 hq2;replace p2:=kA1 p2;replace hy3:=kA1 hy3;replace hp:=kA1 hp;replace hxx:=kA1 hxx;clear hV hy hb;by_cases hii:i<n
   ·have hyc:=hyv hii;have hdi:(i:Int)<(n:Int):=kCT
    clear hyv;by_cases hcmp:x<(c+p) % 1000000000+d
    ·have hcb:decide (x<(c+p) % 1000000000+d)=true:=kA7 hcmp;go_wp2;go_roundg k
     case measure=>omega
     case rel =>
      refine⟨i+1,r.set (at_+i) (x+1000000000-((c+p) % 1000000000+d)),(c+p) / 1000000000,1,kCT,rfl,rfl,by go_num,hq0,hq1,kA1 (fun h=>hq2.out kCT),kCT,kCT,kA1 kDi,kA1 (zCT hrL.out _ _ kCT),kA1 (hd3.out _),kA1 ?_,kA1 (zBy hH.out _ _),kA6 hG (kAf _ _ _ _)⟩;have e:=hfin.out 1;rw[show x-((c+p) % 1000000000+d)+1000000000*1=x+1000000000-((c+p) % 1000000000+d) from by omega] at e;exact e
    ·have hcb:decide (x<(c+p) % 1000000000+d)=false:=kA8 hcmp;go_wp2;go_roundg k
     case measure=>omega
     case rel =>
      refine⟨i+1,r.set (at_+i) (x-((c+p) % 1000000000+d)),(c+p) / 1000000000,0,kCT,rfl,rfl,by go_num,hq0,hq1,kA1 (fun h=>hq2.out kCT),kCT,kCT,kA1 kDi,kA1 (zCT hrL.out _ _ kCT),kA1 (hd3.out _),kA1 ?_,kA1 (zBy hH.out _ _),kA6 hG (kAf _ _ _ _)⟩;have e:=hfin.out 0;rw[show x-((c+p) % 1000000000+d)+1000000000*0=x-((c+p) % 1000000000+d) from by omega] at e;exact e
   ·obtain rfl:i=n:=kCT
    obtain rfl:y=0:=hy3.out rfl;have hp0:=p2.out rfl;subst hp0;clear hyv;simp only[kCF] at hr0 hr1 hq0 hq1 hfin hq2;by_cases hcmp:x<c % 1000000000+d
    ·have hcb:decide (x<c % 1000000000+d)=true:=kA7 hcmp;go_wp2;go_roundg k
     case measure=>omega
     case rel =>
      refine⟨i+1,r.set (at_+i) (x+1000000000-(c % 1000000000+d)),c / 1000000000,1,kCT,rfl,rfl,by go_num,hq0,hq1,kA1 (fun h=>hq2.out kCT),kCT,kCT,kA1 kDi,kA1 (zCT hrL.out _ _ kCT),kA1 (hd3.out _),kA1 ?_,kA1 (zBy hH.out _ _),kA6 hG (kAf _ _ _ _)⟩;have e:=hfin.out 1;rw[show x-(c % 1000000000+d)+1000000000*1=x+1000000000-(c % 1000000000+d) from by omega] at e;exact e
    ·have hcb:decide (x<c % 1000000000+d)=false:=kA8 hcmp;go_wp2;go_roundg k
     case measure=>omega
     case rel =>
      refine⟨i+1,r.set (at_+i) (x-(c % 1000000000+d)),c / 1000000000,0,kCT,rfl,rfl,by go_num,hq0,hq1,kA1 (fun h=>hq2.out kCT),kCT,kCT,kA1 kDi,kA1 (zCT hrL.out _ _ kCT),kA1 (hd3.out _),kA1 ?_,kA1 (zBy hH.out _ _),kA6 hG (kAf _ _ _ _)⟩;have e:=hfin.out 0;rw[show x-(c % 1000000000+d)+1000000000*0=x-(c % 1000000000+d) from by omega] at e;exact e
theorem push_step {P C V T A B y c x q r:Int} (h:P+B*c=A+C*V) (hB:B=C*T) (he:q*1000000000+r=x+c+y) :
  P+B*r+B*1000000000*q=A+B*x+C*(V+T*y):=by
 subst hB;have h2:C*T*(x+c+y)=C*T*(q*1000000000+r):=by rw[he]
 grind
theorem push_round {a r bb:List Int} {n i at_:Nat} {c y:Int} (hn:n≤bb.length) (hi:i≤n) (hy:(∃h:i<n,y=bb[i]' kCT)∨(i=n∧y=0)) (hl:r.length=a.length) (hat:at_+i<r.length) (hd:r.drop (at_+i)=a.drop (at_+i))
  (hV:val (r.take (at_+i))+1000000000 ^ (at_+i)*c=val (a.take (at_+i))+1000000000 ^ at_*val (bb.take (min i n))) :
  val ((r.set (at_+i) ((r[at_+i]+c+y) % 1000000000)).take (at_+(i+1)))+1000000000 ^ (at_+(i+1))*((r[at_+i]+c+y) / 1000000000)=val (a.take (at_+(i+1)))+1000000000 ^ at_*val (bb.take (min (i+1) n)):=by
 rw[show at_+(i+1)=(at_+i)+1 from by omega,val_set _ hat,zAD (l:=a) _ kCT,← drop_same hat kCT hd,take_min hn hi hy];have e:=kBI (r[at_+i]+c+y) 1000000000;rw[kBe] at e;have h:=push_step (T:=1000000000 ^ i) hV (kCA _ _ _) e;rw[kBB];exact h
def PushPost (a bb:List Int) (n at_:Nat) (Ba L:Nat) (w:World) (e:Ending) (w':World):Prop :=
 ∃(r:List Int) (d:Int),0≤d∧d≤1∧e=.returned (.tuple #[])∧r.length=L∧Limb r∧r.drop (at_+n+1)=a.drop (at_+n+1) ∧
   val (r.take (at_+n+1))+1000000000 ^ (at_+n+1)*d=val (a.take (at_+n+1))+1000000000 ^ at_*val (bb.take n)∧w'.heap[Ba]?=some (.cells (zAM r) 270 (0,0))∧w.grownBy w' (some Ba)
theorem push_calls (a bb:List Int) (n at_:Nat) (Ba Bb ca cb:Nat) (w:World) (hA:w.heap[Ba]?=some (.cells (zAM a) 270 (0,0))) (hBb:w.heap[Bb]?=some (.cells (zAM bb) 270 (0,0))) (hab:Ba≠Bb)
  (la:Limb a) (lb:Limb bb) (hn:n≤bb.length) (hat:at_+n+1≤a.length) (hs:a.length≤1002) :
  Calls Tryz.prog 282 #[.slice (some ⟨Ba,0,none⟩) a.length ca,.slice (some ⟨Bb,0,none⟩) n cb,.int .i64 (at_:Int)] w (PushPost a bb n at_ Ba a.length w):=by
 replace la:=kA1 la;replace lb:=kA1 lb;obtain⟨L,hL⟩:∃L,L=a.length:=⟨_,rfl⟩;rw[← hL] at hat hs ⊢;replace hL:=kA1 hL;replace hA:=kA1 hA;replace hBb:=kA1 hBb;go_enter Tryz.func282,Tryz.ntmps282;go_wp2_with fail;go_loopg [6,12] (n+1) (fun gk v6 v12 wr=>∃(i:Nat) (r:List Int) (c:Int),i+gk=n+1∧v6=.int .u32 c∧v12=.int .i64 (i:Int)∧0≤c∧c≤1∧Hid (r.length=L)∧Hid (Limb r)∧Hid (r.drop (at_+i)=a.drop (at_+i))∧Hid (val (r.take (at_+i))+1000000000 ^ (at_+i)*c=val (a.take (at_+i))+1000000000 ^ at_*val (bb.take (min i n)))∧Hid (wr.heap[Ba]?=some (.cells (zAM r) 270 (0,0)))∧w.grownBy wr (some Ba))
 case atStart=>exact⟨0,a,0,kCT,rfl,rfl,kCT,kCT,kA1 hL.out.symm,la,kA1 rfl,kA1 (by simp[val]),hA,kAF _ _⟩
 case round =>
  obtain⟨i,r,c,hi,rfl,rfl,hc0,hc1,hrl,hrL,hrd,hV,hH,hG⟩:=hrel
  cases gk with
  | zero =>
   obtain rfl:i=n+1:=kCT
   have hR:Hid (val (r.take (at_+n+1))+1000000000 ^ (at_+n+1)*c=val (a.take (at_+n+1))+1000000000 ^ at_*val (bb.take n)):=kA1 (by
    have:=hV.out;rw[Nat.min_eq_right kCT] at this;exact this)
   clear hV;go_wp2;exact kBd (kB0 rfl _ _ _) rfl ⟨r,c,hc0,hc1,rfl,hrl.out,hrL.out,hrd.out,hR.out,hH.out,hG⟩
  | succ k =>
   have hin:i≤n:=kCT
   have hlt:at_+i<r.length:=by have:=hrl.out;omega
   have hltL:at_+i<L:=kCT
   have hlti:(at_:Int)+(i:Int)<(L:Int):=kCT
   have hx:=zAU hH.out (at_+i) hlt;have hfz:=zA2 hH.out (at_+i);obtain⟨hx0,hx1⟩:=hrL.out.at (at_+i) hlt;obtain⟨x,hxx⟩:∃x,x=r[at_+i]:=⟨_,rfl⟩;rw[← hxx] at hx hx0 hx1;have hb:=(hG.block Bb (zA5 hBb.out) kCZ).trans hBb.out;have hd3:Hid (∀v:Int,(r.set (at_+i) v).drop (at_+(i+1))=a.drop (at_+(i+1))):=kA1 (fun v=>drop_next kDn hrd.out);by_cases hii:i<n
   ·have hyc:=zAU hb i kCT;obtain⟨hy1,hy2⟩:=lb.out.at i kCT;have hfin:=push_round (c:=c) (y:=bb[i]' kCT) (by omega:n≤bb.length) hin (.inl ⟨hii,rfl⟩) kDn hlt hrd.out hV.out;rw[← hxx] at hfin;replace hxx:=kA1 hxx;have hdi:(i:Int)<(n:Int):=kCT
    generalize bb[i]' kCT=y at *;have hr0:=kBH (x+c+y) (show (1000000000:Int)≠0 by omega);have hr1:=kBv (x+c+y) (show (0:Int)<1000000000 by omega);have hq0:0≤(x+c+y) / 1000000000:=kCT
    have hq1:(x+c+y) / 1000000000≤1:=kCT
    replace hfin:=kA1 hfin;clear hV hb;go_wp2;go_roundg k
    case measure=>omega
    case rel =>
     refine⟨i+1,r.set (at_+i) ((x+c+y) % 1000000000),(x+c+y) / 1000000000,kCT,rfl,by go_num,kCT,kCT,kA1 kDi,kA1 (zCT hrL.out _ _ kCT),kA1 (hd3.out _),kA1 ?_,kA1 (zBy hH.out _ _),kA6 hG (kAf _ _ _ _)⟩;exact hfin.out
   ·obtain rfl:i=n:=kCT
    have hfin:=push_round (c:=c) (y:=0) (by omega:i≤bb.length) hin (.inr ⟨rfl,rfl⟩) kDn hlt hrd.out hV.out;rw[← hxx,kCF] at hfin;replace hxx:=kA1 hxx;have hr0:=kBH (x+c) (show (1000000000:Int)≠0 by omega);have hr1:=kBv (x+c) (show (0:Int)<1000000000 by omega);have hq0:0≤(x+c) / 1000000000:=kCT
    have hq1:(x+c) / 1000000000≤1:=kCT
    replace hfin:=kA1 hfin;clear hV hb;go_wp2;go_roundg k
    case measure=>omega
    case rel =>
     refine⟨i+1,r.set (at_+i) ((x+c) % 1000000000),(x+c) / 1000000000,kCT,rfl,by go_num,kCT,kCT,kA1 kDi,kA1 (zCT hrL.out _ _ kCT),kA1 (hd3.out _),kA1 ?_,kA1 (zBy hH.out _ _),kA6 hG (kAf _ _ _ _)⟩;exact hfin.out
end Go.Proofs.YtjaobihcdkjmbaaGreatDoor
end
