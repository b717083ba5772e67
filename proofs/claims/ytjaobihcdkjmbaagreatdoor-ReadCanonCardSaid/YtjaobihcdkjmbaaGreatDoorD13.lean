/- What can be read as an expression is printed as a text that reads as the same, and is printed as itself: for every argument; a part of its proof. -/
import Derived.Test.YtjaobihcdkjmbaaGreatDoorDa
import Derived.Test.YtjaobihcdkjmbaaGreatDoorDb
import Derived.Test.YtjaobihcdkjmbaaGreatDoorD0
import Derived.Test.YtjaobihcdkjmbaaGreatDoorD4
import Derived.Test.YtjaobihcdkjmbaaGreatDoorD7
import Derived.Test.YtjaobihcdkjmbaaGreatDoorD8
import Derived.Test.YtjaobihcdkjmbaaGreatDoorD9
import Derived.Test.YtjaobihcdkjmbaaGreatDoorD10
import Derived.Test.YtjaobihcdkjmbaaGreatDoorD11
set_option linter.unusedVariables false
set_option linter.unusedSimpArgs false
namespace Go.Proofs.YtjaobihcdkjmbaaGreatDoor.PReadTokens
end Go.Proofs.YtjaobihcdkjmbaaGreatDoor.PReadTokens
namespace Go.Proofs.YtjaobihcdkjmbaaGreatDoorW.PrintWords
end Go.Proofs.YtjaobihcdkjmbaaGreatDoorW.PrintWords
set_option maxRecDepth 100000
set_option maxHeartbeats 8000000
section
namespace Go.Proofs.YtjaobihcdkjmbaaGreatDoor
open Go.RowKit Go.Proofs.YtjaobihcdkjmbaaGreatDoorW.PrintWords Go.Proofs.YtjaobihcdkjmbaaGreatDoor.PReadTokens
structure Laid (W:World):Prop where
 syn:∃te pe,W.cell? ⟨5,0,none⟩=some (.iface te pe)
 rng:∃te pe,W.cell? ⟨6,0,none⟩=some (.iface te pe)
theorem Laid.below {W w:World} (h:Laid W) (hb:Below W.heap.size W w):Laid w:=by
 obtain⟨a,b,h1⟩:=h.syn;obtain⟨c,d,h2⟩:=h.rng;exact⟨⟨a,b,zA0 hb h1⟩,⟨c,d,zA0 hb h2⟩⟩
theorem Atoi_fails (s:ByteArray) (hs:s.size≤100000) (h:∀v,Lib.atoiAll s.data.toList≠.ok v) (w:World) (hl:Laid w) :
  Calls Tryz.prog 216 #[.string s] w fun e w'=>∃n N,e=.returned (.tuple #[.int .i64 n,.iface 321 (.pointer (some ⟨N,0,none⟩))])∧Below w.heap.size w w':=by
 obtain⟨te,pe,h1⟩:=hl.syn;obtain⟨te2,pe2,h2⟩:=hl.rng
 cases hc:Lib.atoiAll s.data.toList with
 | ok v=>exact absurd hc (h v)
 | range=>exact (Go.Proofs.Any.strconv_Atoi_range Tryz.laysC172 s kD4 hc _ w h2 (.inr ⟨_,_,rfl⟩)).mono fun e w' ⟨N,he,_,_,hb⟩=>⟨_,N,he,hb⟩
 | _=>exact (Go.Proofs.Any.strconv_Atoi_syntax Tryz.laysC172 s kD4 hc _ w h1 (.inr ⟨_,_,rfl⟩)).mono fun e w' ⟨N,he,_,_,hb⟩=>⟨_,N,he,hb⟩
theorem zGp (s:ByteArray) (hs:s.size≤100000) (v:Int) (h:Lib.atoiAll s.data.toList=.ok v) (w:World) :
  Calls Tryz.prog 216 #[.string s] w fun e w'=>e=.returned (.tuple #[.int .i64 v,.nilIface])∧Below w.heap.size w w':=by
 refine (Tryz.strconv_Atoi_ok s kD4 v h w).mono ?_;rintro e w' ⟨he,rfl | ⟨t,rfl⟩⟩
 ·exact⟨he,kA3 _ _⟩
 ·exact⟨he,bytes_below (kA3 _ _) (kA2 _) _ _⟩
structure St (W0:World) (R B:Nat) (ts:List S47) (en now:Nat) (w:World):Prop where
 rdr:Rdr w R ts now en
 low:Below W0.heap.size W0 w
 base:B≤w.heap.size
 pos:now≤ts.length
structure Env (W0:World) (R B:Nat) (ts:List S47):Prop where
 laid:Laid W0
 own:W0.heap.size≤R
 made:R<B
 few:ts.length≤100000
 small:∀t∈ts,t.f1.size≤2000
theorem St.took {W0:World} {R B:Nat} {ts:List S47} {en now n:Nat} {w w':World} (E:Env W0 R B ts) (h:St W0 R B ts en now w) (k:Took w R ts n en w') (hn:n≤ts.length):St W0 R B ts en n w' :=
 ⟨k.rdr,h.low.grown k.grown h.low.size (fun j e=>by injection e with e;have:=E.own;omega),kAB h.base k.grown.size,hn⟩
theorem St.below {W0:World} {R B:Nat} {ts:List S47} {en now:Nat} {w w':World} (h:St W0 R B ts en now w) (hb:Below w.heap.size w w'):St W0 R B ts en now w' :=
 ⟨h.rdr.keep hb,h.low.trans (hb.mono h.low.size),kAB h.base hb.size,h.pos⟩
theorem St.laid {W0:World} {R B:Nat} {ts:List S47} {en now:Nat} {w:World} (E:Env W0 R B ts) (h:St W0 R B ts en now w):Laid w:=E.laid.below h.low
theorem zBx {ts:List S47} {en now:Nat} (hs:∀t∈ts,t.f1.size≤2000):(tokP ts en now).f1.size≤2000:=by
 unfold tokP;split
 ·exact hs _ (kAC _)
 ·exact kAI _
def numS (ts:List S47) (en:Nat) (lo hi:Int) (now:Nat):Except Int (Int×Nat) :=
 match Lib.atoiAll (tokP ts en now).f1.data.toList with
 | .ok v=>if (tokP ts en now).f0=2∧lo≤v∧v≤hi then .ok (v,now+1) else .error (tokP ts en now).f2
 | _=>.error (tokP ts en now).f2
def zDs (w:World) (R:Nat) (ts:List S47) (en:Nat):Except Int (Int×Nat)→Ending→World→Prop
 | .ok (v,n),e,w'=>e=.returned (.int .i64 v)∧Took w R ts n en w'
 | .error p,e,w'=>e=zAm p∧w.grownBy w' (some R)
theorem number_ok (W0:World) (R B:Nat) (ts:List S47) (en now:Nat) (lo hi v:Int) (w:World) (E:Env W0 R B ts) (h:St W0 R B ts en now w) (hlt:now<ts.length)
  (h2:((tokP ts en now).f0==2)=true) (hv:Lib.atoiAll (tokP ts en now).f1.data.toList=.ok v) (hlo:lo≤v) (hhi:v≤hi) :
  Calls Tryz.prog 179 #[.pointer (some ⟨R,0,none⟩),.int .i64 lo,.int .i64 hi] w fun e w'=>e=.returned (.int .i64 v)∧Took w R ts (now+1) en w':=by
 have hp:=zB7 R ts now en w h.rdr h.pos;have hat:=zGp _ (kAB (zBx (en:=en) (now:=now) E.small) kD4) v hv;have hin:∀w,Calls Tryz.prog 104 #[.int .i64 v,.int .i64 lo,.int .i64 hi] w fun e w'=>e=.returned (.bool true)∧∃n,w'=w.drewN n:=fun w =>
  (zD6.calls v lo hi true w (by unfold zD6.f;rw[kAa hlo,kA8 hhi])).mono fun _ _ ⟨a,b⟩=>⟨a,b.out⟩
 unfold tokV at hp;generalize tokP ts en now=t at *;have H:=kA1 h;have Hin:=kA1 hin;have few:=E.few;clear h hv hin hlo hhi E;go_enter Tryz.func179,Tryz.ntmps179;go_wp2_with (first
  | (go_at_call 136;refine hp.mono ?_;rintro e w1 ⟨rfl,hb1⟩;have hn1:=zA4 w1 (tokO t);have hb2:=hb1.alloc hb1.size (tokO t))
  | (go_at_call 216;refine (hat _).mono ?_;rintro e w2 ⟨rfl,hb3⟩;have hT:=zAa hb3 hn1;have t0:=zA1 hT 0;have hb4:=hb2.trans (hb3.mono hb2.size);obtain⟨c1,f1,c3,c4,lt⟩:=(H.out.rdr.keep hb4).cells))
 go_quiet ((first | (go_at_call 104;exact kCK (Hin.out _)) | (go_at_call 93;exact Calls.quiet_of_same (zDK R _))))
 go_wp2;go_ret;exact⟨rfl,Took.next H.out.rdr (zA3 hb4 nq)⟩
theorem zBE (n lo hi:Int) (w:World):Calls Tryz.prog 104 #[.int .i64 n,.int .i64 lo,.int .i64 hi] w fun e w'=>e=.returned (.bool (decide (lo≤n)&&decide (n≤hi)))∧w'=w:=by
 go_enter Tryz.func104,Tryz.ntmps104;go_wp2
 all_goals
  go_ret;refine⟨?_,rfl⟩
  first | (simp_all;done) | (simp_all;omega)
theorem number_no (W0:World) (R B:Nat) (ts:List S47) (en now:Nat) (lo hi:Int) (w:World) (E:Env W0 R B ts) (h:St W0 R B ts en now w)
  (hno:∀v,Lib.atoiAll (tokP ts en now).f1.data.toList=.ok v→¬((tokP ts en now).f0=2∧lo≤v∧v≤hi)) :
  Calls Tryz.prog 179 #[.pointer (some ⟨R,0,none⟩),.int .i64 lo,.int .i64 hi] w fun e w'=>e=zAm (tokP ts en now).f2∧w.grownBy w' (some R):=by
 have hp:=zB7 R ts now en w h.rdr h.pos;have hm:=fun w' (hb:Below w.heap.size w w')=>zC4 R ts now en w' (h.rdr.keep hb) h.pos
 have hsz:=kAB (zBx (en:=en) (now:=now) E.small) (show 2000≤100000 by omega);have hat:(∃v,Lib.atoiAll (tokP ts en now).f1.data.toList=.ok v)∨(∀v,Lib.atoiAll (tokP ts en now).f1.data.toList≠.ok v):=by
  cases hc:Lib.atoiAll (tokP ts en now).f1.data.toList with
  | ok v=>exact .inl ⟨v,rfl⟩
  | range=>exact .inr (fun v h=>by cases h)
  | _=>exact .inr (fun v h=>by cases h)
 unfold tokV at hp;unfold zAm at hm⊢;generalize tokP ts en now=t at *;have Hm:=kA1 hm;have Hlaid:=kA1 (fun w' (hb:Below w.heap.size w w')=>(h.laid E).below hb);have H:=kA1 h;have Hat:(∃v,Lib.atoiAll t.f1.data.toList=.ok v∧∀w',Calls Tryz.prog 216 #[.string t.f1] w' fun e w''=>e=.returned (.tuple #[.int .i64 v,.nilIface])∧Below w'.heap.size w' w'') ∨
   (∀w',Laid w'→Calls Tryz.prog 216 #[.string t.f1] w' fun e w''=>∃n N,e=.returned (.tuple #[.int .i64 n,.iface 321 (.pointer (some ⟨N,0,none⟩))])∧Below w'.heap.size w' w''):=by
  rcases hat with⟨v,hv⟩ | hv
  ·exact .inl ⟨v,hv,fun w'=>zGp _ hsz v hv w'⟩
  ·exact .inr fun w' hl=>Atoi_fails _ hsz hv w' hl
 have few:=E.few;clear h hm hat E;rcases Hat with⟨v,hv,hat⟩ | hat
 ·have hno':=hno v hv;clear hno hv
  cases h2:(t.f0==2)
  ·go_enter Tryz.func179,Tryz.ntmps179;go_wp2_with (first
    | (go_at_call 136;refine hp.mono ?_;rintro e w1 ⟨rfl,hb1⟩;have hn1:=zA4 w1 (tokO t);have hb2:=hb1.alloc hb1.size (tokO t))
    | (go_at_call 216;refine (hat _).mono ?_;rintro e w2 ⟨rfl,hb3⟩;have hT:=zAa hb3 hn1;have t0:=zA1 hT 0;have hb4:=hb2.trans (hb3.mono hb2.size)))
   have hb5:=hb4.drew;go_still_tail 16,kD5;change wpList _ _ _ _ _ w2.drew;go_wp2_with (go_at_call 93;refine (Hm.out _ hb5).mono ?_;rintro e w6 ⟨rfl,hb6⟩);exact⟨rfl,rfl,kAk (kAS _ _) (hb5.trans (hb6.mono hb5.size))⟩
  ·have hin:∀w',Calls Tryz.prog 104 #[.int .i64 v,.int .i64 lo,.int .i64 hi] w' fun e w''=>e=.returned (.bool false)∧w''=w':=fun w'=>by
    have h1:=zBE v lo hi w';rw[kAA] at h2;have e:(decide (lo≤v)&&decide (v≤hi))=false:=by
     rw[kAT,kBT,kBT];by_cases hlo:lo≤v
     ·exact .inr (fun hhi=>hno' ⟨h2,hlo,hhi⟩)
     ·exact .inl hlo
    rwa [e] at h1
   have Hin:=kA1 hin;clear hin hno';go_enter Tryz.func179,Tryz.ntmps179;go_wp2_with (first
    | (go_at_call 136;refine hp.mono ?_;rintro e w1 ⟨rfl,hb1⟩;have hn1:=zA4 w1 (tokO t);have hb2:=hb1.alloc hb1.size (tokO t))
    | (go_at_call 216;refine (hat _).mono ?_;rintro e w2 ⟨rfl,hb3⟩;have hT:=zAa hb3 hn1;have t0:=zA1 hT 0;have hb4:=hb2.trans (hb3.mono hb2.size)))
   have hb5:=hb4.drew;go_still_tail 16,kD5;still_call (Hin.out _)
   repeat still_step
   try refine wpStill_nil ?_
   change wpList _ _ _ _ _ w2.drew;go_wp2_with (go_at_call 93;refine (Hm.out _ hb5).mono ?_;rintro e w6 ⟨rfl,hb6⟩);exact⟨rfl,rfl,kAk (kAS _ _) (hb5.trans (hb6.mono hb5.size))⟩
 ·cases h2:(t.f0==2)
  ·go_enter Tryz.func179,Tryz.ntmps179;go_wp2_with (first
    | (go_at_call 136;refine hp.mono ?_;rintro e w1 ⟨rfl,hb1⟩;have hn1:=zA4 w1 (tokO t);have hb2:=hb1.alloc hb1.size (tokO t);have hl1:=kA1 (Hlaid.out _ hb2))
    | (go_at_call 216;refine (hat _ hl1.out).mono ?_;rintro e w2 ⟨n,N,rfl,hb3⟩;have hT:=zAa hb3 hn1;have t0:=zA1 hT 0;have hb4:=hb2.trans (hb3.mono hb2.size)))
   have hb5:=hb4.drew;go_still_tail 16,kD5;change wpList _ _ _ _ _ w2.drew;go_wp2_with (go_at_call 93;refine (Hm.out _ hb5).mono ?_;rintro e w6 ⟨rfl,hb6⟩);exact⟨rfl,rfl,kAk (kAS _ _) (hb5.trans (hb6.mono hb5.size))⟩
  ·go_enter Tryz.func179,Tryz.ntmps179;go_wp2_with (first
    | (go_at_call 136;refine hp.mono ?_;rintro e w1 ⟨rfl,hb1⟩;have hn1:=zA4 w1 (tokO t);have hb2:=hb1.alloc hb1.size (tokO t);have hl1:=kA1 (Hlaid.out _ hb2))
    | (go_at_call 216;refine (hat _ hl1.out).mono ?_;rintro e w2 ⟨n,N,rfl,hb3⟩;have hT:=zAa hb3 hn1;have t0:=zA1 hT 0;have hb4:=hb2.trans (hb3.mono hb2.size)))
   have hb5:=hb4.drew;go_still_tail 16,kD5;change wpList _ _ _ _ _ w2.drew;go_wp2_with (go_at_call 93;refine (Hm.out _ hb5).mono ?_;rintro e w6 ⟨rfl,hb6⟩);exact⟨rfl,rfl,kAk (kAS _ _) (hb5.trans (hb6.mono hb5.size))⟩
theorem extract_whole (s:ByteArray):s.extract 0 s.size=s:=by
 apply kBG;rw[← kBx,kBj];exact kBE (kA2 _)
theorem chunks1_in (n l:Nat) (box:Addr) (s:ByteArray) (h0:0<s.size) (h1:s.size≤9) (W:World) (J:World→Prop) (hbox:W.cell? box=some (.string s))
  (hY:YieldAt Fence.wide (n-1) Tryz.prog l #[.string s] W fun e B=>e=.returned (.bool true)∧J B∧B.cell? box=some (.string s)∧B.frozen? box=false) :
  CallsIn Fence.wide n Tryz.prog 257 #[.func (.yield l) #[] #[],.pointer (some box)] W fun e W'=>e=.returned (.tuple #[])∧∃B,J B∧W'=B.setCell box (.string ⟨#[]⟩):=by
 have hD:Fence.wide.depth.isSome=false:=rfl;obtain⟨fn,tmps,assign,body,hy,hR⟩:=hY;have hmax:max 0 ((s.size:Int)-9)=0:=kD4
 have hex:=extract_whole s;have hex0:s.extract 0 0=⟨#[]⟩:=by apply kBG;rw[← kBx,kBj];simp
 have hpos:decide (0<(s.size:Int))=true:=kA8 kD4;refine kCB Tryz.func257 rfl trivial ?_ rfl;simp only[Tryz.ntmps257,kAb,List.length_cons,List.length_nil,Nat.reduceAdd,Nat.reduceSub,kB2,Array.replicate_zero,kBk,kAR,List.nil_append,List.cons_append]
 gi_wp2
 gi_loopg [] 1 (fun k wr=>(k=1∧wr=W)∨(k=0∧∃B,J B∧wr=B.setCell box (.string ⟨#[]⟩)∧wr.cell? box=some (.string ⟨#[]⟩)))
 case atStart=>exact .inl ⟨rfl,rfl⟩
 case round =>
  rcases hrel with⟨rfl,rfl⟩ | ⟨rfl,B,hJ,rfl,hc⟩
  ·gi_wp2
   refine hR.mono ?_;rintro e B ⟨rfl,hJ,hb,hf⟩;clear hR hy hbox
   gi_wp2
   gi_roundg 0
   case measure=>omega
   case rel=>exact .inr ⟨rfl,B,hJ,rfl,World.cell?_setCell_same _ _ _ hb⟩
  ·gi_wp2
   exact kBf (kB4 rfl _ _ _) rfl ⟨rfl,B,hJ,rfl⟩
def chunkPost (bb:Nat) (I:World→Prop) (W:World):Exit→Act→World→Prop
 | .normal,_,W'=>KeepsOthers W W'∧I W'∧W'.heap[bb]?=W.heap[bb]?
 | _,_,_=>False
theorem zFk {n:Nat} {g:Operand} {p:Tmp} {assign body:Code} {Q:Exit→Act→World→Prop} {a:Act} {w:World} {bb:Nat} {s:ByteArray} (tm:Array Value)
  (hg:a.eval g=.func (.func 257) #[] #[.pointer (some ⟨bb,0,none⟩)]) (h0:0<s.size) (h1:s.size≤9) (hbox:w.heap[bb]?=some (.cells #[.string s] 9 (0,0)))
  (I:World→Prop) (hI:∀A B k,I A→(k=w.heap.size+1∨k=bb)→A.grownBy B (some k)→I B)
  (hassign:∀(l:Nat) (A:World) (K:Act→World→Prop),K { tmps:=tm,defers:=[] } A →
   assign.wpIn (Fence.wide.inRound l) (n-1-1) Tryz.prog (Exit.then K (fun _ _ _=>False)) { tmps:=a.tmps.setIfInBounds p (.string s),defers:=[] } A)
  (hbody:∀(W0:World),w.grownBy W0 none→W0.heap.size=w.heap.size+2 →
   body.wpIn (Fence.wide.inRound (w.heap.size+1)) (n-1-1) Tryz.prog (chunkPost bb I W0) { tmps:=tm,defers:=[] } W0)
  (hdone:∀(W:World),I W→W.heap[w.heap.size]?=some (.deferred (some []))→Q .normal { a with defers:={ target:=.collected w.heap.size,args:=#[] } :: a.defers } W) :
  (Code.rangeFunc g #[p] assign body).wpIn Fence.wide n Tryz.prog Q a w:=by
 refine wpIn_rangeFunc ?_;intro fn _;obtain⟨rec,hrec⟩:∃rec:LoopState→Option Code→Loop,rec=fun st pe=>{ state:=st,pending:=pe,fn,tmps:=a.tmps,params:=#[p],assign,body,defers:=w.heap.size }:=⟨_,rfl⟩
 obtain⟨W1,hW1⟩:∃W1,(w.alloc (.deferred (some []))).alloc (.loop (rec .ready none))=W1:=⟨_,rfl⟩;have hsz1:W1.heap.size=w.heap.size+2:=by rw[← hW1];simp
 have hL1:W1.heap[w.heap.size+1]?=some (.loop (rec .ready none)):=by
  rw[← hW1];have:=kBQ (w.alloc (.deferred (some []))) (.loop (rec .ready none));rwa [kAw] at this
 have hK1:W1.heap[w.heap.size]?=some (.deferred (some [])):=by
  rw[← hW1];exact (kA4 _ _ _ kD6).trans (kBQ w _)
 have hbl:=zA5 hbox;have hg1:w.grownBy W1 none:=by rw[← hW1];exact zCo _ _ _ _
 have hb1:W1.heap[bb]?=some (.cells #[.string s] 9 (0,0)):=(hg1.block _ hbl kD6).trans hbox;refine⟨w.heap.size+1,[{ target:=.collected w.heap.size,args:=#[] }],W1,{ target:=.fn (.func 257) #[.pointer (some ⟨bb,0,none⟩)],args:=#[.func (.yield (w.heap.size+1)) #[] #[]] },W1,257,
  #[.func (.yield (w.heap.size+1)) #[] #[],.pointer (some ⟨bb,0,none⟩)],W1,?_,?_,?_,?_,zER,?_⟩
 ·rw[← hW1,hrec];exact run_enterLoop_outer _ _ _ _ _
 ·simp only[resolve,hg];simp[go_sem]
 ·intro f' _;trivial
 ·simp only[invoke];simp[go_sem]
 ·refine (chunks1_in (n-1) (w.heap.size+1) ⟨bb,0,none⟩ s h0 h1 W1
   (fun W=>I W∧W.heap[w.heap.size+1]?=some (.loop (rec .ready none))∧W.heap[w.heap.size]?=some (.deferred (some []))) (zA1 hb1 0) ?_).mono ?_
  ·have hy:=run_yield (P:=Tryz.prog) (args:=#[.string s]) hL1 (by rw[hrec];rfl);rw[hrec] at hy;refine⟨fn,_,assign,body,hy,roundIn_of_wpIn trivial ?_⟩;have hzip:(#[p].zip #[Value.string s]).foldl (fun tmps (x:Tmp×Value)=>tmps.setIfInBounds x.1 x.2) a.tmps=a.tmps.setIfInBounds p (.string s):=kD6
   show assign.wpIn _ _ _ _ { tmps:=(#[p].zip #[Value.string s]).foldl (fun tmps (x:Tmp×Value)=>tmps.setIfInBounds x.1 x.2) a.tmps,defers:=[] } _;rw[hzip];refine hassign _ _ _ ?_;refine⟨_,run_beginRound hL1 (by rw[hrec]),?_⟩;obtain⟨W0,hW0⟩:∃W0,W0=W1.putObj (w.heap.size+1) (.loop { rec .ready none with state:=.busy }):=⟨_,rfl⟩;show Code.wpIn _ _ _ body _ _ (W1.putObj (w.heap.size+1) (.loop { rec .ready none with state:=.busy }));rw[← hW0];have hgr0:W1.grownBy W0 (some (w.heap.size+1)):=by rw[hW0];exact zAz _ _ _
   have hz0:W0.heap.size=w.heap.size+2:=by rw[hW0];simp[hsz1]
   have hl2:W0.heap[w.heap.size+1]?=some (.loop { rec .ready none with state:=.busy }):=by rw[hW0];exact kBe (by simp[hsz1])
   have hk2:W0.heap[w.heap.size]?=some (.deferred (some [])):=(hgr0.block _ kD4 kDa).trans hK1;have hb2:W0.heap[bb]?=some (.cells #[.string s] 9 (0,0)):=(hgr0.block _ kD4 kDa).trans hb1;have hgw:w.grownBy W0 none:=⟨hgr0.os.trans hg1.os,hgr0.tape.trans hg1.tape,hgr0.output.trans hg1.output,kAB hg1.size hgr0.size,fun k hk _=>(hgr0.block k kD4 kDa).trans (hg1.block k hk kD6)⟩;refine wpIn_mono (hbody W0 hgw hz0) ?_;rintro e a3 W3 hp
   cases e with
   | normal =>
    obtain⟨hk3,hi3,hbb⟩:=hp;have hl3:=hk3.same _ _ hl2 rfl;have hd3:=hk3.same _ _ hk2 rfl;have hr:=run_endRound (P:=Tryz.prog) none hl3;rw[hrec] at hr hl3;have hb3:(W3.putObj (w.heap.size+1) (.loop (rec .ready none))).heap[bb]?=some (.cells #[.string s] 9 (0,0)):=(kAq kD4).trans (hbb.trans hb2);rw[hrec] at hb3;refine⟨_,_,hr,rfl,⟨hI _ _ _ hi3 (.inl rfl) (zAz _ _ _),?_,(kAq kD4).trans hd3⟩,zA1 hb3 0,zA2 hb3 0⟩;rw[hrec];exact kBe (zA5 hl3)
   | ret=>exact hp.elim
   | exit id=>exact hp.elim
   | goto t=>exact hp.elim
   | panic ch=>exact hp.elim
   | outgrown=>exact hp.elim
  ·rintro e W2⟨rfl,B,⟨hi,hl,hk⟩,rfl⟩;have hl2:(B.setCell ⟨bb,0,none⟩ (.string ⟨#[]⟩)).heap[w.heap.size+1]?=some (.loop (rec .ready none)):=(kA5 _ _ _ _ kD8).trans hl;have hk2:(B.setCell ⟨bb,0,none⟩ (.string ⟨#[]⟩)).heap[w.heap.size]?=some (.deferred (some [])):=(kA5 _ _ _ _ kD8).trans hk;have he:=run_endLoop (P:=Tryz.prog) hl2 kDH;rw[hrec] at he;exact⟨none,_,he,hdone _ (hI _ _ _ (hI _ _ _ hi (.inr rfl) (kAf _ _ _ _)) (.inl rfl) (zAz _ _ _)) ((kAq kD4).trans hk2)⟩
theorem part270_0 (a b:Int) (w:World):(part 270 #[.int .u32 a,.int .u32 b] (0*Tryz.prog.cellsOf 270)).run Tryz.prog w=.ok (.int .u32 a) w:=kD5
theorem part270_1 (a b:Int) (w:World):(part 270 #[.int .u32 a,.int .u32 b] (1*Tryz.prog.cellsOf 270)).run Tryz.prog w=.ok (.int .u32 b) w:=kD5
theorem part270_2 (a b:Int) (w:World):(part 270 #[.int .u32 a,.int .u32 b] (Tryz.prog.cellsOf 270)).run Tryz.prog w=.ok (.int .u32 b) w:=kD5
theorem eq309 (a b c d:Int) (w:World):(Op.equalIn 10000 309 (.agg #[.int .u32 a,.int .u32 b]) (.agg #[.int .u32 c,.int .u32 d])).run Tryz.prog w=.ok (a==c&&b==d) w:=by
 obtain⟨i,hi⟩:=kC3.1 (show (Tryz.prog.info? 270).isSome=true by kernel_rfl);have h:=run_equalIn_array (P:=Tryz.prog) w 9999 #[.int .u32 a,.int .u32 b] #[.int .u32 c,.int .u32 d] Tryz.underlying309 hi;have h0:∀x y:Int,(Op.equalIn 9999 270 (.int .u32 x) (.int .u32 y)).run Tryz.prog w=.ok (x==y) w:=fun x y=>run_equalIn_int w 9998 270 .u32 .u32 x y Tryz.underlying270
 refine h.trans ?_;show (Op.eqItems 9999 270 (Tryz.prog.cellsOf 270) _ _ [0,1]).run Tryz.prog w=_;simp only[Op.eqItems,kCf,part270_0,part270_1,Result.andThen_ok,h0]
 cases hx:(a==c)<;>cases hy:(b==d)<;>simp[part270_2,h0,hy]
def cmpI (a b:Int):Int:=if a<b then -1 else if a > b then 1 else 0
theorem cmp32 (a b:Int) (w:World):Calls Tryz.prog 264 #[.int .u32 a,.int .u32 b] w fun e w'=>e=.returned (.int .i64 (cmpI a b))∧∃n,w'=w.drewN n :=
 (cmp_Compare_uint32.calls a b (cmpI a b) w (by
  have h1:cmp_isNaN_uint32.f a=some false:=by unfold cmp_isNaN_uint32.f;simp
  have h2:cmp_isNaN_uint32.f b=some false:=by unfold cmp_isNaN_uint32.f;simp
  unfold cmp_Compare_uint32.f cmpI;rw[h1,h2];by_cases hlt:a<b
  ·simp[hlt]
  ·by_cases hgt:a > b
   ·simp[hlt,hgt]
   ·simp[hlt,hgt])).mono fun _ _ ⟨h1,h2⟩=>⟨h1,h2.out⟩
structure Trim (l:List Int) (k:Nat):Prop where
 le:k≤l.length
 zero:∀i (h:i<l.length),k≤i→l[i]=0
 last:∀i (h:i<l.length),k=i+1→l[i]≠0
def madeV (s:Int) (A:Option Addr) (k:Nat):Value:=if k=0 then .agg #[.int .i64 0,.slice none 0 0] else .agg #[.int .i64 s,.slice A k k]
theorem made_calls (s:Int) (A:Addr) (l:List Int) (c:Nat) (w:World) (hc:l.length≤c) (hsm:l.length≤1000000) (hcells:∀i (h:i<l.length),w.cell? (A.add i)=some (.int .u32 l[i])) :
  Calls Tryz.prog 229 #[.int .i64 s,.slice (some A) l.length c] w fun e w'=>∃k,Trim l k∧e=.returned (madeV s (some A) k)∧Below w.heap.size w w':=by
 have HCL:=kA1 hcells;clear hcells;have hb0:Below w.heap.size w (w.alloc (.cells #[.int .i64 0,.slice none 0 0] 234)):=(kA3 _ w).alloc (kA2 _) _;have h0:=zA4 w (.cells #[.int .i64 0,.slice none 0 0] 234);go_enter Tryz.func229,Tryz.ntmps229;go_wp2_with fail;generalize w.alloc (.cells #[.int .i64 0,.slice none 0 0] 234)=X at *;go_loopg [5] l.length (fun m i wr=>m≤l.length∧i=.int .i64 m∧wr=X∧Hid (∀i (h:i<l.length),m≤i→l[i]=0))
 case atStart=>exact⟨kA2 _,rfl,rfl,kA1 (fun i h hk=>by omega)⟩
 case round =>
  obtain⟨hkl,rfl,rfl,HZ⟩:=hrel;have d0:=zA1 h0 0;have d1:=zA1 h0 1;have f0:=zA2 h0 0;have f1:=zA2 h0 1
  cases gk with
  | zero =>
   have HF:Hid (∀s':Int,Trim l 0):=kA1 (fun _=>⟨kAI _,HZ.out,fun i h e=>by omega⟩);go_wp2;refine kAi (zAg Tryz.results229 _ _ w.heap.size 234 _ (0,0) _ rfl (zBX _ _ h0) Tryz.underlying234 rfl zC1) rfl ⟨0,HF.out 0,rfl,(hb0.setCell (p:=⟨w.heap.size,0,none⟩) (kA2 _) _).setCell (p:=⟨w.heap.size,1,none⟩) (kA2 _) _⟩
  | succ k =>
   have hlt:k<l.length:=kD4
   have hcl:=zA0 hb0 (HCL.out k hlt);by_cases hz:l[k]=0
   ·rw[hz] at hcl;have HZ2:Hid (∀i (h:i<l.length),k≤i→l[i]=0):=kA1 (fun i h hk=>by
     by_cases hik:i=k
     ·subst hik;exact hz
     ·exact HZ.out i h kD4)
    clear hz;go_wp2;go_roundg k
    case measure=>omega
    case rel=>exact⟨kD4,by go_num,rfl,HZ2⟩
   ·have HF:Hid (Trim l (k+1)):=Lib.hid ⟨hkl,HZ.out,fun i h e=>by obtain rfl:i=k:=by omega
                                                                  exact hz⟩
    generalize l[k]=y at *;have hy:=zAF hz;have hk1:(((k+1:Nat):Int)==0)=false:=zAF kD4;clear hz;go_wp2;refine kAi (zAg Tryz.results229 _ _ w.heap.size 234 _ (0,0) _ rfl (zBX _ _ h0) Tryz.underlying234 rfl zC1) rfl ⟨k+1,HF.out,by unfold madeV;rw[kA9 kD4],(hb0.setCell (p:=⟨w.heap.size,0,none⟩) (kA2 _) _).setCell (p:=⟨w.heap.size,1,none⟩) (kA2 _) _⟩
theorem num_ne {w:World} {g:Addr} {n a:Int} {R:Nat} {B:Option Addr} {l c:Nat} {t:TypeId} (hg:w.cell? g=some (.int .u32 n)) (hR:w.heap[R]?=some (.cells #[.int .i64 a,.slice B l c] t (0,0))):g.block≠R:=by
 intro e;obtain⟨b,o,sp⟩:=g;simp only at e;subst e;simp only[World.cell?,hR] at hg
 match o with
 | 0=>simp at hg
 | 1=>simp at hg
 | k+2=>simp at hg
structure One (w:World) (n:Int) (v:Value):Prop where
 out:∃g c,1≤c∧v=.agg #[.int .i64 1,.slice (some g) 1 c]∧w.cell? g=some (.int .u32 n)
theorem made_first (A:Addr) (n:Int) (r:List Int) (c:Nat) (w:World) (hn:n≠0) (hr:∀x∈r,x=0) (hc:(n :: r).length≤c) (hsm:(n :: r).length≤1000000) (hcells:∀i (h:i<(n :: r).length),w.cell? (A.add i)=some (.int .u32 (n :: r)[i])) :
  Calls Tryz.prog 229 #[.int .i64 1,.slice (some A) (n :: r).length c] w fun e w'=>∃v,e=.returned v∧One w' n v∧Below w.heap.size w w':=by
 refine (made_calls 1 A (n :: r) c w hc hsm hcells).mono ?_;rintro e w' ⟨k,ht,rfl,hb⟩;have hk:k=1:=by
  rcases kBU k 1 with h | h
  ·exact absurd (ht.zero 0 kD6 kD4) hn
  ·rcases kBU 1 k with h2 | h2
   ·obtain⟨j,rfl⟩:∃j,k=j+1:=⟨k-1,kD4⟩;have hl:=ht.le;have:=ht.last j kD4 rfl;obtain⟨i,rfl⟩:∃i,j=i+1:=⟨j-1,kD4⟩;exact absurd (hr _ (kAC (by simp at hl;omega))) this
   ·omega
 subst hk;refine⟨_,rfl,⟨A,1,kA2 _,rfl,?_⟩,hb⟩;have:=hcells 0 kD6;rw[kAH] at this;exact zA0 hb this
theorem of1_calls (w:World):Calls Tryz.prog 192 #[.int .i64 1] w fun e w'=>∃v,e=.returned v∧One w' 1 v∧Below w.heap.size w w':=by
 have hb0:Below w.heap.size w ((w.alloc (.cells #[.int .i64 0,.slice none 0 0] 234)).alloc (.cells #[.int .u32 1,.int .u32 0,.int .u32 0] 270)):=((kA3 _ w).alloc (kA2 _) _).alloc kD6 _;have h0:((w.alloc (.cells #[.int .i64 0,.slice none 0 0] 234)).alloc (.cells #[.int .u32 1,.int .u32 0,.int .u32 0] 270)).heap[w.heap.size]?=some (.cells #[.int .i64 0,.slice none 0 0] 234 (0,0)):=(kA4 _ _ _ kD6).trans (zA4 w _);have h1:((w.alloc (.cells #[.int .i64 0,.slice none 0 0] 234)).alloc (.cells #[.int .u32 1,.int .u32 0,.int .u32 0] 270)).heap[w.heap.size+1]?=some (.cells #[.int .u32 1,.int .u32 0,.int .u32 0] 270 (0,0)):=zAD _ _ _ kD6;go_enter Tryz.func192,Tryz.ntmps192;go_wp2_with fail;have hm:=made_first ⟨w.heap.size+1,0,none⟩ 1 [0,0] 3 _ kD7 kD6 (kA2 _) kD6 (fun i h=>by
  have:=zA1 h1 i;rw[zBU,this]
  match i,h with
  | 0,_=>rfl
  | 1,_=>rfl
  | 2,_=>rfl)
 simp only[List.length_cons,List.length_nil] at hm;refine hm.mono ?_;rintro e w1 ⟨v,rfl,hv,hb1⟩;have hr:=zAa hb1 h0;have hbw:=hb0.trans (hb1.mono kD8);obtain⟨g,c,hc,rfl,hg⟩:=hv.out;have d0:=zA1 hr 0;have d1:=zA1 hr 1;have f0:=zA2 hr 0;have f1:=zA2 hr 1;have hne:=num_ne hg hr;go_wp2;have hfar:((w1.setCell ⟨w.heap.size,0,none⟩ (.int .i64 1)).setCell ⟨w.heap.size,1,none⟩ (.slice (some g) 1 c)).cell? g=some (.int .u32 1):=by
  rw[kAz _ _ _ _ (kCr hne),kAz _ _ _ _ (kCr hne)];exact hg
 exact kAi (zAg Tryz.results192 _ _ w.heap.size 234 _ (0,0) _ rfl (zBX _ _ hr) Tryz.underlying234 rfl zC1) rfl ⟨_,rfl,⟨g,c,hc,rfl,hfar⟩,(hbw.setCell (p:=⟨w.heap.size,0,none⟩) (kA2 _) _).setCell (p:=⟨w.heap.size,1,none⟩) (kA2 _) _⟩
section
attribute [local go_sem] Oper.semAt_some
theorem zGe (n:Nat) (s:ByteArray) (w:World):CallsIn Fence.wide n Tryz.prog 228 #[.string s] w fun e w'=>e=.returned (.func (.func 257) #[] #[.pointer (some ⟨w.heap.size,0,none⟩)])∧w'=w.alloc (.cells #[.string s] 9):=by
 refine kCB Tryz.func228 rfl trivial ?_ rfl;simp only[Tryz.ntmps228,kAb,List.length_cons,List.length_nil,Nat.reduceAdd,Nat.reduceSub,kB2,Array.replicate_zero,kBk,kAR,List.nil_append,List.cons_append]
 gi_wp2
 go_ret;exact⟨rfl,rfl⟩
theorem info270:(Tryz.prog.info? 270).map (fun i=>(i.zero,i.size,i.bytes))=some (some (.int .u32 0),1,4):=kD5
theorem own_one {w:World} {base:Nat} {v x:Value} {e:TypeId} (h:w.ownsRow base e 1 v 1 [x]):∃g c,v=.slice (some ⟨g,0,none⟩) 1 c∧base≤g∧1≤c∧w.cell? ⟨g,0,none⟩=some x:=by
 rcases h.2 with⟨_,h0⟩ | ⟨g,cap,cur,rfl,hb,hg,hc,_⟩
 ·omega
 ·have:=kCu h (g:=g) rfl 0 x rfl;rw[zBU] at this;exact⟨g,cap,rfl,hb,hc,this⟩
structure Short (s:ByteArray) (n:Int):Prop where
 pos:0<s.size
 len:s.size≤9
 num:Lib.atoiAll s.data.toList=.ok n
 lo:1≤n
 hi:n≤9
 sign:strings_HasPrefix.f s ⟨#[45]⟩=some false
theorem zD6 (n:Nat) (s:ByteArray) (m:Int) (hs:Short s m) (w:World):CallsIn Fence.wide n Tryz.prog 189 #[.string s] w fun e w'=>∃v,e=.returned v∧One w' m v∧Below w.heap.size w w':=by
 have hD:Fence.wide.depth.isSome=false:=rfl;have hF227:Fence.wide.fn 227:=trivial;have hF228:Fence.wide.fn 228:=trivial;have hF229:Fence.wide.fn 229:=trivial;have hpre:=fun w=>(kBp (n:=n-1)).2 ((strings_HasPrefix.calls s ⟨#[45]⟩ false w hs.sign).mono fun _ _ ⟨a,b⟩=>(⟨a,b.out⟩:_∧∃n,_))
 have HS:=kA1 hs;clear hs;refine kCt Tryz.func189 rfl trivial ?_ rfl;simp only[Tryz.ntmps189,kAb,List.length_cons,List.length_nil,Nat.reduceAdd,Nat.reduceSub,kB2,Array.replicate_zero,kBk,kAR,List.nil_append,List.cons_append]
 gi_wp2_with (first
  | (gi_at_call 227;refine (hpre _).mono ?_;rintro e w' ⟨rfl,k,rfl⟩)
  | (gi_at_call 228;refine (zGe (n-1) s _).mono ?_;rintro e w' ⟨rfl,rfl⟩))
 obtain⟨W,hW⟩:∃W,W=((((w.alloc (.cells #[.int .i64 0,.slice none 0 0] 234)).drewN k).alloc (.cells #[.slice none 0 0] 232)).alloc (.cells #[.string s] 9)):=⟨_,rfl⟩;have hz:W.heap.size=w.heap.size+3:=by rw[hW];simp
 have hbW:Below w.heap.size w W:=by rw[hW];exact ((zA3 ((kA3 _ w).alloc (kA2 _) _) k).alloc kD6 _).alloc kD8 _
 have hR:W.heap[w.heap.size]?=some (.cells #[.int .i64 0,.slice none 0 0] 234 (0,0)):=by
  rw[hW];exact (kA4 _ _ _ kD8).trans ((kA4 _ _ _ kD6).trans (zAZ (zA4 w _) k))
 have hQ:W.heap[w.heap.size+1]?=some (.cells #[.slice none 0 0] 232 (0,0)):=by
  rw[hW];exact (kA4 _ _ _ kD6).trans (zAD _ _ _ kD6)
 have hB:W.heap[w.heap.size+1+1]?=some (.cells #[.string s] 9 (0,0)):=by
  rw[hW];exact zAD _ _ _ kD6
 rw[← hW];clear hW;refine zFk (bb:=w.heap.size+1+1) (s:=s)
  #[.string s,undef,.pointer (some ⟨w.heap.size,0,none⟩),.int .i64 1,.pointer (some ⟨w.heap.size+1,0,none⟩),.string s,undef,undef,.string s,.bool false,undef,undef,.string s,
   .func (.func 257) #[] #[.pointer (some ⟨w.heap.size+1+1,0,none⟩)],.string s,undef,undef,undef,undef,undef,undef,undef,undef,undef,undef,undef,undef,undef]
  rfl HS.out.pos HS.out.len hB
  (fun X=>∃g c,1≤c∧X.heap[w.heap.size+1]?=some (.cells #[.slice (some g) 1 c] 232 (0,0))∧X.cell? g=some (.int .u32 m)∧W.heap.size+2≤g.block∧X.heap[w.heap.size]?=some (.cells #[.int .i64 0,.slice none 0 0] 234 (0,0))∧Below w.heap.size w X)
  ?hI ?assign ?body ?done
 case hI =>
  rintro A B k⟨g,c,hc,h1,h2,h3,h4,h5⟩ hk hg;have hlt:=kAJ _ _ h2;have hcell:B.cell? g=some (.int .u32 m):=by
   have:=hg.block g.block hlt kDa;simpa[World.cell?,this] using h2
  exact⟨g,c,hc,(hg.block _ (zA5 h1) kDa).trans h1,hcell,h3,(hg.block _ (zA5 h4) kDa).trans h4,h5.grown hg h5.size (fun j e=>by injection e with e;omega)⟩
 case assign =>
  intro l A K hK
  gi_wp2
  exact hK
 case body =>
  rintro W0 hgw hz0;have hq0:W0.heap[w.heap.size+1]?=some (.cells #[.slice none 0 0] 232 (0,0)):=(hgw.block _ (zA5 hQ) kD6).trans hQ;have hr0:W0.heap[w.heap.size]?=some (.cells #[.int .i64 0,.slice none 0 0] 234 (0,0)):=(hgw.block _ (zA5 hR) kD6).trans hR;have hb0:W0.heap[w.heap.size+1+1]?=some (.cells #[.string s] 9 (0,0)):=(hgw.block _ (zA5 hB) kD6).trans hB;have hbw:Below w.heap.size w W0:=hbW.grown hgw hbW.size (fun k e=>by cases e);have hF216:(Fence.wide.inRound (W.heap.size+1)).fn 216:=trivial;have hat:=fun wx=>(kBp (n:=n-1-1-1)).2 (zGp s (by have:=HS.out.len;omega) m HS.out.num wx)
  have hat2:∀l wx,CallsIn (Fence.wide.inRound l) (n-1-1-1) Tryz.prog 216 #[.string s] wx fun e w''=>e=.returned (.tuple #[.int .i64 m,.nilIface])∧Below wx.heap.size wx w'':=fun _=>hat
  have hwm:m % 4294967296=m:=by have:=HS.out.lo;have:=HS.out.hi;omega
  clear hat
  gi_wp2
  refine⟨trivial,(hat2 _ _).mono ?_⟩;rintro e w1 ⟨rfl,hb1⟩;have hq1:=zAa hb1 hq0;have q0:=zA1 hq1 0;have q1:=zA2 hq1 0;have hbx:=hbw.trans (hb1.mono hbw.size);have hrx:=zAa hb1 hr0;have hb9:=zAa hb1 hb0;have hlt:=zA5 hb9;have hs1:=hb1.size;have HB0:=kA1 hb0;have HB1:=kA1 hb1;clear hq0 hr0 hb0 hat2;obtain⟨i0,hi,iz0,iz1,iz2⟩:=info_parts info270;have HO:(w1.alloc (.cells #[.int .u32 m] 270)).ownsRow (W.heap.size+2) 270 1 (.slice none 0 0) 0 []:=kCl _ _ _ _;have HC:∀j u,([Value.int .u32 m]:List Value)[j]?=some u→(w1.alloc (.cells #[.int .u32 m] 270)).cell? ((⟨w1.heap.size,0,none⟩:Addr).add j)=some u:=by simpa using kBL (zA4 w1 (.cells #[.int .u32 m] 270))
  have H1:=kA1 HO;have H2:=kA1 HC;clear HO HC
  gi_wp2_with (gi_at_builtin;go_loud (refine kC4 _ rfl _ _ 232 rfl (W.heap.size+2) 270 i0 (.int .u32 0) 1 4 Tryz.underlying232 hi iz0 iz1 iz2 rfl (kCq 0) (.slice none 0 0) 0 [] rfl H1.out ⟨w1.heap.size,0,none⟩ 1 1 [.int .u32 m] rfl rfl H2.out kDx kDn kD4 kD8 ?_);intro v' w2 hown' hgrow _;obtain⟨gv,cv,rfl,hge,hcv,hgc⟩:=own_one hown';have hq2:=(hgrow.block (w.heap.size+1) kD8 kDF).trans ((kA4 _ _ _ kD4).trans hq1);have c1:=zA1 hq2 0;have c2:=zA2 hq2 0;have HQ2:=kA1 hq2;clear hown' hq2)
  have hne:gv≠w.heap.size+1:=kD4
  have hgB:∀j o,w1.heap[j]?=some o→w2.heap[j]?=some o:=fun j o hj=>(hgrow.block j (by have:=zA5 hj;simp;omega) kDF).trans ((kA4 _ _ _ (zA5 hj)).trans hj)
  refine⟨?_,⟨⟨gv,0,none⟩,cv,hcv,zA8 HQ2.out 0 _,?_,by show _≤gv;omega,?_,?_⟩,?_⟩
  ·exact ((KeepsOthers.mk HB1.out.size (fun k o hk _=>zAa HB1.out hk)).trans (KeepsOthers.mk (by have:=hgrow.size;simp at this;omega) (fun k o hk _=>hgB k o hk))).trans (kBH _ _ _)
  ·rw[kAz _ _ _ _ kD8];exact hgc
  ·exact (kA5 _ _ _ _ kD6).trans (hgB _ _ hrx)
  ·exact ((hbx.alloc hbx.size (.cells #[.int .u32 m] 270)).grown hgrow kD8 (fun k e=>by simp[Value.ownBlock] at e)).setCell (p:=⟨w.heap.size+1,0,none⟩) kD6 _
  ·exact (kA5 _ _ _ _ kD6).trans ((hgB _ _ hb9).trans HB0.out.symm)
 case done =>
  rintro X⟨g,c,hc,h1,h2,h3,h4,h5⟩ hdef;rw[hz] at hdef;have q0:=zA1 h1 0;have hmf:=fun wx (hcell:wx.cell? g=some (.int .u32 m))=>made_first g m [] c wx (by have:=HS.out.lo;omega) kD6 (by simpa using hc) kD6 (fun i h=>by
   obtain rfl:i=0:=by simp at h;omega
   rw[kAH];exact hcell)
  have hmi:=(kBp (n:=n-1)).2 (hmf X h2);simp only[List.length_cons,List.length_nil,kAv] at hmi
  gi_wp2_with (gi_at_call 229;refine hmi.mono ?_;rintro e w1 ⟨v,rfl,hv,hb1⟩;obtain⟨gv,cv,hcv,rfl,hgv⟩:=hv.out;have hr1:=zAa hb1 h4;have d0:=zA1 hr1 0;have d1:=zA1 hr1 1;have f0:=zA2 hr1 0;have f1:=zA2 hr1 1;have HR1:=kA1 hr1;clear hr1)
  have hdl:=zA5 hdef;have hd1:=zAa hb1 hdef;have hd:((w1.setCell ⟨w.heap.size,0,none⟩ (.int .i64 1)).setCell ⟨w.heap.size,1,none⟩ (.slice (some gv) 1 cv)).heap[(w.heap.size+3)]?=some (.deferred (some [])):=(kA5 _ _ _ _ kDd).trans ((kA5 _ _ _ _ kDd).trans hd1);have hm:=num_ne hgv HR1.out;have hY:=zBX (.int .i64 1) (.slice (some gv) 1 cv) HR1.out;have hYg:((w1.setCell ⟨w.heap.size,0,none⟩ (.int .i64 1)).setCell ⟨w.heap.size,1,none⟩ (.slice (some gv) 1 cv)).cell? gv=some (.int .u32 m):=by
   rw[kAz _ _ _ _ (kCr hm),kAz _ _ _ _ (kCr hm)];exact hgv
  have hYb:=((h5.trans (hb1.mono h5.size)).setCell (p:=⟨w.heap.size,0,none⟩) (kA2 _) (.int .i64 1)).setCell (p:=⟨w.heap.size,1,none⟩) (kA2 _) (.slice (some gv) 1 cv);generalize (w1.setCell ⟨w.heap.size,0,none⟩ (.int .i64 1)).setCell ⟨w.heap.size,1,none⟩ (.slice (some gv) 1 cv)=Y at *;refine⟨kD6,.inl ⟨_,_,rfl,kC9 hd,?_⟩⟩;have j0:=(kAq (w:=Y) (o:=.deferred none) (r:=(w.heap.size+3)) kD4).trans hY;have hgb:gv.block≠(w.heap.size+3):=by
   intro e;have:=hYg;simp only[World.cell?,e,hd] at this
   cases this
  have j1:(Y.putObj (w.heap.size+3) (.deferred none)).cell? gv=some (.int .u32 m):=by
   have hh:=kAq (w:=Y) (o:=.deferred none) (r:=(w.heap.size+3)) (k:=gv.block) hgb;simpa[World.cell?,hh] using hYg
  refine⟨_,zAg Tryz.results189 _ _ w.heap.size 234 _ (0,0) _ rfl j0 Tryz.underlying234 rfl zC1,_,rfl,⟨gv,cv,hcv,rfl,j1⟩,hYb.grown (zAz _ _ _) hYb.size (fun k e=>by injection e with e;omega)⟩
end
def val:List Int→Int
 | []=>0
 | x :: r=>x+1000000000*val r
def Limb (l:List Int):Prop:=∀x∈l,0≤x∧x<1000000000
theorem zET (a b:List Int):val (a++b)=val a+1000000000 ^ a.length*val b:=by
 induction a with
 | nil=>simp[val]
 | cons x r ih=>simp only[List.cons_append,val,ih,List.length_cons,kBI];rw[kBB,Int.add_assoc,← kB3,kBg (1000000000 ^ r.length)]
theorem zBq (n:Nat):(0:Int)<1000000000 ^ n:=Int.pow_pos kD4
theorem pow9_le {i j:Nat} (h:i≤j):(1000000000:Int) ^ i≤1000000000 ^ j:=by
 obtain⟨k,rfl⟩:∃k,j=i+k:=⟨j-i,kD4⟩
 induction k with
 | zero=>simp
 | succ k ih =>
  have:=ih kD4;have h0:(0:Int)<1000000000 ^ (i+k):=Int.pow_pos kD4;rw[← kBR,kBI];omega
theorem Limb.tail {x:Int} {r:List Int} (h:Limb (x :: r)):Limb r:=fun y hy=>h y (kAM _ hy)
theorem Limb.head {x:Int} {r:List Int} (h:Limb (x :: r)):0≤x∧x<1000000000:=h x (kAQ ..)
theorem zB0 {l:List Int} (h:Limb l):0≤val l:=by
 induction l with
 | nil=>simp[val]
 | cons x r ih=>have:=ih h.tail;have:=h.head;simp only[val];omega
theorem zEa {l:List Int} (h:Limb l):val l<1000000000 ^ l.length:=by
 induction l with
 | nil=>simp[val]
 | cons x r ih=>have:=ih h.tail;have:=h.head;simp only[val,List.length_cons,kBI];omega
theorem Limb.take {l:List Int} (h:Limb l) (n:Nat):Limb (l.take n):=fun x hx=>h x (kCo hx)
theorem Limb.app {a b:List Int} (h:Limb a) (h2:Limb b):Limb (a++b):=fun x hx=>by
 rcases kC2.1 hx with h' | h'
 ·exact h x h'
 ·exact h2 x h'
def Last (l:List Int):Prop:=∀i (h:i<l.length),l.length=i+1→l[i]≠0
theorem val_ge {l:List Int} (h:Limb l) (hl:Last l) (hn:l≠[]):1000000000 ^ (l.length-1)≤val l:=by
 have hp:0<l.length:=List.length_pos_iff.2 hn;have e:l=l.take (l.length-1)++[l[l.length-1]]:=by
  have:=kBw (l.length-1) l;rw[kAp kD4] at this;rw[show l.length-1+1=l.length from by omega,kCP] at this;exact this.symm
 have h1:=hl (l.length-1) kD4 kD4;have h2:=h _ (kAC (show l.length-1<l.length by omega));generalize l[l.length-1]=x at *;have h3:=zB0 (h.take (l.length-1));have e2:=congrArg val e;rw[zET] at e2;rw[e2,kAe,kAY kD4];have h4:(1:Int)≤x:=kD4
 have h5:=kAG h4 (kBh (zBq (l.length-1)));simp only[val] at h5⊢;rw[kCx,kCM];omega
theorem zES {a b:List Int} (ha:Limb a) (hb:Limb b) (hl:Last b) (h:a.length<b.length):val a<val b:=by
 have h1:=zEa ha;have h2:=val_ge hb hl (by intro e;subst e;simp at h);have h3:(1000000000:Int) ^ a.length≤1000000000 ^ (b.length-1):=pow9_le kD4;omega
theorem val_lt_top {a b:List Int} (ha:Limb a) (hb:Limb b) (i:Nat) (h1:i<a.length) (h2:i<b.length) (hd:a.drop (i+1)=b.drop (i+1)) (hlt:a[i]<b[i]):val a<val b:=by
 have ea:=congrArg val (kBw i a);have eb:=congrArg val (kBw i b);rw[zET,kAp h1,val,kAe,kAY kD4] at ea;rw[zET,kAp h2,val,kAe,kAY kD4] at eb;rw[← ea,← eb,hd];have h3:=zEa (ha.take i);have h4:=zB0 (hb.take i);rw[kAe,kAY kD4] at h3;generalize val (List.drop (i+1) b)=t at *;have h5:a[i]+1000000000*t+1≤b[i]+1000000000*t:=kD4
 have h6:=kAG h5 (kBh (zBq i));rw[kBB _ _ 1,kCZ] at h6;omega
theorem val_two {l:List Int} (h:l.length≤2):val l=l.getD 0 0+1000000000*l.getD 1 0:=by
 match l,h with
 | [],_=>simp[val]
 | [a],_=>simp[val]
 | [a,b],_=>simp[val]
theorem cmp64 (a b:Int) (w:World):Calls Tryz.prog 263 #[.int .i64 a,.int .i64 b] w fun e w'=>e=.returned (.int .i64 (cmpI a b))∧∃n,w'=w.drewN n :=
 (cmp_Compare_int.calls a b (cmpI a b) w (by
  have h1:cmp_isNaN_int.f a=some false:=by unfold cmp_isNaN_int.f;simp
  have h2:cmp_isNaN_int.f b=some false:=by unfold cmp_isNaN_int.f;simp
  unfold cmp_Compare_int.f cmpI;rw[h1,h2];by_cases hlt:a<b
  ·simp[hlt]
  ·by_cases hgt:a > b
   ·simp[hlt,hgt]
   ·simp[hlt,hgt])).mono fun _ _ ⟨h1,h2⟩=>⟨h1,h2.out⟩
theorem zCg {a b:Int} (h:a<b):cmpI a b=-1:=by unfold cmpI;simp[h]
theorem zCv {a b:Int} (h:b<a):cmpI a b=1:=by unfold cmpI;rw[kA9 kD4,kAa h]
theorem zCq (a:Int):cmpI a a=0:=by unfold cmpI;simp
theorem cmpI_zero {a b:Int} (h:cmpI a b=0):a=b:=by
 unfold cmpI at h;split at h
 ·omega
 ·split at h<;>omega
theorem val_cmp {a b:List Int} (ha:Limb a) (hb:Limb b) (i:Nat) (h1:i<a.length) (h2:i<b.length) (hd:a.drop (i+1)=b.drop (i+1)) (hne:cmpI a[i] b[i]≠0):cmpI (val a) (val b)=cmpI a[i] b[i]:=by
 rcases kBb a[i] b[i] with h | h | h
 ·rw[zCg h,zCg (val_lt_top ha hb i h1 h2 hd h)]
 ·rw[h,zCq] at hne;exact absurd rfl hne
 ·rw[zCv h,zCv (val_lt_top hb ha i h2 h1 hd.symm h)]
theorem val_cmp_len {a b:List Int} (ha:Limb a) (hb:Limb b) (la:Last a) (lb:Last b) (h:a.length≠b.length):cmpI (a.length:Int) (b.length:Int)=cmpI (val a) (val b):=by
 rcases Nat.lt_or_gt_of_ne h with h | h
 ·rw[zCg kD4,zCg (zES ha hb lb h)]
 ·rw[zCv kD4,zCv (zES hb ha la h)]
theorem size_list (s t:Int) (l m:List Int) (A B:Option Addr) (c d:Nat) (w:World) (hl:l.length≤1000) (hm:m.length≤1000) (hL:U32.C w A l.length l) (hM:U32.C w B m.length m)
  (ll:Limb l) (lm:Limb m) (al:Last l) (am:Last m) :
  Calls Tryz.prog 234 #[.agg #[.int .i64 s,.slice A l.length c],.agg #[.int .i64 t,.slice B m.length d]] w fun e w'=>e=.returned (.int .i64 (cmpI (val l) (val m)))∧Below w.heap.size w w':=by
 have hb0:Below w.heap.size w ((w.alloc (.cells #[.int .i64 s,.slice A l.length c] 234)).alloc (.cells #[.int .i64 t,.slice B m.length d] 234)):=((kA3 _ w).alloc (kA2 _) _).alloc kD6 _;have h0:((w.alloc (.cells #[.int .i64 s,.slice A l.length c] 234)).alloc (.cells #[.int .i64 t,.slice B m.length d] 234)).heap[w.heap.size]?=some (.cells #[.int .i64 s,.slice A l.length c] 234 (0,0)):=(kA4 _ _ _ kD6).trans (zA4 w _);have h1:((w.alloc (.cells #[.int .i64 s,.slice A l.length c] 234)).alloc (.cells #[.int .i64 t,.slice B m.length d] 234)).heap[w.heap.size+1]?=some (.cells #[.int .i64 t,.slice B m.length d] 234 (0,0)):=zAD _ _ _ kD6;obtain⟨r,hr⟩:∃r,r=cmpI (val l) (val m):=⟨_,rfl⟩;rw[← hr];replace hr:=kA1 hr;replace ll:=kA1 ll;replace lm:=kA1 lm;replace al:=kA1 al;replace am:=kA1 am;replace hL:=kA1 hL;replace hM:=kA1 hM;have hf:=few_calls s l A c _ (Kd.C_below hL.out hb0) kD4;obtain⟨x0,hx0⟩:∃x,x=l.getD 0 0:=⟨_,rfl⟩;obtain⟨x1,hx1⟩:∃x,x=l.getD 1 0:=⟨_,rfl⟩;obtain⟨y0,hy0⟩:∃x,x=m.getD 0 0:=⟨_,rfl⟩;obtain⟨y1,hy1⟩:∃x,x=m.getD 1 0:=⟨_,rfl⟩;obtain⟨b1,hb1'⟩:∃b,b=decide (l.length≤2):=⟨_,rfl⟩;obtain⟨b2,hb2'⟩:∃b,b=decide (m.length≤2):=⟨_,rfl⟩;rw[← hx0,← hx1,← hb1'] at hf;have hf2:=fun W h=>few_calls t m B d W h kD4
 rw[← hy0,← hy1,← hb2'] at hf2;replace hb1':=kA1 hb1';replace hb2':=kA1 hb2';replace hx0:=kA1 hx0;replace hx1:=kA1 hx1;replace hy0:=kA1 hy0;replace hy1:=kA1 hy1;replace hf2:=kA1 hf2;go_enter Tryz.func234,Tryz.ntmps234
 go_upto_if 17 with (fail)
 refine hf.mono ?_;rintro e w1 ⟨rfl,hb1⟩;have hb01:=hb0.trans (hb1.mono kD8);have k0:=zAa hb1 h0;have k1:=zAa hb1 h1;clear hf h0 h1 hb0 hb1
 go_upto_if 17 with (fail)
 have hba:=hb01.alloc hb01.size (.cells #[.int .u32 x0,.int .u32 x1] 309);have j0:=(kA4 w1 (.cells #[.int .u32 x0,.int .u32 x1] 309) _ (zA5 k0)).trans k0;have j1:=(kA4 w1 (.cells #[.int .u32 x0,.int .u32 x1] 309) _ (zA5 k1)).trans k1;have jn:=zA4 w1 (.cells #[.int .u32 x0,.int .u32 x1] 309);have hsz:=hb01.size;clear hb01 k0 k1;generalize hW:w1.alloc (.cells #[.int .u32 x0,.int .u32 x1] 309)=W at *;generalize hS:w1.heap.size=S at *;clear hW hS;go_cut [] (fun wc=>(Below w.heap.size w wc)∧Hid (wc.heap[w.heap.size]?=some (.cells #[.int .i64 s,.slice A l.length c] 234 (0,0)))∧Hid (wc.heap[w.heap.size+1]?=some (.cells #[.int .i64 t,.slice B m.length d] 234 (0,0))))
 case first =>
  cases b1 with
  | false =>
   go_wp2
   go_meet
   exact⟨hba,kA1 j0,kA1 j1⟩
  | true =>
   have e0:=zA1 j1 0;have e1:=zA1 j1 1;have hf3:=hf2.out W (Kd.C_below hM.out hba);go_wp2_with fail;refine hf3.mono ?_;rintro e w2 ⟨rfl,hb2⟩;have g0:=zAa hb2 j0;have g1:=zAa hb2 j1;have gn:=zAa hb2 jn;have hbb:=hba.trans (hb2.mono (by exact hba.size));have hbc:=hbb.alloc hbb.size (.cells #[.int .u32 y0,.int .u32 y1] 309);have f0:=(kA4 w2 (.cells #[.int .u32 y0,.int .u32 y1] 309) _ (zA5 g0)).trans g0;have f1:=(kA4 w2 (.cells #[.int .u32 y0,.int .u32 y1] 309) _ (zA5 g1)).trans g1;clear hf3 hb2 g0 j0 j1 jn hba e0 e1
   cases b2 with
   | false =>
    go_wp2
    go_meet
    exact⟨hbc,kA1 f0,kA1 f1⟩
   | true =>
    have heq:=eq309 x0 x1 y0 y1;have gn2:=(kA4 w2 (.cells #[.int .u32 y0,.int .u32 y1] 309) _ (zA5 gn)).trans gn;have gm:=zA4 w2 (.cells #[.int .u32 y0,.int .u32 y1] 309);have a0:=zA1 gn 0;have a1:=zA1 gn 1;have b0:=zA1 gm 0;have b1:=zA1 gm 1;have ln:=zA5 gn;clear gn gn2 gm;by_cases hxy:x0=y0∧x1=y1
    ·have hE:(x0==y0&&x1==y1)=true:=by rw[hxy.1,hxy.2];simp
     have hR:Hid (r=0):=kA1 (by
      have p1:=hb1'.out;have p2:=hb2'.out;rw[hr.out,val_two (kAn p1.symm),val_two (kAn p2.symm),← hx0.out,← hx1.out,← hy0.out,← hy1.out,hxy.1,hxy.2,zCq])
     rw[hE] at heq;clear hxy hE;go_wp2;go_ret;exact⟨by rw[hR.out];rfl,hbc⟩
    ·have hE:(x0==y0&&x1==y1)=false:=by
      rw[← Bool.not_eq_true];intro h;simp at h;exact hxy h
     rw[hE] at heq;clear hxy hE;go_wp2
     go_meet
     exact⟨hbc,kA1 f0,kA1 f1⟩
 case rest =>
  obtain⟨hBB,k0,k1⟩:=hcut;have c0:=zA1 k0.out 1;have c1:=zA1 k1.out 1;clear hf2 jn j0 j1 hba;by_cases hne:l.length=m.length
  ·have hlm:((l.length:Int) != (m.length:Int))=false:=by simp[hne]
   replace hne:=kA1 hne;go_wp2_with fail;clear c0 c1;go_loopg [46] l.length (fun gk i wr=>gk≤l.length∧i=.int .i64 ((l.length:Int)-(gk:Int))∧Below w.heap.size w wr∧Hid (wr.heap[w.heap.size]?=some (.cells #[.int .i64 s,.slice A l.length c] 234 (0,0)))∧Hid (wr.heap[w.heap.size+1]?=some (.cells #[.int .i64 t,.slice B m.length d] 234 (0,0)))∧Hid (l.drop gk=m.drop gk))
   case atStart=>exact⟨kA2 _,kD6,hBB,k0,k1,kA1 (by rw[kCP,hne.out,kCP])⟩
   case round =>
    obtain⟨hkl,rfl,hBr,q0,q1,HD⟩:=hrel;have c0:=zA1 q0.out 1;have c1:=zA1 q1.out 1
    cases gk with
    | zero =>
     have hR:Hid (r=0):=kA1 (by
      have:=HD.out;rw[kBZ,kBZ] at this;rw[hr.out,this,zCq])
     go_wp2;go_ret;exact⟨by rw[hR.out];rfl,hBr⟩
    | succ k =>
     have hk1:k<l.length:=kD4
     have hk2:k<m.length:=by have:=hne.out;omega
     obtain⟨ad,rfl,hc1⟩:=zEc (Kd.C_below hL.out hBr) k hk1;obtain⟨bd,rfl,hc2⟩:=zEc (Kd.C_below hM.out hBr) k hk2;obtain⟨q,hq⟩:∃q,q=cmpI l[k] m[k]:=⟨_,rfl⟩;have hcm:=cmp32 l[k] m[k];rw[← hq] at hcm;have hix:(l.length:Int)-1-((l.length:Int)-((k:Int)+1))=(k:Int):=kD4
     replace hix:=kA1 hix;by_cases hq0:q=0
     ·subst hq0;have HD2:Hid (l.drop k=m.drop k):=kA1 (by rw[kAp hk1,kAp hk2,HD.out,cmpI_zero hq.symm]);clear hq;generalize l[k]=xk at *;generalize m[k]=yk at *;go_wp2;simp only[hix.out]
      go_quiet ((go_at_call 264;exact kCK (hcm _)))
      go_wp2;go_roundg k
      case measure=>omega
      case rel=>exact⟨kD4,by go_num,zA3 hBr _,q0,q1,HD2⟩
     ·have hqb:(q != 0)=true:=by simp[hq0]
      have hR:Hid (r=q):=kA1 (by rw[hr.out,hq];exact val_cmp ll.out lm.out k hk1 hk2 HD.out (by rw[← hq];exact hq0));clear hq0 hq;generalize l[k]=xk at *;generalize m[k]=yk at *;go_wp2;simp only[hix.out]
      go_quiet ((go_at_call 264;exact kCK (hcm _)))
      go_wp2;go_ret;exact⟨by rw[hR.out];rfl,zA3 hBr _⟩
  ·have hlm:((l.length:Int) != (m.length:Int))=true:=kD8
   have hcm:=cmp64 l.length m.length;rw[val_cmp_len ll.out lm.out al.out am.out hne,← hr.out] at hcm;replace hne:=kA1 hne;go_wp2_with fail;refine (hcm _).mono ?_;rintro e w3 ⟨rfl,n,rfl⟩;go_wp2;go_ret;exact⟨rfl,zA3 hBB _⟩
theorem zEb {x:Int} (h0:0≤x) (h1:x<18446744073709551616):IntKind.u64.wrap x=x:=by rw[IntKind.wrap_u64];omega
theorem w64_at {x:Int} (h0:-9223372036854775808≤x) (h1:x≤9223372036854775807):wrap64 x=x:=by unfold wrap64;omega
theorem rd_at (l:List Int) (i:Nat) (h:i<l.length):rd l (i:Int)=l[i]:=by unfold rd;simp[h]
theorem val_set {l:List Int} (n:Nat) (h:n<l.length) (q:Int):val ((l.set n q).take (n+1))=val (l.take n)+1000000000 ^ n*q:=by
 rw[kBv kD8,zET,List.take_set_of_le (kA2 _)];simp[val,kAY (kAP h)]
theorem zAC {l:List Int} (n:Nat) (h:n<l.length):val (l.take (n+1))=val (l.take n)+1000000000 ^ n*l[n]:=by
 rw[kBv h,zET];simp[val,kAY (kAP h)]
theorem Limb.at {l:List Int} (h:Limb l) (i:Nat) (hi:i<l.length):0≤l[i]∧l[i]<1000000000:=h _ (kAC hi)
theorem zD7 {l:List Int} (n:Nat) (h:n<l.length) (h1:Limb (l.take n)) (h2:0≤l[n]∧l[n]<1000000000):Limb (l.take (n+1)):=by
 rw[kBv h];exact h1.app (fun x hx=>by simp at hx;subst hx;exact h2)
theorem shortly_loop (l:List Int) (m:Int) (hl:Limb l) (hm:0<m) (hm2:m<1000000000) (hsm:l.length≤1000000) :
  ∀(n:Nat) (k:Nat) (out:List Int) (rest:Int),n≤l.length→out.length=l.length→0≤rest→rest<m→n<k →
   ∃out' rest',limbs_shortly.l0 k l m out rest (l.length:Int) ((l.length:Int)-(n:Int))=some (out',rest')∧out'.length=l.length∧out'.drop n=out.drop n∧Limb (out'.take n)∧0≤rest'∧rest'<m∧rest*1000000000 ^ n+val (l.take n)=val (out'.take n)*m+rest':=by
 intro n
 induction n with
 | zero =>
  intro k out rest _ ho h0 h1 hk;obtain⟨k,rfl⟩:∃j,k=j+1:=⟨k-1,kD4⟩;refine⟨out,rest,?_,ho,rfl,by intro x hx;simp at hx,h0,h1,by simp[val]⟩;unfold limbs_shortly.l0;rw[kA9 kD4,Int.emod_eq_of_lt h0 kD4]
 | succ n ih =>
  intro k out rest hn ho h0 h1 hk;obtain⟨k,rfl⟩:∃j,k=j+1:=⟨k-1,kD4⟩;have hx:=hl.at n kD4;have hi:wrap64 (wrap64 ((l.length:Int)-1)-((l.length:Int)-((n+1:Nat):Int)))=(n:Int):=by
   rw[w64_at (x:=(l.length:Int)-1) kD4 kD4,w64_at kD4 kD4];omega
  have hj:wrap64 ((l.length:Int)-((n+1:Nat):Int)+1)=(l.length:Int)-(n:Int):=by
   rw[w64_at kD4 kD4];omega
  have hc0:0≤rest*1000000000+l[n]:=kD4
  have hc1:rest*1000000000+l[n]<m*1000000000:=kD4
  have hcur:IntKind.u64.wrap (IntKind.u64.wrap (rest*1000000000)+IntKind.u64.wrap (rd l (n:Int)))=rest*1000000000+l[n]:=by
   rw[rd_at l n kD4,zEb (x:=l[n]) kD4 kD4,zEb (x:=rest*1000000000) kD4 kD4,zEb kD4 kD4]
  have hmw:IntKind.u64.wrap m=m:=zEb kD4 kD4;have hq0:0≤(rest*1000000000+l[n]) / m:=kBV hc0 kD4;have hq1:(rest*1000000000+l[n]) / m<1000000000:=kCN hm (by rw[kBg];omega);have hr0:=kBM (rest*1000000000+l[n]) (show m≠0 by omega);have hr1:=kBD (rest*1000000000+l[n]) hm;have hdm:=kBN (rest*1000000000+l[n]) m;obtain⟨out',rest',e1,e2,e3,e4,e5,e6,e7⟩:=ih k (out.set n ((rest*1000000000+l[n]) / m)) ((rest*1000000000+l[n]) % m) kD4 (by simp[ho]) hr0 hr1 kD4;have hn':n<out'.length:=kD4
  have hon:out'[n]=(rest*1000000000+l[n]) / m:=by
   have:=congrArg (fun t=>t[0]?) e3;simp only[List.getElem?_drop,Nat.add_zero] at this;rw[kAF hn',List.getElem?_set_self kD4] at this;simpa using this
  refine⟨out',rest',?_,e2,?_,?_,e5,e6,?_⟩
  ·unfold limbs_shortly.l0;rw[kAa kD4,hi,kAa kD4,kAa kD4,hmw,kA9 kD4,kAa kD4,hj,hcur,kBz hc0,kBX hc0];rw[zEb hq0 kD4,Int.emod_eq_of_lt hq0 kD4];exact e1
  ·have h3:=congrArg (List.drop 1) e3;rw[kC0,kC0,List.drop_set_of_lt kD4] at h3;exact h3
  ·exact zD7 n hn' e4 (by rw[hon];exact⟨hq0,hq1⟩)
  ·rw[zAC n kD4,zAC n hn',hon];rw[kBI];generalize (rest*1000000000+l[n]) / m=q at *;generalize (rest*1000000000+l[n]) % m=r at *;have h8:(1000000000:Int) ^ n*(m*q+r)=1000000000 ^ n*(rest*1000000000+l[n]):=by rw[hdm]
   generalize (1000000000:Int) ^ n=B at *
   grind
theorem shortly_val (l:List Int) (m:Int) (hl:Limb l) (hm:0<m) (hm2:m<1000000000) (hsm:l.length≤1000000) :
  ∃q r,limbs_shortly.f (l.length+1) l m=some (q,r)∧q.length=l.length∧Limb q∧0≤r∧r<m∧val l=val q*m+r:=by
 obtain⟨q,r,e1,e2,e3,e4,e5,e6,e7⟩:=shortly_loop l m hl hm hm2 hsm l.length (l.length+1) (List.replicate l.length 0) 0 (kA2 _) kD6 (Int.le_refl _) hm kD4;rw[← e2,kB6] at e4 e7;rw[e2,kB6] at e7;refine⟨q,r,?_,e2,e4,e5,e6,by simpa using e7⟩;unfold limbs_shortly.f;rw[kAa kD4,kAa kD4];simp only[Int.toNat_natCast];rw[show (l.length:Int)-(l.length:Int)=0 from by omega] at e1;exact e1
def zAS (l:List Int):Array Value:=(l.map (Value.int .u32)).toArray
theorem zB1 {w:World} {b:Nat} {l:List Int} {t:TypeId} (h:w.heap[b]?=some (.cells (zAS l) t (0,0))) (i:Nat) (hi:i<l.length):w.cell? ⟨b,i,none⟩=some (.int .u32 l[i]):=by
 have:=zA1 h i;rw[this];simp[zAS,hi]
theorem zBD {w:World} {b:Nat} {l:List Int} {t:TypeId} (h:w.heap[b]?=some (.cells (zAS l) t (0,0))) (i:Nat) (x:Int):(w.setCell ⟨b,i,none⟩ (.int .u32 x)).heap[b]?=some (.cells (zAS (l.set i x)) t (0,0)):=by
 have:=zA8 h i (.int .u32 x);rw[this];simp[zAS,List.map_set]
theorem limbs_made (n:Nat):madeCells #[.int .u32 0] n=zAS (List.replicate n 0):=by
 apply Array.ext';rw[toList_madeCells_one];simp[zAS]
theorem limbs_make (n:Nat) (h:n≤100000) (W:World):(Instr.makeSlice 232 (.int .i64 (n:Int)) (.int .i64 (n:Int))).run Tryz.prog W=.ok (.slice (some ⟨W.heap.size,0,none⟩) n n) (W.alloc (.cells (zAS (List.replicate n 0)) 270)):=by
 rw[run_make_row' 232 270 (.int .u32 0) 4 Tryz.underlying232 info270 rfl .i64 .i64 n kD4 kD4 W,limbs_made]
theorem zFi (l:List Int) (m:Int) (A:Option Addr) (c:Nat) (w:World) (hC:U32.C w A l.length l) (hl:Limb l) (hm:0≤m) (hm2:m<1000000000) (hsm:l.length≤1000) :
  Calls Tryz.prog 280 #[.slice A l.length c,.int .u32 m] w fun e w'=>∃r:List Int,r.length=l.length+1∧Limb r∧val r=val l*m∧e=.returned (.slice (some ⟨w.heap.size,0,none⟩) (l.length+1) (l.length+1))∧w'.heap[w.heap.size]?=some (.cells (zAS r) 270 (0,0))∧Below w.heap.size w w':=by
 replace hC:=kA1 hC;replace hl:=kA1 hl;have hmk:=limbs_make (l.length+1) kD4 w;rw[show ((l.length+1:Nat):Int)=(l.length:Int)+1 from by omega] at hmk;obtain⟨Y,hY⟩:∃Y,Y=w.alloc (.cells (zAS (List.replicate (l.length+1) 0)) 270):=⟨_,rfl⟩;rw[← hY] at hmk;have hB:Below w.heap.size w Y:=by rw[hY];exact (kA3 _ w).alloc (kA2 _) _
 have hH:Hid (Y.heap[w.heap.size]?=some (.cells (zAS (List.replicate (l.length+1) 0)) 270 (0,0))):=kA1 (by rw[hY];exact zA4 w _);clear hY;go_enter Tryz.func280,Tryz.ntmps280;go_wp2_with fail;clear hmk;go_loopg [6,15] l.length (fun gk v6 v15 wr=>∃(i:Nat) (out:List Int) (carry:Int),i+gk=l.length∧v6=.int .u64 carry∧v15=.int .i64 (i:Int)∧out.length=l.length+1∧0≤carry∧carry<1000000000∧Hid (Limb (out.take i))∧Hid (val (out.take i)+1000000000 ^ i*carry=val (l.take i)*m)∧Hid (wr.heap[w.heap.size]?=some (.cells (zAS out) 270 (0,0)))∧Below w.heap.size w wr)
 case atStart=>exact⟨0,List.replicate (l.length+1) 0,0,kD4,rfl,rfl,kD6,kD4,kD4,kA1 (fun x hx=>by simp at hx),kA1 (by simp[val]),hH,hB⟩
 case round =>
  obtain⟨i,out,carry,hi,rfl,rfl,ho,h0,h1,HL,HV,HH,hBr⟩:=hrel;replace ho:=kA1 ho
  cases gk with
  | zero =>
   obtain rfl:i=l.length:=kD4
   have hlt2:l.length<out.length:=by have:=ho.out;omega
   have hx:=zB1 HH.out l.length hlt2;have hfz:=zA2 HH.out l.length;generalize out[l.length]=y at *;go_wp2;go_ret;refine⟨out.set l.length carry,by simp[ho.out],?_,?_,rfl,zBD HH.out _ _,hBr.setCell (p:=⟨w.heap.size,l.length,none⟩) (kA2 _) _⟩
   ·rw[← kB6 (l:=out.set l.length carry),List.length_set,ho.out];refine zD7 l.length kD8 ?_ kD8;rw[List.take_set_of_le (kA2 _)];exact HL.out
   ·have e:=val_set (l:=out) l.length hlt2 carry;have e2:=HV.out;rw[kB6] at e2;rw[kBE (by simp[ho.out])] at e;rw[e,e2]
  | succ k =>
   have hlt:i<l.length:=kD4
   have hlt2:i<out.length:=by have:=ho.out;omega
   obtain⟨ad,rfl,hc1⟩:=zEc (Kd.C_below hC.out hBr) i hlt;obtain⟨hx0,hx1⟩:=hl.out.at i hlt;have hx:=zB1 HH.out i hlt2;have hfz:=zA2 HH.out i;obtain⟨x,hxx⟩:∃x,x=l[i]:=⟨_,rfl⟩;rw[← hxx] at hc1 hx0 hx1;replace hxx:=kA1 hxx;generalize out[i]=y at *;have p0:0≤x*m:=kCa hx0 hm;have p1:x*m≤999999999*999999999:=Int.mul_le_mul kD4 kD4 hm kD4;obtain⟨p,hp⟩:∃p,p=x*m:=⟨_,rfl⟩;rw[← hp] at p0 p1;have hw1:IntKind.u64.wrap (x*m)=p:=by rw[← hp];exact zEb p0 kD4
   have hw2:IntKind.u64.wrap (carry+p)=carry+p:=zEb kD4 kD4;replace hp:=kA1 hp;have hd:=kBN (carry+p) 1000000000;have hr0:=kBM (carry+p) (show (1000000000:Int)≠0 by omega);have hr1:=kBD (carry+p) (show (0:Int)<1000000000 by omega);replace hd:=kA1 hd;go_wp2;go_roundg k
   case measure=>omega
   case rel =>
    refine⟨i+1,out.set i ((carry+p) % 1000000000),(carry+p) / 1000000000,kD4,rfl,by go_num,by simp[ho.out],kD4,kD4,kA1 ?_,kA1 ?_,kA1 (zBD HH.out _ _),hBr.setCell (p:=⟨w.heap.size,i,none⟩) (kA2 _) _⟩
    ·refine zD7 i kD8 ?_ kD8;rw[List.take_set_of_le (kA2 _)];exact HL.out
    ·have e2:=HV.out;have e3:=hd.out;have e4:=hp.out;rw[val_set i hlt2,zAC i hlt,← hxx.out,kBI];generalize (carry+p) / 1000000000=q at *;generalize (carry+p) % 1000000000=r at *;generalize (1000000000:Int) ^ i=B at *;generalize val (List.take i out)=V at *;generalize val (List.take i l)=U at *;have e5:B*(1000000000*q+r)=B*(carry+p):=by rw[e3]
     have e6:B*p=B*x*m:=by rw[e4,kB3]
     rw[kBB,kBB] at e5;rw[kB3,Int.add_mul];omega
theorem zD4 {l:List Int} (h:Limb l) (i:Nat) (x:Int) (hx:0≤x∧x<1000000000):Limb (l.set i x):=fun y hy=>by
 rcases List.mem_or_eq_of_mem_set hy with h1 | rfl
 ·exact h y h1
 ·exact hx
theorem pull_step {P C V T A B y times c d have_ q r d2:Int} (h:P+C*(times*V)=A+B*(c+d)) (hB:B=C*T) (he:q*1000000000+r=c+y*times) :
  P+B*(have_-(r+d)+1000000000*d2)+C*(times*(V+T*y))=A+B*have_+B*1000000000*(q+d2):=by
 subst hB;have h2:C*T*(c+y*times)=C*T*(q*1000000000+r):=by rw[he]
 grind
theorem take_min {bb:List Int} {n i:Nat} {y:Int} (hn:n≤bb.length) (hi:i≤n) (hy:(∃h:i<n,y=bb[i]' kD4)∨(i=n∧y=0)):val (bb.take (min (i+1) n))=val (bb.take (min i n))+1000000000 ^ i*y:=by
 rcases hy with⟨h,rfl⟩ | ⟨rfl,rfl⟩
 ·rw[kAY kD4,kAY kD4,zAC i kD4]
 ·rw[Nat.min_eq_right kD4,Nat.min_self];omega
theorem drop_next {a r:List Int} {m:Nat} {x:Int} (hl:r.length=a.length) (h:r.drop m=a.drop m):(r.set m x).drop (m+1)=a.drop (m+1):=by
 rw[List.drop_set_of_lt kD4];have h3:=congrArg (List.drop 1) h;rw[kC0,kC0] at h3;exact h3
theorem drop_same {a r:List Int} {m:Nat} (h1:m<r.length) (h2:m<a.length) (h:r.drop m=a.drop m):r[m]=a[m]:=by
 rw[kAp h1,kAp h2] at h;injection h
theorem pull_round {a r bb:List Int} {n i at_:Nat} {times c d y d2:Int} (hn:n≤bb.length) (hi:i≤n) (hy:(∃h:i<n,y=bb[i]' kD4)∨(i=n∧y=0)) (hl:r.length=a.length) (hat:at_+i<r.length) (hd:r.drop (at_+i)=a.drop (at_+i))
  (hV:val (r.take (at_+i))+1000000000 ^ at_*(times*val (bb.take (min i n)))=val (a.take (at_+i))+1000000000 ^ (at_+i)*(c+d)) :
  val ((r.set (at_+i) (r[at_+i]-((c+y*times) % 1000000000+d)+1000000000*d2)).take (at_+(i+1)))+1000000000 ^ at_*(times*val (bb.take (min (i+1) n)))=val (a.take (at_+(i+1)))+1000000000 ^ (at_+(i+1))*((c+y*times) / 1000000000+d2):=by
 rw[show at_+(i+1)=(at_+i)+1 from by omega,val_set _ hat,zAC (l:=a) _ kD4,← drop_same hat kD4 hd,take_min hn hi hy];have e:=kBN (c+y*times) 1000000000;rw[kBg] at e;have h:=pull_step (have_:=r[at_+i]) (d2:=d2) (T:=1000000000 ^ i) (y:=y) hV (kCF _ _ _) e;rw[kBI];exact h
def PullPost (a bb:List Int) (n at_:Nat) (times:Int) (Ba L:Nat) (w:World) (e:Ending) (w':World):Prop :=
 ∃(r:List Int) (d:Int),(d=0∨d=1)∧e=.returned (.bool (d != 0))∧r.length=L∧Limb r∧r.drop (at_+n+1)=a.drop (at_+n+1) ∧
   val (r.take (at_+n+1))+1000000000 ^ at_*(times*val (bb.take n))=val (a.take (at_+n+1))+1000000000 ^ (at_+n+1)*d∧w'.heap[Ba]?=some (.cells (zAS r) 270 (0,0))∧w.grownBy w' (some Ba)
theorem pull_calls (a bb:List Int) (n at_:Nat) (times:Int) (Ba Bb ca cb:Nat) (w:World) (hA:w.heap[Ba]?=some (.cells (zAS a) 270 (0,0))) (hBb:w.heap[Bb]?=some (.cells (zAS bb) 270 (0,0))) (hab:Ba≠Bb)
  (la:Limb a) (lb:Limb bb) (hn:n≤bb.length) (hat:at_+n+1≤a.length) (ht0:0≤times) (ht1:times≤1000000000) (hs:a.length≤1002) :
  Calls Tryz.prog 281 #[.slice (some ⟨Ba,0,none⟩) a.length ca,.slice (some ⟨Bb,0,none⟩) n cb,.int .i64 (at_:Int),.int .u64 times] w (PullPost a bb n at_ times Ba a.length w):=by
 replace la:=kA1 la;replace lb:=kA1 lb;obtain⟨L,hL⟩:∃L,L=a.length:=⟨_,rfl⟩;rw[← hL] at hat hs ⊢;replace hL:=kA1 hL;replace hA:=kA1 hA;replace hBb:=kA1 hBb;go_enter Tryz.func281,Tryz.ntmps281;go_wp2_with fail;go_loopg [9,10,18] (n+1) (fun gk v9 v10 v18 wr=>∃(i:Nat) (r:List Int) (c d:Int),i+gk=n+1∧v9=.int .u64 c∧v10=.int .u64 d∧v18=.int .i64 (i:Int)∧0≤c∧c<1000000000∧Hid (n<i→c=0)∧0≤d∧d≤1∧Hid (r.length=L)∧Hid (Limb r)∧Hid (r.drop (at_+i)=a.drop (at_+i))∧Hid (val (r.take (at_+i))+1000000000 ^ at_*(times*val (bb.take (min i n)))=val (a.take (at_+i))+1000000000 ^ (at_+i)*(c+d))∧Hid (wr.heap[Ba]?=some (.cells (zAS r) 270 (0,0)))∧w.grownBy wr (some Ba))
 case atStart=>exact⟨0,a,0,0,kD4,rfl,rfl,rfl,kD4,kD4,kA1 kD4,kD4,kD4,kA1 hL.out.symm,la,kA1 rfl,kA1 (by simp[val]),hA,kAS _ _⟩
 case round =>
  obtain⟨i,r,c,d,hi,rfl,rfl,rfl,hc0,hc1,hcn,hd0,hd1,hrl,hrL,hrd,hV,hH,hG⟩:=hrel
  cases gk with
  | zero =>
   obtain rfl:i=n+1:=kD4
   have hR:Hid (∃(r:List Int) (d':Int),(d'=0∨d'=1)∧(d != 0)=(d' != 0)∧r.length=L∧Limb r∧r.drop (at_+n+1)=a.drop (at_+n+1)∧val (r.take (at_+n+1))+1000000000 ^ at_*(times*val (bb.take n))=val (a.take (at_+n+1))+1000000000 ^ (at_+n+1)*d'∧wr.heap[Ba]?=some (.cells (zAS r) 270 (0,0))):=kA1 (by
    refine⟨r,d,kD4,rfl,hrl.out,hrL.out,hrd.out,?_,hH.out⟩;have:=hV.out;rw[hcn.out kD4,Int.zero_add,Nat.min_eq_right kD4] at this;exact this)
   clear hcn hrl hrL hrd hV hH;go_wp2;go_ret;obtain⟨r,d',h1,h2,h3,h4,h5,h6,h7⟩:=hR.out;exact⟨r,d',h1,by rw[← h2];rfl,h3,h4,h5,h6,h7,hG⟩
  | succ k =>
   have hin:i≤n:=kD4
   have hlt:at_+i<r.length:=by have:=hrl.out;omega
   have hltL:at_+i<L:=kD4
   have hlti:(at_:Int)+(i:Int)<(L:Int):=kD4
   have hx:=zB1 hH.out (at_+i) hlt;have hfz:=zA2 hH.out (at_+i);obtain⟨hx0,hx1⟩:=hrL.out.at (at_+i) hlt;obtain⟨x,hxx⟩:∃x,x=r[at_+i]:=⟨_,rfl⟩;rw[← hxx] at hx hx0 hx1;have hb:=(hG.block Bb (zA5 hBb.out) kDa).trans hBb.out;obtain⟨y,hy,hyv⟩:∃y,((∃h:i<n,y=bb[i]' kD4)∨(i=n∧y=0))∧(i<n→wr.cell? ⟨Bb,i,none⟩=some (.int .u32 y)):=by
    by_cases h:i<n
    ·exact⟨bb[i]' kD4,.inl ⟨h,rfl⟩,fun _=>zB1 hb i kD4⟩
    ·exact⟨0,.inr ⟨kD4,rfl⟩,fun h'=>absurd h' h⟩
   have hy0:0≤y∧y<1000000000∧(i=n→y=0):=by
    rcases hy with⟨h,rfl⟩ | ⟨h,rfl⟩
    ·have:=lb.out.at i kD4;exact⟨this.1,this.2,fun h'=>by omega⟩
    ·exact⟨kD4,kD4,fun _=>rfl⟩
   obtain⟨hy1,hy2,hy3⟩:=hy0;have hfin:=fun d2=>pull_round (c:=c) (d:=d) (times:=times) (d2:=d2) (by omega:n≤bb.length) hin hy kDy hlt hrd.out hV.out
   rw[← hxx] at hfin;have p0:0≤y*times:=kCa hy1 ht0;have p1:y*times≤999999999*1000000000:=Int.mul_le_mul kD4 kD4 ht0 kD4;have p2:i=n→y*times=0:=fun h=>by rw[hy3 h];omega
   obtain⟨p,hp⟩:∃p,p=y*times:=⟨_,rfl⟩;rw[← hp] at p0 p1 p2 hfin;have hw1:IntKind.u64.wrap (y*times)=p:=by rw[← hp];exact zEb p0 kD4
   have hr0:=kBM (c+p) (show (1000000000:Int)≠0 by omega);have hr1:=kBD (c+p) (show (0:Int)<1000000000 by omega);have hq0:0≤(c+p) / 1000000000:=kD4
   have hq1:(c+p) / 1000000000<1000000000:=kD4
   have hq2:n<i+1→(c+p) / 1000000000=0:=fun h=>by rw[p2 kD4];omega
   have hd3:Hid (∀v:Int,(r.set (at_+i) v).drop (at_+(i+1))=a.drop (at_+(i+1))):=kA1 (fun v=>drop_next kDy hrd.out);replace hfin:=kA1 hfin;replace hq2:=kA1 hq2;replace p2:=kA1 p2;replace hy3:=kA1 hy3;replace hp:=kA1 hp;replace hxx:=kA1 hxx;clear hV hy hb;by_cases hii:i<n
   ·have hyc:=hyv hii;have hdi:(i:Int)<(n:Int):=kD4
    clear hyv;by_cases hcmp:x<(c+p) % 1000000000+d
    ·have hcb:decide (x<(c+p) % 1000000000+d)=true:=kA8 hcmp;go_wp2;go_roundg k
     case measure=>omega
     case rel =>
      refine⟨i+1,r.set (at_+i) (x+1000000000-((c+p) % 1000000000+d)),(c+p) / 1000000000,1,kD4,rfl,rfl,by go_num,hq0,hq1,kA1 (fun h=>hq2.out kD4),kD4,kD4,kA1 kDt,kA1 (zD4 hrL.out _ _ kD4),kA1 (hd3.out _),kA1 ?_,kA1 (zBD hH.out _ _),kA7 hG (kAf _ _ _ _)⟩;have e:=hfin.out 1;rw[show x-((c+p) % 1000000000+d)+1000000000*1=x+1000000000-((c+p) % 1000000000+d) from by omega] at e;exact e
    ·have hcb:decide (x<(c+p) % 1000000000+d)=false:=kAc hcmp;go_wp2;go_roundg k
     case measure=>omega
     case rel =>
      refine⟨i+1,r.set (at_+i) (x-((c+p) % 1000000000+d)),(c+p) / 1000000000,0,kD4,rfl,rfl,by go_num,hq0,hq1,kA1 (fun h=>hq2.out kD4),kD4,kD4,kA1 kDt,kA1 (zD4 hrL.out _ _ kD4),kA1 (hd3.out _),kA1 ?_,kA1 (zBD hH.out _ _),kA7 hG (kAf _ _ _ _)⟩;have e:=hfin.out 0;rw[show x-((c+p) % 1000000000+d)+1000000000*0=x-((c+p) % 1000000000+d) from by omega] at e;exact e
   ·obtain rfl:i=n:=kD4
    obtain rfl:y=0:=hy3.out rfl;have hp0:=p2.out rfl;subst hp0;clear hyv;simp only[kCM] at hr0 hr1 hq0 hq1 hfin hq2;by_cases hcmp:x<c % 1000000000+d
    ·have hcb:decide (x<c % 1000000000+d)=true:=kA8 hcmp;go_wp2;go_roundg k
     case measure=>omega
     case rel =>
      refine⟨i+1,r.set (at_+i) (x+1000000000-(c % 1000000000+d)),c / 1000000000,1,kD4,rfl,rfl,by go_num,hq0,hq1,kA1 (fun h=>hq2.out kD4),kD4,kD4,kA1 kDt,kA1 (zD4 hrL.out _ _ kD4),kA1 (hd3.out _),kA1 ?_,kA1 (zBD hH.out _ _),kA7 hG (kAf _ _ _ _)⟩;have e:=hfin.out 1;rw[show x-(c % 1000000000+d)+1000000000*1=x+1000000000-(c % 1000000000+d) from by omega] at e;exact e
    ·have hcb:decide (x<c % 1000000000+d)=false:=kAc hcmp;go_wp2;go_roundg k
     case measure=>omega
     case rel =>
      refine⟨i+1,r.set (at_+i) (x-(c % 1000000000+d)),c / 1000000000,0,kD4,rfl,rfl,by go_num,hq0,hq1,kA1 (fun h=>hq2.out kD4),kD4,kD4,kA1 kDt,kA1 (zD4 hrL.out _ _ kD4),kA1 (hd3.out _),kA1 ?_,kA1 (zBD hH.out _ _),kA7 hG (kAf _ _ _ _)⟩;have e:=hfin.out 0;rw[show x-(c % 1000000000+d)+1000000000*0=x-(c % 1000000000+d) from by omega] at e;exact e
theorem push_step {P C V T A B y c x q r:Int} (h:P+B*c=A+C*V) (hB:B=C*T) (he:q*1000000000+r=x+c+y) :
  P+B*r+B*1000000000*q=A+B*x+C*(V+T*y):=by
 subst hB;have h2:C*T*(x+c+y)=C*T*(q*1000000000+r):=by rw[he]
 grind
theorem push_round {a r bb:List Int} {n i at_:Nat} {c y:Int} (hn:n≤bb.length) (hi:i≤n) (hy:(∃h:i<n,y=bb[i]' kD4)∨(i=n∧y=0)) (hl:r.length=a.length) (hat:at_+i<r.length) (hd:r.drop (at_+i)=a.drop (at_+i))
  (hV:val (r.take (at_+i))+1000000000 ^ (at_+i)*c=val (a.take (at_+i))+1000000000 ^ at_*val (bb.take (min i n))) :
  val ((r.set (at_+i) ((r[at_+i]+c+y) % 1000000000)).take (at_+(i+1)))+1000000000 ^ (at_+(i+1))*((r[at_+i]+c+y) / 1000000000)=val (a.take (at_+(i+1)))+1000000000 ^ at_*val (bb.take (min (i+1) n)):=by
 rw[show at_+(i+1)=(at_+i)+1 from by omega,val_set _ hat,zAC (l:=a) _ kD4,← drop_same hat kD4 hd,take_min hn hi hy];have e:=kBN (r[at_+i]+c+y) 1000000000;rw[kBg] at e;have h:=push_step (T:=1000000000 ^ i) hV (kCF _ _ _) e;rw[kBI];exact h
def PushPost (a bb:List Int) (n at_:Nat) (Ba L:Nat) (w:World) (e:Ending) (w':World):Prop :=
 ∃(r:List Int) (d:Int),0≤d∧d≤1∧e=.returned (.tuple #[])∧r.length=L∧Limb r∧r.drop (at_+n+1)=a.drop (at_+n+1) ∧
   val (r.take (at_+n+1))+1000000000 ^ (at_+n+1)*d=val (a.take (at_+n+1))+1000000000 ^ at_*val (bb.take n)∧w'.heap[Ba]?=some (.cells (zAS r) 270 (0,0))∧w.grownBy w' (some Ba)
theorem push_calls (a bb:List Int) (n at_:Nat) (Ba Bb ca cb:Nat) (w:World) (hA:w.heap[Ba]?=some (.cells (zAS a) 270 (0,0))) (hBb:w.heap[Bb]?=some (.cells (zAS bb) 270 (0,0))) (hab:Ba≠Bb)
  (la:Limb a) (lb:Limb bb) (hn:n≤bb.length) (hat:at_+n+1≤a.length) (hs:a.length≤1002) :
  Calls Tryz.prog 282 #[.slice (some ⟨Ba,0,none⟩) a.length ca,.slice (some ⟨Bb,0,none⟩) n cb,.int .i64 (at_:Int)] w (PushPost a bb n at_ Ba a.length w):=by
 replace la:=kA1 la;replace lb:=kA1 lb;obtain⟨L,hL⟩:∃L,L=a.length:=⟨_,rfl⟩;rw[← hL] at hat hs ⊢;replace hL:=kA1 hL;replace hA:=kA1 hA;replace hBb:=kA1 hBb;go_enter Tryz.func282,Tryz.ntmps282;go_wp2_with fail;go_loopg [6,12] (n+1) (fun gk v6 v12 wr=>∃(i:Nat) (r:List Int) (c:Int),i+gk=n+1∧v6=.int .u32 c∧v12=.int .i64 (i:Int)∧0≤c∧c≤1∧Hid (r.length=L)∧Hid (Limb r)∧Hid (r.drop (at_+i)=a.drop (at_+i))∧Hid (val (r.take (at_+i))+1000000000 ^ (at_+i)*c=val (a.take (at_+i))+1000000000 ^ at_*val (bb.take (min i n)))∧Hid (wr.heap[Ba]?=some (.cells (zAS r) 270 (0,0)))∧w.grownBy wr (some Ba))
 case atStart=>exact⟨0,a,0,kD4,rfl,rfl,kD4,kD4,kA1 hL.out.symm,la,kA1 rfl,kA1 (by simp[val]),hA,kAS _ _⟩
 case round =>
  obtain⟨i,r,c,hi,rfl,rfl,hc0,hc1,hrl,hrL,hrd,hV,hH,hG⟩:=hrel
  cases gk with
  | zero =>
   obtain rfl:i=n+1:=kD4
   have hR:Hid (val (r.take (at_+n+1))+1000000000 ^ (at_+n+1)*c=val (a.take (at_+n+1))+1000000000 ^ at_*val (bb.take n)):=kA1 (by
    have:=hV.out;rw[Nat.min_eq_right kD4] at this;exact this)
   clear hV;go_wp2;exact kBf (kB4 rfl _ _ _) rfl ⟨r,c,hc0,hc1,rfl,hrl.out,hrL.out,hrd.out,hR.out,hH.out,hG⟩
  | succ k =>
   have hin:i≤n:=kD4
   have hlt:at_+i<r.length:=by have:=hrl.out;omega
   have hltL:at_+i<L:=kD4
   have hlti:(at_:Int)+(i:Int)<(L:Int):=kD4
   have hx:=zB1 hH.out (at_+i) hlt;have hfz:=zA2 hH.out (at_+i);obtain⟨hx0,hx1⟩:=hrL.out.at (at_+i) hlt;obtain⟨x,hxx⟩:∃x,x=r[at_+i]:=⟨_,rfl⟩;rw[← hxx] at hx hx0 hx1;have hb:=(hG.block Bb (zA5 hBb.out) kDa).trans hBb.out;have hd3:Hid (∀v:Int,(r.set (at_+i) v).drop (at_+(i+1))=a.drop (at_+(i+1))):=kA1 (fun v=>drop_next kDy hrd.out);by_cases hii:i<n
   ·have hyc:=zB1 hb i kD4;obtain⟨hy1,hy2⟩:=lb.out.at i kD4;have hfin:=push_round (c:=c) (y:=bb[i]' kD4) (by omega:n≤bb.length) hin (.inl ⟨hii,rfl⟩) kDy hlt hrd.out hV.out;rw[← hxx] at hfin;replace hxx:=kA1 hxx;have hdi:(i:Int)<(n:Int):=kD4
    generalize bb[i]' kD4=y at *;have hr0:=kBM (x+c+y) (show (1000000000:Int)≠0 by omega);have hr1:=kBD (x+c+y) (show (0:Int)<1000000000 by omega);have hq0:0≤(x+c+y) / 1000000000:=kD4
    have hq1:(x+c+y) / 1000000000≤1:=kD4
    replace hfin:=kA1 hfin;clear hV hb;go_wp2;go_roundg k
    case measure=>omega
    case rel =>
     refine⟨i+1,r.set (at_+i) ((x+c+y) % 1000000000),(x+c+y) / 1000000000,kD4,rfl,by go_num,kD4,kD4,kA1 kDt,kA1 (zD4 hrL.out _ _ kD4),kA1 (hd3.out _),kA1 ?_,kA1 (zBD hH.out _ _),kA7 hG (kAf _ _ _ _)⟩;exact hfin.out
   ·obtain rfl:i=n:=kD4
    have hfin:=push_round (c:=c) (y:=0) (by omega:i≤bb.length) hin (.inr ⟨rfl,rfl⟩) kDy hlt hrd.out hV.out;rw[← hxx,kCM] at hfin;replace hxx:=kA1 hxx;have hr0:=kBM (x+c) (show (1000000000:Int)≠0 by omega);have hr1:=kBD (x+c) (show (0:Int)<1000000000 by omega);have hq0:0≤(x+c) / 1000000000:=kD4
    have hq1:(x+c) / 1000000000≤1:=kD4
    replace hfin:=kA1 hfin;clear hV hb;go_wp2;go_roundg k
    case measure=>omega
    case rel =>
     refine⟨i+1,r.set (at_+i) ((x+c) % 1000000000),(x+c) / 1000000000,kD4,rfl,by go_num,kD4,kD4,kA1 kDt,kA1 (zD4 hrL.out _ _ kD4),kA1 (hd3.out _),kA1 ?_,kA1 (zBD hH.out _ _),kA7 hG (kAf _ _ _ _)⟩;exact hfin.out
theorem val_three {l:List Int} (i:Nat) (h:i+2<l.length):val (l.take (i+3))=val (l.take i)+1000000000 ^ i*((l[i+2]*1000000000+l[i+1])*1000000000+l[i]):=by
 rw[zAC (i+2) h,zAC (i+1) kD4,zAC i kD4,show (1000000000:Int) ^ (i+2)=1000000000 ^ i*1000000000*1000000000 from by rw[kBI,kBI],show (1000000000:Int) ^ (i+1)=1000000000 ^ i*1000000000 from kBI _ _];generalize (1000000000:Int) ^ i=B
 grind
theorem val_pair {l:List Int} (i:Nat) (h:i+1<l.length):val (l.take (i+2))=val (l.take i)+1000000000 ^ i*(l[i+1]*1000000000+l[i]):=by
 rw[zAC (i+1) h,zAC i kD4,kBI];generalize (1000000000:Int) ^ i=B
 grind
theorem over_guess {r bb:List Int} {j at_:Nat} (hr:Limb r) (hbb:Limb bb) (hat:at_+j+2<r.length) (hn:j+1<bb.length) (hh:500000000≤bb[j+1])
  (hI:val (r.take (at_+j+3))<val (bb.take (j+2))*1000000000 ^ (at_+1)) :
  ∃q x z W,Guess (val (r.take (at_+j+3))) (val (bb.take (j+2))*1000000000 ^ at_) q x z W (r[at_+j+2]*1000000000+r[at_+j+1]) r[at_+j] bb[j+1] bb[j]:=by
 have hb1:=hbb.at (j+1) kD4;have hb0:=hbb.at j kD4;have hr2:=hr.at (at_+j+2) kD4;have hr1:=hr.at (at_+j+1) kD4;have hr0:=hr.at (at_+j) kD4;have hz0:=zB0 (hbb.take j);have hz1:=zEa (hbb.take j);rw[kAe,kAY kD4] at hz1;have hx0:=zB0 (hr.take (at_+j));have hx1:=zEa (hr.take (at_+j));rw[kAe,kAY kD4] at hx1;have hu0:=zB0 (hr.take (at_+j+3));have hV:=val_pair (l:=bb) j kD4;have hP:=zBq at_;have hQ:=zBq j;have hVp:0<val (bb.take (j+2)):=by
  rw[hV];have:0<(1000000000:Int) ^ j*(bb[j+1]*1000000000+bb[j]):=Int.mul_pos hQ kD4;omega
 have hDp:0<val (bb.take (j+2))*1000000000 ^ at_:=Int.mul_pos hVp hP;have hI2:val (r.take (at_+j+3))<1000000000*(val (bb.take (j+2))*1000000000 ^ at_):=by
  rw[kBI,← kB3,kBg] at hI;exact hI
 refine⟨val (r.take (at_+j+3)) / (val (bb.take (j+2))*1000000000 ^ at_),val (r.take (at_+j)),1000000000 ^ at_*val (bb.take j),1000000000 ^ (at_+j),?_⟩;exact {
  hW:=zBq _
  hu:=val_three (at_+j) kD4
  hx0:=hx0
  hx1:=hx1
  hD:=by rw[hV,kBg,kBB,← kB3,← kCF]
  hz0:=kCa (kBh hP) hz0
  hz1:=by rw[kCF];exact Int.mul_lt_mul_of_pos_left hz1 hP
  hn0:=hb0.1
  hn1:=hb0.2
  h20:=hr0.1
  h21:=hr0.2
  hh0:=hh
  hh1:=hb1.2
  ht0:=kD4
  hDp:=hDp
  hq0:=kBV hu0 (kBh hDp)
  hq1:=kCN hDp hI2
  hqD:=Int.ediv_mul_le _ kD4
  hqD2:=Int.lt_mul_of_ediv_lt hDp kD4 }
theorem over_guess2 {r bb:List Int} {n at_:Nat} {h nx:Int} (hr:Limb r) (hbb:Limb bb) (hn2:2≤n) (hnb:n≤bb.length) (hat:at_+n<r.length) (he:h=bb[n-1]) (hxe:nx=bb[n-2]) (hh:500000000≤h)
  (hI:val (r.take (at_+1+n))<val (bb.take n)*1000000000 ^ (at_+1)) :
  ∃q x z W,Guess (val (r.take (at_+1+n))) (val (bb.take n)*1000000000 ^ at_) q x z W (r[at_+n]*1000000000+r[at_+n-1]) r[at_+n-2] h nx:=by
 obtain⟨j,rfl⟩:∃j,n=j+2:=⟨n-2,kD4⟩;subst he hxe;have e:at_+1+(j+2)=at_+j+3:=kD4
 rw[e] at hI⊢;exact over_guess hr hbb kD4 kD4 hh hI
theorem over_left {u D q g d R N:Int} (hDp:0<D) (hq0:0≤q) (hqD:q*D≤u) (hqD2:u<(q+1)*D) (hg0:q≤g) (hg1:g≤q+1) (hR0:0≤R) (hR1:R<N) (hR:R+g*D=u+N*d) (hd:d=0∨d=1) :
  (d=0∧g=q∧R=u-q*D)∨(d=1∧g=q+1∧R=u-q*D-D+N):=by
 have e1:(q+1)*D=q*D+D:=by rw[Int.add_mul,kCj]
 rcases (show g=q∨g=q+1 by omega) with rfl | rfl<;>rcases hd with rfl | rfl
 ·exact .inl ⟨rfl,rfl,kD4⟩
 ·exfalso;omega
 ·exfalso;omega
 ·exact .inr ⟨rfl,rfl,kD4⟩
theorem over_back {u D q R R2 N c:Int} (hqD:q*D≤u) (hqD2:u<(q+1)*D) (hR:R=u-q*D-D+N) (h0:0≤c) (h1:c≤1) (hb0:0≤R2) (hb1:R2<N) (hN:D≤N) (h:R2+N*c=R+D):R2=u-q*D:=by
 have e1:(q+1)*D=q*D+D:=by rw[Int.add_mul,kCj]
 rcases (show c=0∨c=1 by omega) with rfl | rfl<;>omega
end Go.Proofs.YtjaobihcdkjmbaaGreatDoor
end
