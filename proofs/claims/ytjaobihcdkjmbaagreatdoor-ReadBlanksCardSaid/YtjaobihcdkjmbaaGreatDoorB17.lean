/- The law ReadBlanks answers true for every argument; a part of its proof. -/
import Derived.Test.YtjaobihcdkjmbaaGreatDoorBa
import Derived.Test.YtjaobihcdkjmbaaGreatDoorBb
import Derived.Test.YtjaobihcdkjmbaaGreatDoorB0
import Derived.Test.YtjaobihcdkjmbaaGreatDoorB9
import Derived.Test.YtjaobihcdkjmbaaGreatDoorB12
import Derived.Test.YtjaobihcdkjmbaaGreatDoorB15
set_option linter.unusedVariables false
set_option linter.unusedSimpArgs false
namespace Go.Proofs.YtjaobihcdkjmbaaGreatDoor.PReadTokens
end Go.Proofs.YtjaobihcdkjmbaaGreatDoor.PReadTokens
namespace Go.Proofs.YtjaobihcdkjmbaaGreatDoorW.PrintWords
end Go.Proofs.YtjaobihcdkjmbaaGreatDoorW.PrintWords
set_option maxRecDepth 100000
set_option maxHeartbeats 2000000
section
namespace Go.Proofs.YtjaobihcdkjmbaaGreatDoor
open Go.RowKit Go.Proofs.YtjaobihcdkjmbaaGreatDoorW.PrintWords Go.Proofs.YtjaobihcdkjmbaaGreatDoor.PReadTokens
def zCs:Nat→ByteArray→List ByteArray
 | 0,_=>[]
 | k+1,t=>if t.size=0 then [] else t.extract (t.size-9) t.size :: zCs k (t.extract 0 (t.size-9))
def zB5 (s:ByteArray):List ByteArray:=zCs (s.size+1) s
theorem chunkF_length (k:Nat):∀t,(zCs k t).length≤k:=by
 induction k with
 | zero=>intro t;exact kA2 _
 | succ k ih =>
  intro t;rw[zCs];split
  ·simp
  ·rw[List.length_cons];have:=ih (t.extract 0 (t.size-9));omega
theorem chunksN_in (n l:Nat) (box:Addr) (s:ByteArray) (hs:s.size≤2147483648) (W:World) (J:List ByteArray→World→Prop) (hbox:W.cell? box=some (.string s))
  (hJ:∀pre A u,J pre A→J pre (A.setCell box (.string u)))
  (hY:∀pre t A,J pre A→(∃rest,zB5 s=pre++t :: rest)→YieldAt Fence.wide (n-1) Tryz.prog l #[.string t] A fun e B=>e=.returned (.bool true)∧J (pre++[t]) B∧B.cell? box=A.cell? box∧B.frozen? box=false)
  (h0:J [] W) :
  CallsIn Fence.wide n Tryz.prog 257 #[.func (.yield l) #[] #[],.pointer (some box)] W fun e W'=>e=.returned (.tuple #[])∧J (zB5 s) W':=by
 have hD:Fence.wide.depth.isSome=false:=rfl;have HJ:=kA1 hJ;have HY:=kA1 hY;have H0:=kA1 h0;clear hJ hY h0;refine kCu Tryz.func257 rfl trivial ?_ rfl;simp only[Tryz.ntmps257,kAc,List.length_cons,List.length_nil,Nat.reduceAdd,Nat.reduceSub,kAY,Array.replicate_zero,kBj,kAP,List.nil_append,List.cons_append]
 gi_wp2
 gi_loopg [] (s.size+1) (fun k wr=>∃pre t,t.size<k∧t.size≤2147483648∧wr.cell? box=some (.string t)∧Hid (J pre wr)∧Hid (zB5 s=pre++zCs k t))
 case atStart=>exact⟨[],s,kCT,hs,hbox,H0,kA1 rfl⟩
 case round =>
  clear hbox H0;obtain⟨pre,t,htk,hts,hbx,HJ1,HC⟩:=hrel
  cases gk with
  | zero=>omega
  | succ m =>
   by_cases h0:0<t.size
   ·have hpos:decide (0<(t.size:Int))=true:=kA7 kCT;have hpos2:decide (0<t.size)=true:=kA7 h0;have Hun:Hid (zCs (m+1) t=t.extract (t.size-9) t.size :: zCs m (t.extract 0 (t.size-9))):=kA1 (by rw[zCs,kA9 kCT]);obtain⟨a,ha⟩:∃a,a=t.size-9:=⟨_,rfl⟩;have hmax:max 0 ((t.size:Int)-9)=(a:Int):=kCT
    have hal:a≤t.size:=kCT
    have ham:a<m:=kCT
    rw[← ha] at Hun;have Hfull:Hid (zB5 s=pre++t.extract a t.size :: zCs m (t.extract 0 a)):=kA1 (by rw[HC.out,Hun.out]);replace ha:=kA1 ha;clear h0;obtain⟨fn,tmps,assign,body,hy,hR⟩:=HY.out pre (t.extract a t.size) wr HJ1.out ⟨_,Hfull.out⟩
    gi_wp2
    refine hR.mono ?_;rintro e B ⟨rfl,hJ2,hb,hf⟩;rw[hbx] at hb;have HJ2:=kA1 hJ2;clear hR hy hbx hJ2
    gi_wp2
    gi_roundg m
    case measure=>omega
    case rel=>exact⟨pre++[t.extract a t.size],t.extract 0 a,kCX,kCX,World.cell?_setCell_same _ _ _ hb,kA1 (HJ.out _ _ _ HJ2.out),kA1 (by rw[Hfull.out,kAV];rfl)⟩
   ·have hpos:decide (0<(t.size:Int))=false:=kA8 kCT;have hpos2:decide (0<t.size)=false:=kA8 h0;have Hfull:Hid (zB5 s=pre):=kA1 (by rw[HC.out,zCs,kAa kCT,kCg]);clear h0
    gi_wp2
    refine kBd (kB0 rfl _ _ _) rfl ⟨rfl,?_⟩;rw[Hfull.out];exact HJ1.out
theorem zD2 {n:Nat} {g:Operand} {p:Tmp} {assign body:Code} {Q:Exit→Act→World→Prop} {a:Act} {w:World} {bb:Nat} {s:ByteArray} (tm:ByteArray→Array Value)
  (hg:a.eval g=.func (.func 257) #[] #[.pointer (some ⟨bb,0,none⟩)]) (hs:s.size≤2147483648) (hbox:w.heap[bb]?=some (.cells #[.string s] 9 (0,0)))
  (I:List ByteArray→World→Prop) (hI:∀pre A B k,I pre A→(k=w.heap.size+1∨k=bb)→A.grownBy B (some k)→I pre B) (h0:I [] w)
  (hI1:∀A B,I [] A→A.grownBy B none→I [] B)
  (hassign:∀(l:Nat) (t:ByteArray) (A:World) (K:Act→World→Prop),K { tmps:=tm t,defers:=[] } A →
   assign.wpIn (Fence.wide.inRound l) (n-1-1) Tryz.prog (Exit.then K (fun _ _ _=>False)) { tmps:=a.tmps.setIfInBounds p (.string t),defers:=[] } A)
  (hbody:∀(pre:List ByteArray) (t:ByteArray) (A W0:World),I pre A→(∃rest,zB5 s=pre++t :: rest)→w.heap.size+2≤A.heap.size→A.grownBy W0 (some (w.heap.size+1))→W0.heap.size=A.heap.size →
   body.wpIn (Fence.wide.inRound (w.heap.size+1)) (n-1-1) Tryz.prog (chunkPost bb (I (pre++[t])) W0) { tmps:=tm t,defers:=[] } W0)
  (hdone:∀(W:World),I (zB5 s) W→W.heap[w.heap.size]?=some (.deferred (some []))→Q .normal { a with defers:={ target:=.collected w.heap.size,args:=#[] } :: a.defers } W) :
  (Code.rangeFunc g #[p] assign body).wpIn Fence.wide n Tryz.prog Q a w:=by
 refine wpIn_rangeFunc ?_;intro fn _;obtain⟨rec,hrec⟩:∃rec:LoopState→Option Code→Loop,rec=fun st pe=>{ state:=st,pending:=pe,fn,tmps:=a.tmps,params:=#[p],assign,body,defers:=w.heap.size }:=⟨_,rfl⟩
 obtain⟨W1,hW1⟩:∃W1,(w.alloc (.deferred (some []))).alloc (.loop (rec .ready none))=W1:=⟨_,rfl⟩;have hsz1:W1.heap.size=w.heap.size+2:=by rw[← hW1];simp
 have hL1:W1.heap[w.heap.size+1]?=some (.loop (rec .ready none)):=by
  rw[← hW1];have:=kBL (w.alloc (.deferred (some []))) (.loop (rec .ready none));rwa [kAz] at this
 have hK1:W1.heap[w.heap.size]?=some (.deferred (some [])):=by
  rw[← hW1];exact (kA4 _ _ _ kCV).trans (kBL w _)
 have hbl:=zA5 hbox;have hg1:w.grownBy W1 none:=by rw[← hW1];exact zCp _ _ _ _
 have hb1:W1.heap[bb]?=some (.cells #[.string s] 9 (0,0)):=(hg1.block _ hbl kCV).trans hbox;refine⟨w.heap.size+1,[{ target:=.collected w.heap.size,args:=#[] }],W1,{ target:=.fn (.func 257) #[.pointer (some ⟨bb,0,none⟩)],args:=#[.func (.yield (w.heap.size+1)) #[] #[]] },W1,257,
  #[.func (.yield (w.heap.size+1)) #[] #[],.pointer (some ⟨bb,0,none⟩)],W1,?_,?_,?_,?_,zEB,?_⟩
 ·rw[← hW1,hrec];exact run_enterLoop_outer _ _ _ _ _
 ·simp only[resolve,hg];simp[go_sem]
 ·intro f' _;trivial
 ·simp only[invoke];simp[go_sem]
 ·refine (chunksN_in (n-1) (w.heap.size+1) ⟨bb,0,none⟩ s hs W1
   (fun pre W=>I pre W∧W.heap[w.heap.size+1]?=some (.loop (rec .ready none))∧W.heap[w.heap.size]?=some (.deferred (some []))∧∃u,W.heap[bb]?=some (.cells #[.string u] 9 (0,0))) (zA1 hb1 0) ?_ ?_ ⟨hI1 _ _ h0 hg1,hL1,hK1,s,hb1⟩).mono ?_
  ·rintro pre A u⟨hi,hl,hk,u0,hu⟩;exact⟨hI _ _ _ _ hi (.inr rfl) (kAf _ _ _ _),(kA5 _ _ _ _ kCX).trans hl,(kA5 _ _ _ _ kCX).trans hk,u,zA7 hu 0 _⟩
  ·rintro pre t A⟨hi,hl,hk,u,hu⟩ hrest;have hlA:=zA5 hl;have hy:=run_yield (P:=Tryz.prog) (args:=#[.string t]) hl (by rw[hrec];rfl);rw[hrec] at hy;refine⟨fn,_,assign,body,hy,roundIn_of_wpIn trivial ?_⟩;have hzip:(#[p].zip #[Value.string t]).foldl (fun tmps (x:Tmp×Value)=>tmps.setIfInBounds x.1 x.2) a.tmps=a.tmps.setIfInBounds p (.string t):=kCV
   show assign.wpIn _ _ _ _ { tmps:=(#[p].zip #[Value.string t]).foldl (fun tmps (x:Tmp×Value)=>tmps.setIfInBounds x.1 x.2) a.tmps,defers:=[] } _;rw[hzip];refine hassign _ t _ _ ?_;refine⟨_,run_beginRound hl (by rw[hrec]),?_⟩;obtain⟨W0,hW0⟩:∃W0,W0=A.putObj (w.heap.size+1) (.loop { rec .ready none with state:=.busy }):=⟨_,rfl⟩;show Code.wpIn _ _ _ body _ _ (A.putObj (w.heap.size+1) (.loop { rec .ready none with state:=.busy }));rw[← hW0];have hgr0:A.grownBy W0 (some (w.heap.size+1)):=by rw[hW0];exact zAt _ _ _
   have hz0:W0.heap.size=A.heap.size:=by rw[hW0];simp
   have hl2:W0.heap[w.heap.size+1]?=some (.loop { rec .ready none with state:=.busy }):=by rw[hW0];exact kBg hlA
   have hk2:W0.heap[w.heap.size]?=some (.deferred (some [])):=(hgr0.block _ kCT kCZ).trans hk;have hb2:W0.heap[bb]?=some (.cells #[.string u] 9 (0,0)):=(hgr0.block _ kCT kCZ).trans hu;refine wpIn_mono (hbody pre t A W0 hi hrest kCT hgr0 hz0) ?_;rintro e a3 W3 hp
   cases e with
   | normal =>
    obtain⟨hk3,hi3,hbb⟩:=hp;have hl3:=hk3.same _ _ hl2 rfl;have hd3:=hk3.same _ _ hk2 rfl;have hr:=run_endRound (P:=Tryz.prog) none hl3;rw[hrec] at hr hl3;have hb3:(W3.putObj (w.heap.size+1) (.loop (rec .ready none))).heap[bb]?=some (.cells #[.string u] 9 (0,0)):=(kAp kCT).trans (hbb.trans hb2);rw[hrec] at hb3;have hbA:=zA1 hu 0;refine⟨_,_,hr,rfl,⟨hI _ _ _ _ hi3 (.inl rfl) (zAt _ _ _),?_,(kAp kCT).trans hd3,u,hb3⟩,(zA1 hb3 0).trans hbA.symm,zA2 hb3 0⟩;rw[hrec];exact kBg (zA5 hl3)
   | ret=>exact hp.elim
   | exit id=>exact hp.elim
   | goto t=>exact hp.elim
   | panic ch=>exact hp.elim
   | outgrown=>exact hp.elim
  ·rintro e W2⟨rfl,hi,hl,hk,_⟩;have he:=run_endLoop (P:=Tryz.prog) hl kDv;rw[hrec] at he;exact⟨none,_,he,hdone _ (hI _ _ _ _ hi (.inl rfl) (zAt _ _ _)) ((kAp kCT).trans hk)⟩
def decF (acc:Nat) (l:List UInt8):Nat:=l.foldl (fun a c=>a*10+(c.toNat-48)) acc
def decV (l:List UInt8):Nat:=decF 0 l
def Digs (l:List UInt8):Prop:=∀c∈l,48≤c.toNat∧c.toNat≤57
theorem zFq (acc:Nat):decF acc []=acc:=id (Eq.refl _)
theorem zCM (acc:Nat) (c:UInt8) (r:List UInt8):decF acc (c :: r)=decF (acc*10+(c.toNat-48)) r:=id (Eq.refl _)
theorem step_mul (acc d B X:Nat):(acc*10+d)*B+X=acc*(B*10)+((0*10+d)*B+X):=by
 rw[kCx,kBh,kAH,Nat.mul_assoc acc,Nat.mul_comm 10 B];omega
theorem zG0:∀(l:List UInt8) (acc:Nat),decF acc l=acc*10 ^ l.length+decF 0 l
 | [],acc=>by rw[zFq,zFq];show acc=acc*1+0;omega
 | c :: r,acc=>by
  rw[zCM,zCM,List.length_cons,zG0 r (acc*10+(c.toNat-48)),zG0 r (0*10+(c.toNat-48)),Nat.pow_succ];exact step_mul _ _ _ _
theorem decF_app:∀(a b:List UInt8) (acc:Nat),decF acc (a++b)=decF (decF acc a) b
 | [],b,acc=>by rw[List.nil_append,zFq]
 | c :: r,b,acc=>by rw[List.cons_append,zCM,zCM];exact decF_app r b _
theorem decV_app (a b:List UInt8):decV (a++b)=decV a*10 ^ b.length+decV b:=by
 unfold decV;rw[decF_app,zG0 b (decF 0 a)]
theorem Digs.tail {c:UInt8} {r:List UInt8} (h:Digs (c :: r)):Digs r:=fun x hx=>h x (kAK _ hx)
theorem Digs.take {l:List UInt8} (h:Digs l) (n:Nat):Digs (l.take n):=fun x hx=>h x (kCl hx)
theorem Digs.drop {l:List UInt8} (h:Digs l) (n:Nat):Digs (l.drop n):=fun x hx=>h x (List.mem_of_mem_drop hx)
theorem decV_cons (c:UInt8) (r:List UInt8):decV (c :: r)=(c.toNat-48)*10 ^ r.length+decV r:=by
 unfold decV;rw[zCM,zG0,kBh,kAH]
theorem zFZ:∀{l:List UInt8},Digs l→decV l<10 ^ l.length
 | [],_=>by show 0<1;omega
 | c :: r,h=>by
  have h1:=zFZ (l:=r) h.tail;have h2:=h c (kAJ ..);rw[decV_cons,List.length_cons,Nat.pow_succ];generalize 10 ^ r.length=B at *;have h3:(c.toNat-48)*B≤9*B:=kB6 _ kCT;omega
theorem parse_dec:∀(l:List UInt8) (acc:Nat),Digs l→decF acc l<1844674407370955162→Lib.parseUint10 acc l=.ok (decF acc l)
 | [],acc,_,_=>by rw[zFq];rfl
 | c :: r,acc,hd,hlt=>by
  have h2:=hd c (kAJ ..);have hlt':decF (acc*10+(c.toNat-48)) r<1844674407370955162:=by rwa [zCM] at hlt
  have hmono:acc*10+(c.toNat-48)≤decF (acc*10+(c.toNat-48)) r:=by
   rw[zG0];have h1:0<10 ^ r.length:=Nat.pow_pos kCT;generalize 10 ^ r.length=B at *;generalize acc*10+(c.toNat-48)=y at *;have:=Nat.mul_le_mul_left y h1;omega
  have ih:=parse_dec r (acc*10+(c.toNat-48)) hd.tail hlt';rw[Lib.parseUint10,kAa h2,kA9 kCT,kA9 kCT,zCM];exact ih
theorem atoi_dec {l:List UInt8} (h:Digs l) (h0:l≠[]) (h9:l.length≤9):Lib.atoiAll l=.ok (decV l:Int):=by
 have hlt:=zFZ h;have h10:10 ^ l.length≤10 ^ 9:=kCm kCT h9;have hp:=parse_dec l 0 h (by show decV l<_;omega)
 cases l with
 | nil=>exact absurd rfl h0
 | cons c r =>
  have h2:=h c (kAJ ..);unfold Lib.atoiAll;simp only;rw[kA9 kCT];unfold Lib.parseMag;rw[kA9 kCV,hp];have e1:¬c.toNat=45:=kCT
  simp only[e1,not_false_eq_true,true_and,false_and,if_false];show (if 9223372036854775808≤decV (c :: r) then _ else _)=_;rw[kA9 kCT];rfl
def zBw (cs:List ByteArray):List Int:=cs.map fun c=>(decV c.data.toList:Int)
theorem extract_lo (t:ByteArray) (a:Nat):(t.extract 0 a).data.toList=t.data.toList.take a:=by
 rw[kBp,kBZ,Nat.sub_zero]
theorem extract_hi (t:ByteArray) (a:Nat):(t.extract a t.size).data.toList=t.data.toList.drop a:=by
 rw[kBp];exact kBw kCV
theorem chunk_num (t:ByteArray) (h:Digs t.data.toList) (h0:t.size≠0):Digs (t.extract (t.size-9) t.size).data.toList∧(t.extract (t.size-9) t.size).data.toList≠[]∧(t.extract (t.size-9) t.size).data.toList.length≤9:=by
 rw[extract_hi];have hl:t.data.toList.length=t.size:=rfl;refine⟨h.drop _,?_,?_⟩
 ·intro e;have:=congrArg List.length e;rw[kAn,hl] at this;simp at this;omega
 ·rw[kAn,hl];omega
theorem chunks_val (k:Nat):∀t:ByteArray,Digs t.data.toList→t.size<k→val (zBw (zCs k t))=decV t.data.toList∧Limb (zBw (zCs k t))∧∀c∈zCs k t,Digs c.data.toList∧c.data.toList≠[]∧c.data.toList.length≤9:=by
 induction k with
 | zero=>intro t _ h;omega
 | succ k ih =>
  intro t hd hk;have hl:t.data.toList.length=t.size:=rfl;rw[zCs];by_cases h0:t.size=0
  ·rw[kAa h0];have e:t.data.toList=[]:=kBK h0;refine⟨by rw[e];rfl,fun x hx=>by simp[zBw] at hx,fun c hc=>by simp at hc⟩
  ·rw[kA9 h0];have hc:=chunk_num t hd h0;have hlo:(t.extract 0 (t.size-9)).data.toList=t.data.toList.take (t.size-9):=extract_lo _ _;have hhi:(t.extract (t.size-9) t.size).data.toList=t.data.toList.drop (t.size-9):=extract_hi _ _;have hsz:(t.extract 0 (t.size-9)).size<k:=kCX
   obtain⟨i1,i2,i3⟩:=ih _ (by rw[hlo];exact hd.take _) hsz;have hlt:=zFZ hc.1;have h10:10 ^ (t.extract (t.size-9) t.size).data.toList.length≤10 ^ 9:=kCm kCT hc.2.2;refine⟨?_,?_,?_⟩
   ·show val ((decV (t.extract (t.size-9) t.size).data.toList:Int) :: zBw (zCs k (t.extract 0 (t.size-9))))=_;simp only[val];rw[i1,hlo,hhi];have e:=decV_app (t.data.toList.take (t.size-9)) (t.data.toList.drop (t.size-9));rw[kBC,kAn,hl] at e;rw[e];by_cases h9:t.size≤9
    ·have e0:t.size-9=0:=kCT
     rw[e0,List.take_zero];have:decV ([]:List UInt8)=0:=rfl;rw[this];generalize decV (List.drop 0 t.data.toList)=b;omega
    ·rw[show t.size-(t.size-9)=9 by omega];generalize decV (List.take (t.size-9) t.data.toList)=a;generalize decV (List.drop (t.size-9) t.data.toList)=b;have h9:(10:Nat) ^ 9=1000000000:=rfl;rw[h9];omega
   ·intro x hx;rcases kAI.1 (show x∈(decV (t.extract (t.size-9) t.size).data.toList:Int) :: zBw (zCs k (t.extract 0 (t.size-9))) from hx) with rfl | hx
    ·constructor<;>omega
    ·exact i2 x hx
   ·intro c hcm;rcases kAI.1 hcm with rfl | hcm
    ·exact hc
    ·exact i3 c hcm
theorem chunksOf_val {s:ByteArray} (h:Digs s.data.toList):val (zBw (zB5 s))=decV s.data.toList∧Limb (zBw (zB5 s))∧∀c∈zB5 s,Digs c.data.toList∧c.data.toList≠[]∧c.data.toList.length≤9 :=
 chunks_val _ s h (Nat.lt_succ_self _)
theorem chunksOf_ne {s:ByteArray} (h:0<s.size):zBw (zB5 s)≠[]:=by
 unfold zB5;rw[zCs,kA9 kCT];simp[zBw]
end Go.Proofs.YtjaobihcdkjmbaaGreatDoor
end
