/- The law ReadPlace answers true for every argument; a part of its proof. -/
import Derived.Test.YtjaobihcdkjmbaaGreatDoorCa
import Derived.Test.YtjaobihcdkjmbaaGreatDoorCb
import Derived.Test.YtjaobihcdkjmbaaGreatDoorC0
import Derived.Test.YtjaobihcdkjmbaaGreatDoorC1
import Derived.Test.YtjaobihcdkjmbaaGreatDoorC5
import Derived.Test.YtjaobihcdkjmbaaGreatDoorC7
import Derived.Test.YtjaobihcdkjmbaaGreatDoorC9
import Derived.Test.YtjaobihcdkjmbaaGreatDoorC10
import Derived.Test.YtjaobihcdkjmbaaGreatDoorC11
import Derived.Test.YtjaobihcdkjmbaaGreatDoorC12
import Derived.Test.YtjaobihcdkjmbaaGreatDoorC14
import Derived.Test.YtjaobihcdkjmbaaGreatDoorC17
import Derived.Test.YtjaobihcdkjmbaaGreatDoorC28
import Derived.Test.YtjaobihcdkjmbaaGreatDoorC29
import Derived.Test.YtjaobihcdkjmbaaGreatDoorC34
import Derived.Test.YtjaobihcdkjmbaaGreatDoorC35
import Derived.Test.YtjaobihcdkjmbaaGreatDoorC40
set_option linter.unusedVariables false
set_option linter.unusedSimpArgs false
namespace Go.Proofs.YtjaobihcdkjmbaaGreatDoor.PReadTokens
end Go.Proofs.YtjaobihcdkjmbaaGreatDoor.PReadTokens
namespace Go.Proofs.YtjaobihcdkjmbaaGreatDoorW.PrintWords
end Go.Proofs.YtjaobihcdkjmbaaGreatDoorW.PrintWords
set_option maxRecDepth 100000
set_option maxHeartbeats 8000000
section
namespace Go.Proofs.YtjaobihcdkjmbaaGreatDoor
open Go.RowKit Go.Proofs.YtjaobihcdkjmbaaGreatDoorW.PrintWords Go.Proofs.YtjaobihcdkjmbaaGreatDoor.PReadTokens
def decF (acc:Nat) (l:List UInt8):Nat:=l.foldl (fun a c=>a*10+(c.toNat-48)) acc
def decV (l:List UInt8):Nat:=decF 0 l
def Digs (l:List UInt8):Prop:=∀c∈l,48≤c.toNat∧c.toNat≤57
theorem zFB (acc:Nat):decF acc []=acc:=id (Eq.refl _)
theorem zCX (acc:Nat) (c:UInt8) (r:List UInt8):decF acc (c :: r)=decF (acc*10+(c.toNat-48)) r:=id (Eq.refl _)
theorem step_mul (acc d B X:Nat):(acc*10+d)*B+X=acc*(B*10)+((0*10+d)*B+X):=by
 rw[kCR,kB0,kAL,Nat.mul_assoc acc,Nat.mul_comm 10 B];omega
theorem zGa:∀(l:List UInt8) (acc:Nat),decF acc l=acc*10 ^ l.length+decF 0 l
 | [],acc=>by rw[zFB,zFB];show acc=acc*1+0;omega
 | c :: r,acc=>by
  rw[zCX,zCX,List.length_cons,zGa r (acc*10+(c.toNat-48)),zGa r (0*10+(c.toNat-48)),Nat.pow_succ];exact step_mul _ _ _ _
theorem decF_app:∀(a b:List UInt8) (acc:Nat),decF acc (a++b)=decF (decF acc a) b
 | [],b,acc=>by rw[List.nil_append,zFB]
 | c :: r,b,acc=>by rw[List.cons_append,zCX,zCX];exact decF_app r b _
theorem decV_app (a b:List UInt8):decV (a++b)=decV a*10 ^ b.length+decV b:=by
 unfold decV;rw[decF_app,zGa b (decF 0 a)]
theorem Digs.tail {c:UInt8} {r:List UInt8} (h:Digs (c :: r)):Digs r:=fun x hx=>h x (kB4 _ hx)
theorem Digs.take {l:List UInt8} (h:Digs l) (n:Nat):Digs (l.take n):=fun x hx=>h x (kCp hx)
theorem Digs.drop {l:List UInt8} (h:Digs l) (n:Nat):Digs (l.drop n):=fun x hx=>h x (List.mem_of_mem_drop hx)
theorem decV_cons (c:UInt8) (r:List UInt8):decV (c :: r)=(c.toNat-48)*10 ^ r.length+decV r:=by
 unfold decV;rw[zCX,zGa,kB0,kAL]
theorem zG9:∀{l:List UInt8},Digs l→decV l<10 ^ l.length
 | [],_=>by show 0<1;omega
 | c :: r,h=>by
  have h1:=zG9 (l:=r) h.tail;have h2:=h c (kB8 ..);rw[decV_cons,List.length_cons,Nat.pow_succ];generalize 10 ^ r.length=B at *;have h3:(c.toNat-48)*B≤9*B:=kBg _ kCW;omega
theorem parse_dec:∀(l:List UInt8) (acc:Nat),Digs l→decF acc l<1844674407370955162→Lib.parseUint10 acc l=.ok (decF acc l)
 | [],acc,_,_=>by rw[zFB];rfl
 | c :: r,acc,hd,hlt=>by
  have h2:=hd c (kB8 ..);have hlt':decF (acc*10+(c.toNat-48)) r<1844674407370955162:=by rwa [zCX] at hlt
  have hmono:acc*10+(c.toNat-48)≤decF (acc*10+(c.toNat-48)) r:=by
   rw[zGa];have h1:0<10 ^ r.length:=Nat.pow_pos kCW;generalize 10 ^ r.length=B at *;generalize acc*10+(c.toNat-48)=y at *;have:=Nat.mul_le_mul_left y h1;omega
  have ih:=parse_dec r (acc*10+(c.toNat-48)) hd.tail hlt';rw[Lib.parseUint10,kAb h2,kAa kCW,kAa kCW,zCX];exact ih
theorem atoi_dec {l:List UInt8} (h:Digs l) (h0:l≠[]) (h9:l.length≤9):Lib.atoiAll l=.ok (decV l:Int):=by
 have hlt:=zG9 h;have h10:10 ^ l.length≤10 ^ 9:=kCq kCW h9;have hp:=parse_dec l 0 h (by show decV l<_;omega)
 cases l with
 | nil=>exact absurd rfl h0
 | cons c r =>
  have h2:=h c (kB8 ..);unfold Lib.atoiAll;simp only;rw[kAa kCW];unfold Lib.parseMag;rw[kAa kCY,hp];have e1:¬c.toNat=45:=kCW
  simp only[e1,not_false_eq_true,true_and,false_and,if_false];show (if 9223372036854775808≤decV (c :: r) then _ else _)=_;rw[kAa kCW];rfl
def zBD (cs:List ByteArray):List Int:=cs.map fun c=>(decV c.data.toList:Int)
theorem extract_lo (t:ByteArray) (a:Nat):(t.extract 0 a).data.toList=t.data.toList.take a:=by
 rw[kAS,kBB,Nat.sub_zero]
theorem extract_hi (t:ByteArray) (a:Nat):(t.extract a t.size).data.toList=t.data.toList.drop a:=by
 rw[kAS];exact kBp kCY
theorem chunk_num (t:ByteArray) (h:Digs t.data.toList) (h0:t.size≠0):Digs (t.extract (t.size-9) t.size).data.toList∧(t.extract (t.size-9) t.size).data.toList≠[]∧(t.extract (t.size-9) t.size).data.toList.length≤9:=by
 rw[extract_hi];have hl:t.data.toList.length=t.size:=rfl;refine⟨h.drop _,?_,?_⟩
 ·intro e;have:=congrArg List.length e;rw[kAl,hl] at this;simp at this;omega
 ·rw[kAl,hl];omega
theorem chunks_val (k:Nat):∀t:ByteArray,Digs t.data.toList→t.size<k→val (zBD (zCv k t))=decV t.data.toList∧Limb (zBD (zCv k t))∧∀c∈zCv k t,Digs c.data.toList∧c.data.toList≠[]∧c.data.toList.length≤9:=by
 induction k with
 | zero=>intro t _ h;omega
 | succ k ih =>
  intro t hd hk;have hl:t.data.toList.length=t.size:=rfl;rw[zCv];by_cases h0:t.size=0
  ·rw[kAb h0];have e:t.data.toList=[]:=kBn h0;refine⟨by rw[e];rfl,fun x hx=>by simp[zBD] at hx,fun c hc=>by simp at hc⟩
  ·rw[kAa h0];have hc:=chunk_num t hd h0;have hlo:(t.extract 0 (t.size-9)).data.toList=t.data.toList.take (t.size-9):=extract_lo _ _;have hhi:(t.extract (t.size-9) t.size).data.toList=t.data.toList.drop (t.size-9):=extract_hi _ _;have hsz:(t.extract 0 (t.size-9)).size<k:=kCZ
   obtain⟨i1,i2,i3⟩:=ih _ (by rw[hlo];exact hd.take _) hsz;have hlt:=zG9 hc.1;have h10:10 ^ (t.extract (t.size-9) t.size).data.toList.length≤10 ^ 9:=kCq kCW hc.2.2;refine⟨?_,?_,?_⟩
   ·show val ((decV (t.extract (t.size-9) t.size).data.toList:Int) :: zBD (zCv k (t.extract 0 (t.size-9))))=_;simp only[val];rw[i1,hlo,hhi];have e:=decV_app (t.data.toList.take (t.size-9)) (t.data.toList.drop (t.size-9));rw[kBa,kAl,hl] at e;rw[e];by_cases h9:t.size≤9
    ·have e0:t.size-9=0:=kCW
     rw[e0,List.take_zero];have:decV ([]:List UInt8)=0:=rfl;rw[this];generalize decV (List.drop 0 t.data.toList)=b;omega
    ·rw[show t.size-(t.size-9)=9 by omega];generalize decV (List.take (t.size-9) t.data.toList)=a;generalize decV (List.drop (t.size-9) t.data.toList)=b;have h9:(10:Nat) ^ 9=1000000000:=rfl;rw[h9];omega
   ·intro x hx;rcases kAU.1 (show x∈(decV (t.extract (t.size-9) t.size).data.toList:Int) :: zBD (zCv k (t.extract 0 (t.size-9))) from hx) with rfl | hx
    ·constructor<;>omega
    ·exact i2 x hx
   ·intro c hcm;rcases kAU.1 hcm with rfl | hcm
    ·exact hc
    ·exact i3 c hcm
theorem chunksOf_val {s:ByteArray} (h:Digs s.data.toList):val (zBD (zBg s))=decV s.data.toList∧Limb (zBD (zBg s))∧∀c∈zBg s,Digs c.data.toList∧c.data.toList≠[]∧c.data.toList.length≤9 :=
 chunks_val _ s h (Nat.lt_succ_self _)
theorem chunksOf_ne {s:ByteArray} (h:0<s.size):zBD (zBg s)≠[]:=by
 unfold zBg;rw[zCv,kAa kCW];simp[zBD]
def negB (s:ByteArray):Bool:=match s.data.toList with | []=>false | c :: _=>c==45
def zC2 (s:ByteArray):ByteArray:=if negB s then s.extract 1 s.size else s
def digC (c:UInt8):Bool:=decide (48≤c.toNat)&&decide (c.toNat≤57)
def zFu (s:ByteArray):Bool:=match (zC2 s).data.toList with | []=>false | c :: _=>c==48
def zEj (s:ByteArray):Bool:=decide (0<(zC2 s).size) && !(zFu s&&(decide (1<(zC2 s).size)||decide (1<s.size)))&&(zC2 s).data.toList.all digC
theorem prefix_neg (s:ByteArray):stringslite_HasPrefix.f s ⟨#[45]⟩=some (negB s):=by
 unfold stringslite_HasPrefix.f negB;have s2:(⟨#[45]⟩:ByteArray).size=1:=rfl;rw[s2]
 cases hl:s.data.toList with
 | nil =>
  have hz:s.size=0:=by show s.data.toList.length=0;rw[hl];rfl
  simp[hz]
 | cons c r =>
  have hz:s.size=r.length+1:=by show s.data.toList.length=_;rw[hl];rfl
  have he:(s.extract 0 1).toList=[c]:=by
   rw[kBm,kAS,hl];rfl
  have h45:(⟨#[45]⟩:ByteArray).toList=[45]:=by rw[kBm]
  simp only[Int.toNat_natCast];rw[kAb kCW,kAb kCW,kAb kCW,he,h45];simp
theorem trim_f (s:ByteArray):strings_TrimPrefix.f s ⟨#[45]⟩=some (zC2 s):=by
 unfold strings_TrimPrefix.f stringslite_TrimPrefix.f zC2;rw[prefix_neg];have s2:(⟨#[45]⟩:ByteArray).size=1:=rfl
 cases hn:negB s
 ·simp
 ·have h1:1≤s.size:=by
   unfold negB at hn
   cases hl:s.data.toList with
   | nil=>rw[hl] at hn;cases hn
   | cons c r=>show 1≤s.data.toList.length;rw[hl];simp
  simp[s2];omega
theorem zEW (s:ByteArray) (w:World):Calls Tryz.prog 124 #[.string s,.string ⟨#[45]⟩] w fun e w'=>e=.returned (.string (zC2 s))∧∃n,w'=w.drewN n :=
 (strings_TrimPrefix.calls s ⟨#[45]⟩ (zC2 s) w (trim_f s)).mono fun _ _ ⟨a,b⟩=>⟨a,b.out⟩
theorem zEq (s:ByteArray):(zC2 s).size≤s.size:=by
 unfold zC2;split
 ·simp
 ·exact kA2 _
theorem rune_digC (s:ByteArray) (pos:Nat) (h:pos<s.size) :
  digC (s[pos]'h)=(decide ((48:Int)≤((Utf8.decode s pos).1:Nat))&&decide ((((Utf8.decode s pos).1:Nat):Int)≤57))∧(digC (s[pos]'h)=true→(Utf8.decode s pos).2=1):=by
 by_cases ha:(s[pos]'h).toNat<128
 ·rw[decode_ascii s pos h ha];refine⟨?_,fun _=>rfl⟩;unfold digC;simp only;congr 1<;>exact decide_eq_decide.2 kCW
 ·have hh:=(decode_high s pos h kCW).1;have e:digC (s[pos]'h)=false:=by
   unfold digC;rw[kB9];exact .inr (kA6 kCW)
  rw[e];refine⟨?_,fun h=>by cases h⟩;symm;rw[kB9];exact .inr (kA6 kCW)
theorem all_drop (s:ByteArray) (pos:Nat) (h:pos<s.size):(s.data.toList.drop pos).all digC=(digC (s[pos]'h)&&(s.data.toList.drop (pos+1)).all digC):=by
 rw[kAn (show pos<s.data.toList.length from h)];rfl
theorem zF8 (s:ByteArray) (hs:s.size≤9223372036854775807) (w:World):Calls Tryz.prog 256 #[.string s] w fun e w'=>e=.returned (.bool (zEj s))∧Below w.heap.size w w':=by
 have htp:=kA1 (fun w=>zEW s w);have hts:=zEq s;obtain⟨t,ht⟩:∃t,t=zC2 s:=⟨_,rfl⟩;have hz:zFu s=match t.data.toList with | []=>false | c :: _=>c==48:=by rw[ht];rfl
 have hform:zEj s=(decide (0<t.size) && !(zFu s&&(decide (1<t.size)||decide (1<s.size)))&&t.data.toList.all digC):=by rw[ht];rfl
 rw[← ht] at htp hts;clear ht;generalize zEj s=R at *;by_cases h0:t.size=0
 ·have hemp:t.toList=[]:=str_empty h0;have hR:R=false:=by rw[hform,h0];rfl
  subst hR;clear hform hz h0;go_enter Tryz.func256,Tryz.ntmps256;go_wp2_with (go_at_call 124;refine (htp.out _).mono ?_;rintro e w1 ⟨rfl,k,rfl⟩);go_ret;exact⟨rfl,zA3 (kA3 _ w) k⟩
 ·have hp:0<t.size:=kCW
  have hemp:t.toList.isEmpty=false:=str_some hp;have hzh:zFu s=decide (((t[0]'hp).toNat:Int)=48):=by
   rw[hz]
   cases hl:t.data.toList with
   | nil=>exfalso;have:t.size=t.data.toList.length:=rfl;rw[hl,List.length_nil] at this;omega
   | cons c r =>
    have e:t[0]'hp=c:=by
     show t.data.toList[0]'hp=c;simp[hl]
    rw[e];simp only;rw[kBW];simp only[kAA,kB6];rw[← kCT];constructor
    ·intro h;rw[h];rfl
    ·intro h;have:c.toNat=48:=kCW
     rw[this];rfl
  rw[kA5 hp,kC1,hzh] at hform;clear hz hzh h0;by_cases hbad:((t[0]'hp).toNat:Int)=48∧(1<t.size∨1<s.size)
  ·obtain⟨hb48,hbig⟩:=hbad;have q48:(((t[0]'hp).toNat:Int)==48)=true:=kAA.2 hb48;have hR:R=false:=by
    rw[hform,kA5 hb48,kC1];rcases hbig with h | h
    ·rw[kA5 h];rfl
    ·rw[kA5 h,Bool.or_true];rfl
   subst hR;clear hform hb48;by_cases hb1:1<t.size
   ·have e1:decide (1<(t.size:Int))=true:=kA5 kCW;go_enter Tryz.func256,Tryz.ntmps256;go_wp2_with (go_at_call 124;refine (htp.out _).mono ?_;rintro e w1 ⟨rfl,k,rfl⟩);go_ret;exact⟨rfl,zA3 (kA3 _ w) k⟩
   ·have e1:decide (1<(t.size:Int))=false:=kA6 kCW;have e2:decide (1<(s.size:Int))=true:=kA5 kCW;go_enter Tryz.func256,Tryz.ntmps256;go_wp2_with (go_at_call 124;refine (htp.out _).mono ?_;rintro e w1 ⟨rfl,k,rfl⟩);go_ret;exact⟨rfl,zA3 (kA3 _ w) k⟩
  ·have hR:R=t.data.toList.all digC:=by
    rw[hform];by_cases h48:((t[0]'hp).toNat:Int)=48
    ·have hb:¬(1<t.size∨1<s.size):=fun h=>hbad ⟨h48,h⟩
     rw[kA6 (show ¬1<t.size by omega),kA6 (show ¬1<s.size by omega)];simp
    ·rw[kA6 h48];rfl
   have hc:((((t[0]'hp).toNat:Int)==48)=true∧decide (1<(t.size:Int))=false∧decide (1<(s.size:Int))=false)∨((((t[0]'hp).toNat:Int)==48)=false):=by
    by_cases h48:((t[0]'hp).toNat:Int)=48
    ·have hb:¬(1<t.size∨1<s.size):=fun h=>hbad ⟨h48,h⟩
     exact .inl ⟨kAA.2 h48,kA6 kCW,kA6 kCW⟩
    ·exact .inr (kAj.2 h48)
   have HR:=kA1 hR;clear hform hR hbad;rcases hc with⟨q48,e1,e2⟩ | q48
   all_goals
    go_enter Tryz.func256,Tryz.ntmps256;go_wp2_with (go_at_call 124;refine (htp.out _).mono ?_;rintro e w1 ⟨rfl,k,rfl⟩);have hb1:Below w.heap.size w (w.drewN k):=zA3 (kA3 _ w) k;have hse:(w.drewN k).heap.size=w.heap.size:=by rw[World.heap_drewN]
    generalize w.drewN k=w1 at *;have hit:IterAt w1 t 0 (w1.iter t 0):=⟨(kA3 _ _).alloc (kA2 _) _,World.iter_heap _ _ _⟩;replace hse:=kA1 hse;rw[← hse.out];go_loopg [] t.size (fun k wr=>∃pos,pos+k=t.size∧IterAt w1 t pos wr∧Hid (R=(t.data.toList.drop pos).all digC))
    case atStart=>exact⟨0,kCW,hit,kA1 (by rw[HR.out,kBB])⟩
    case round =>
     clear hit q48;obtain⟨pos,hpos,hat,Hn⟩:=hrel;by_cases hq:pos<t.size
     ·have hnx:=fun ty=>zDL (P:=Tryz.prog) wr w1.heap.size t pos ty hat.iter hq
      have hin:=hat.next (pos+(Utf8.decode t pos).2)
      have hdg:=rune_digC t pos hq;have had:=all_drop t pos hq;obtain⟨d,hd⟩:∃d,d=digC t[pos]:=⟨_,rfl⟩;rw[← hd] at hdg had;clear hd
      cases d
      ·have Hres:Hid (R=false):=kA1 (by rw[Hn.out,had];rfl);have hd1:=hdg.1;clear hdg had hat;have hbw:=hin.below_;generalize ((Utf8.decode t pos).1:Int)=c at *;generalize (Utf8.decode t pos).2=wd at *;by_cases hlo:c<48
       ·have c1:decide (c<48)=true:=kA5 hlo;clear hd1;go_wp2;go_ret;exact⟨by rw[Hres.out];rfl,hb1.trans (hbw.mono hb1.size)⟩
       ·have c1:decide (c<48)=false:=kA6 hlo;have c2:decide (57<c)=true:=by
         rw[kA5 (show (48:Int)≤c by omega),kC1] at hd1;have:=kBr hd1.symm;exact kA5 kCW
        clear hd1;go_wp2;go_ret;exact⟨by rw[Hres.out];rfl,hb1.trans (hbw.mono hb1.size)⟩
      ·have Hn':Hid (R=(t.data.toList.drop (pos+1)).all digC):=kA1 (by rw[Hn.out,had];rfl);have hd1:=hdg.1;have hwd:=hdg.2 rfl;rw[hwd] at hin hnx;clear hdg had hat hwd;generalize ((Utf8.decode t pos).1:Int)=c at *;rw[eq_comm,kAx] at hd1;have l1:=kA8 hd1.1;have l2:=kA8 hd1.2;have c1:decide (c<48)=false:=kA6 kCW;have c2:decide (57<c)=false:=kA6 kCW;clear hd1;go_wp2;go_roundg (gk-1)
       case measure=>omega
       case rel=>exact⟨pos+1,kCW,hin,Hn'⟩
     ·have hnx:=fun ty=>zDs (P:=Tryz.prog) wr w1.heap.size t pos ty hat.iter hq
      have hbw:=hat.below_;have Hres:Hid (R=true):=kA1 (by
       rw[Hn.out,kAZ (show t.data.toList.length≤pos from kCE.1 hq)];rfl)
      clear hat;go_wp2;go_ret;exact⟨by rw[Hres.out];rfl,hb1.trans (hbw.mono hb1.size)⟩
section
attribute [local go_sem] Oper.semAt_some
def numV (s:ByteArray):Int:=(if negB s then -1 else 1)*(decV (zC2 s).data.toList:Int)
theorem zDX {W W':World} {base n sz:Nat} {e:TypeId} {v:Value} {xs:List Value} (h:W.ownsRow base e sz v n xs) {k:Nat} (hk:k<base) (hg:W.grownBy W' (some k)):W'.ownsRow base e sz v n xs:=by
  refine World.ownsRow.kept h hg ?_
  cases hv:v.ownBlock with
  | none=>exact .inl rfl
  | some b=>refine .inr (fun e=>?_);injection e with e;have:=(kBu h b hv).1;omega
theorem zEC {W W':World} {base n sz:Nat} {e:TypeId} {v:Value} {xs:List Value} (h:W.ownsRow base e sz v n xs) (hg:W.grownBy W' none):W'.ownsRow base e sz v n xs:=by
  refine World.ownsRow.kept h hg ?_
  cases hv:v.ownBlock with
  | none=>exact .inl rfl
  | some b=>exact .inr (fun e=>by cases e)
theorem reps_u32 (w:World) (xs:List Int):Reps (U32.K w) 1 xs (xs.map (Value.int .u32)):=by
  have key:∀(ts pre:List Int),Reps (U32.K w) 1 pre (pre.map (Value.int .u32))→Reps (U32.K w) 1 (pre++ts) ((pre++ts).map (Value.int .u32)):=by
    intro ts
    induction ts with
    | nil=>intro pre h;simpa using h
    | cons t ts ih =>
      intro pre h;have:=ih (pre++[t]) (by rw[List.map_append];exact Reps.snoc h rfl rfl);simpa using this
  exact key xs [] (Reps.none _ _)
theorem own_u32 {w:World} {base:Nat} {v:Value} {xs:List Int} (h:w.ownsRow base 270 1 v xs.length (xs.map (Value.int .u32))):∃A c,v=.slice A xs.length c∧xs.length≤c∧U32.C w A xs.length xs :=
  zC1.reads ⟨_,h,reps_u32 w xs⟩
theorem zCC (cs:List ByteArray):(zBD cs).length=cs.length:=by simp[zBD]
theorem zFT (cs:List ByteArray) (c:ByteArray):(zBD (cs++[c])).map (Value.int .u32)=(zBD cs).map (Value.int .u32)++[.int .u32 (decV c.data.toList)]:=by simp[zBD]
theorem LN_put {W:World} {z:Int} {v:Value} {R:Nat} {d:Option (List Deferred)} (h:LN W z v) (hR:W.heap[R]?=some (.deferred d)):LN (W.putObj R (.deferred none)) z v:=by
  obtain⟨l,A,c',h1,h2,h3,h4,h5⟩:=h.out;refine⟨l,A,c',h1,h2,h3,?_,h5⟩;by_cases hn:l=[]
  · subst hn
    exact⟨h4.1,kCY,fun h=>by simp at h⟩
  · obtain⟨ad,rfl,hc⟩:=C_cells h4 hn
    refine zEk kCW (fun i hi=>?_);have h6:=hc i hi;have hne:(ad.add i).block≠R:=by
      intro e;simp only[World.cell?,e,hR] at h6
      cases h6
    have hh:=kAp (w:=W) (o:=.deferred none) (r:=R) (k:=(ad.add i).block) hne;simpa[World.cell?,hh] using h6
theorem read_LN (n:Nat) (s:ByteArray) (hd:Digs (zC2 s).data.toList) (h0:0<(zC2 s).size) (h4:(zC2 s).size≤900) (w:World) :
    CallsIn Fence.wide n Tryz.prog 189 #[.string s] w fun e w'=>∃v,e=.returned v∧LN w' (numV s) v∧Below w.heap.size w w':=by
  have hD:Fence.wide.depth.isSome=false:=rfl;have hF227:Fence.wide.fn 227:=trivial;have hF228:Fence.wide.fn 228:=trivial;have hF229:Fence.wide.fn 229:=trivial;have hpre:=fun w=>(kBo (n:=n-1)).2 ((strings_HasPrefix.calls s ⟨#[45]⟩ (negB s) w (by unfold strings_HasPrefix.f;rw[prefix_neg];rfl)).mono fun _ _ ⟨a,b⟩=>(⟨a,b.out⟩:_∧∃n,_))
  obtain⟨z,hz⟩:∃z,z=numV s:=⟨_,rfl⟩;rw[← hz];unfold numV at hz;obtain⟨t,ht⟩:∃t,t=zC2 s:=⟨_,rfl⟩;have hchk:=chunksOf_val hd;rw[← ht] at hd h0 h4 hchk hz;unfold zC2 at ht;rw[← hchk.1] at hz;have hcne:=chunksOf_ne h0;have hclen:=chunkF_length (t.size+1) t;replace hclen:(zBg t).length≤t.size+1:=hclen;have HV:=kA1 hchk;have HNE:=kA1 hcne;have HD:=kA1 hd;clear hchk hcne hd;refine kCu Tryz.func189 rfl trivial ?_ rfl;simp only[Tryz.ntmps189,kAf,List.length_cons,List.length_nil,Nat.reduceAdd,Nat.reduceSub,kAV,Array.replicate_zero,kBh,kAP,List.nil_append,List.cons_append]
  cases hneg:negB s
  · rw[hneg] at hpre hz ht
    obtain rfl:t=s:=ht;replace hz:z=1*val (zBD (zBg t)):=hz;clear hneg;replace hz:=kA1 hz
    gi_wp2_with (gi_at_call 227;refine (hpre _).mono ?_;rintro e w2 ⟨rfl,hk⟩;have hb2:Below w.heap.size w w2:=(by obtain⟨k,rfl⟩:=hk;exact zA3 ((kA3 _ w).alloc (kA2 _) _) k);have hR2:w2.heap[w.heap.size]?=some (.cells #[.int .i64 0,.slice none 0 0] 234 (0,0)):=(by obtain⟨k,rfl⟩:=hk;exact zAp (zA4 w _) k);clear hk)
    obtain⟨w3,hw3⟩:∃w3,w3=w2:=⟨_,rfl⟩;subst hw3;have hb3:=hb2;have hR3:=hR2;clear hb2 hR2
    gi_wp2_with (gi_at_call 228;refine (zGe (n-1) t _).mono ?_;rintro e w' ⟨rfl,rfl⟩)
    obtain⟨W,hW⟩:∃W,W=((w3.alloc (.cells #[.slice none 0 0] 232)).alloc (.cells #[.string t] 9)):=⟨_,rfl⟩;have hz3:W.heap.size=w3.heap.size+2:=by rw[hW];simp
    have hl3:w.heap.size<w3.heap.size:=zA5 hR3;have hbW:Below w.heap.size w W:=by rw[hW];exact (hb3.alloc hb3.size _).alloc kCZ _
    have hR:W.heap[w.heap.size]?=some (.cells #[.int .i64 0,.slice none 0 0] 234 (0,0)):=by
      rw[hW];exact (kA4 _ _ _ kCZ).trans ((kA4 _ _ _ hl3).trans hR3)
    have hQ:W.heap[w3.heap.size]?=some (.cells #[.slice none 0 0] 232 (0,0)):=by
      rw[hW];exact (kA4 _ _ _ kCY).trans (zA4 w3 _)
    have hB:W.heap[w3.heap.size+1]?=some (.cells #[.string t] 9 (0,0)):=by
      rw[hW];exact zAB _ _ _ kCY
    rw[← hW];clear hW hb3 hR3 hpre;refine zDd (bb:=w3.heap.size+1) (s:=t)
      (fun c=>#[.string t,undef,.pointer (some ⟨w.heap.size,0,none⟩),.int .i64 1,.pointer (some ⟨w3.heap.size,0,none⟩),.string c,undef,undef,.string t,.bool false,undef,undef,.string t,
        .func (.func 257) #[] #[.pointer (some ⟨w3.heap.size+1,0,none⟩)],.string c,undef,undef,undef,undef,undef,undef,undef,undef,undef,undef,undef,undef,undef])
      rfl kCW hB
      (fun pre X=>∃v,X.ownsRow (W.heap.size+2) 270 1 v pre.length ((zBD pre).map (Value.int .u32))∧X.heap[w3.heap.size]?=some (.cells #[v] 232 (0,0))∧X.heap[w.heap.size]?=some (.cells #[.int .i64 0,.slice none 0 0] 234 (0,0))∧Below w.heap.size w X)
      ?hI ⟨_,kCl _ _ _ _,hQ,hR,hbW⟩ ?hI1 ?assign ?body ?done
    case hI =>
      rintro pre A B k⟨v,ho,hq,hr,hb⟩ hk hg;exact⟨v,zDX ho kCW hg,(hg.block _ (zA5 hq) kD2).trans hq,(hg.block _ (zA5 hr) kD2).trans hr,hb.grown hg hb.size (fun j e=>by injection e with e;omega)⟩
    case hI1 =>
      rintro A B⟨v,ho,hq,hr,hb⟩ hg;exact⟨v,zEC ho hg,(hg.block _ (zA5 hq) kCY).trans hq,(hg.block _ (zA5 hr) kCY).trans hr,hb.grown hg hb.size (fun j e=>by cases e)⟩
    case assign =>
      intro l c A K hK
      gi_wp2
      exact hK
    case body =>
      rintro pre c A W0⟨v,ho,hq,hr,hb⟩ hrest hlt hg hz0;have hcc:=HV.out.2.2 c (by obtain⟨rest,hrest⟩:=hrest;rw[hrest];simp);have hplen:pre.length≤1000:=by
        obtain⟨rest,hrest⟩:=hrest;rw[hrest,kAw] at hclen;omega
      have hq0:W0.heap[w3.heap.size]?=some (.cells #[v] 232 (0,0)):=(hg.block _ (zA5 hq) kD2).trans hq;have hr0:W0.heap[w.heap.size]?=some (.cells #[.int .i64 0,.slice none 0 0] 234 (0,0)):=(hg.block _ (zA5 hr) kD2).trans hr;have ho0:=zDX ho (k:=w.heap.size+1+(W.heap.size-w.heap.size)) (W':=W0) kCW (by rw[show w.heap.size+1+(W.heap.size-w.heap.size)=W.heap.size+1 by omega];exact hg);have hbw:Below w.heap.size w W0:=hb.grown hg hb.size (fun k e=>by injection e with e;omega);have hat:=fun wx=>(kBo (n:=n-1-1-1)).2 (zGr c (by have:=hcc.2.2;have e:c.size=c.data.toList.length:=rfl;omega) (decV c.data.toList) (atoi_dec hcc.1 hcc.2.1 hcc.2.2) wx)
      obtain⟨m,hm⟩:∃m:Int,m=(decV c.data.toList:Int):=⟨_,rfl⟩;rw[← hm] at hat;have hmlo:0≤m:=kCW
      have hmhi:m<1000000000:=by
        have h1:=zG9 hcc.1;have h2:10 ^ c.data.toList.length≤10 ^ 9:=kCq kCW hcc.2.2;omega
      replace hm:=kA1 hm;have hat2:∀l wx,CallsIn (Fence.wide.inRound l) (n-1-1-1) Tryz.prog 216 #[.string c] wx fun e w''=>e=.returned (.tuple #[.int .i64 m,.nilIface])∧Below wx.heap.size wx w'':=fun _=>hat
      have hF216:(Fence.wide.inRound (W.heap.size+1)).fn 216:=trivial;have hwm:m % 4294967296=m:=kCW
      clear hat hcc hrest;have HQ0:=kA1 hq0;clear hq
      gi_wp2
      refine⟨trivial,(hat2 _ _).mono ?_⟩;rintro e w1 ⟨rfl,hb1⟩;have hq1:=zAb hb1 hq0;have q0:=zA1 hq1 0;have q1:=zA2 hq1 0;have hbx:=hbw.trans (hb1.mono hbw.size);have hrx:=zAb hb1 hr0;have hs1:=hb1.size;have HB1:=kA1 hb1;have ho1:=zBY ho0 hb1;have hge:W.heap.size+2≤w1.heap.size:=kCW
      have hqlt:=zA5 hq1;clear hq0 hr0 hat2 ho ho0 hbw;obtain⟨i0,hi,iz0,iz1,iz2⟩:=info_parts info270;have HO:=zBY ho1 ((kA3 _ w1).alloc (kA2 _) (.cells #[.int .u32 m] 270));have HC:∀j u,([Value.int .u32 m]:List Value)[j]?=some u→(w1.alloc (.cells #[.int .u32 m] 270)).cell? ((⟨w1.heap.size,0,none⟩:Addr).add j)=some u:=by simpa using kBK (zA4 w1 (.cells #[.int .u32 m] 270))
      have hqne:some w3.heap.size≠v.ownBlock:=fun e=>by have:=(kBu HO _ e.symm).1;omega
      have H1:=kA1 HO;have H2:=kA1 HC;have hnb:=fun j (hj:some j=v.ownBlock)=>(kBu H1.out _ hj.symm).1
      have HNB:=kA1 hnb;have hbb1:pre.length+1≤maxLen:=kDf
      have hbb2:(pre.length+1)*4≤140737488355328:=kCW
      have hbb3:W.heap.size+2≤(w1.alloc (.cells #[.int .u32 m] 270)).heap.size:=kCZ
      clear HO HC ho1 hnb
      gi_wp2_with (gi_at_builtin;go_loud (refine kC7 _ rfl _ _ 232 rfl (W.heap.size+2) 270 i0 (.int .u32 0) 1 4 Tryz.underlying232 hi iz0 iz1 iz2 rfl (kCs 0) v pre.length ((zBD pre).map (Value.int .u32)) rfl H1.out ⟨w1.heap.size,0,none⟩ 1 1 [.int .u32 m] rfl rfl H2.out kDq hbb1 hbb2 hbb3 ?_);intro v' w4 hown' hgrow _;obtain⟨Av,cv,rfl⟩:=zC5 hown';have hq2:=(hgrow.block (w3.heap.size) kCZ hqne).trans ((kA4 _ _ _ hqlt).trans hq1);have c1:=zA1 hq2 0;have c2:=zA2 hq2 0;have HQ2:=kA1 hq2;have HO2:=kA1 hown';clear hown' hq2)
      have hgB:∀j,j<W.heap.size+2→∀o,w1.heap[j]?=some o→w4.heap[j]?=some o:=fun j hj o ho=>(hgrow.block j (by have:=zA5 ho;simp;omega) (fun e=>by have:=HNB.out j e;omega)).trans ((kA4 _ _ _ (zA5 ho)).trans ho)
      have hbx4:Below w.heap.size w w4:=(hbx.alloc hbx.size (.cells #[.int .u32 m] 270)).grown hgrow kCZ (fun k e=>by have:=HNB.out k e.symm;omega);refine⟨?_,⟨.slice Av (pre.length+1) cv,?_,zAa HQ2.out 0 _,?_,?_⟩,?_⟩
      · exact ((KeepsOthers.mk HB1.out.size (fun k o hk _=>zAb HB1.out hk)).trans ((kCC w1 (.cells #[.int .u32 m] 270)).trans (kCg hgrow (fun j o hj ho=>by
          obtain⟨cells,hc⟩:=zDi H1.out j hj;rw[hc] at ho;cases ho;rfl)))).trans (kBE _ _ _)
      · rw[kAw,zFT,← hm.out]
        exact zDX (k:=w3.heap.size) HO2.out kCW (kAh _ _ _ _)
      · exact (kA7 _ _ _ _ kCZ).trans (hgB _ kCW _ hrx)
      · exact hbx4.setCell (p:=⟨w3.heap.size,0,none⟩) kCZ _
      · have hbl:=zA5 hB
        have hbA:w3.heap.size+1<W0.heap.size:=kCW
        have hB0:W0.heap[w3.heap.size+1]?=w1.heap[w3.heap.size+1]?:=(HB1.out.block _ hbA).symm;refine (kA7 _ _ _ _ kCY).trans ?_;rw[hB0];exact (hgrow.block _ kCZ (fun e=>by have:=HNB.out _ e;omega)).trans (kA4 _ _ _ kCW)
    case done =>
      rintro X⟨v,ho,h1,h4',h5⟩ hdef;rw[hz3] at hdef;rw[← zCC] at ho;obtain⟨A,c,rfl,hc,hC⟩:=own_u32 ho;have q0:=zA1 h1 0;have hmf:=zF4 1 A (zBD (zBg t)) c X kCY HNE.out hc (.inl (by rw[zCC];omega)) hC HV.out.2.1;have hmi:=(kBo (n:=n-1)).2 hmf;rw[← hz.out] at hmi;have HMI:=kA1 hmi;clear hmi hmf hC ho;generalize (zBD (zBg t)).length=NL at *
      gi_wp2_with (gi_at_call 229;refine HMI.out.mono ?_;rintro e w1 ⟨v,rfl,hv,hb1⟩;obtain⟨lv,gv,cv,rfl,hrest⟩:=hv.out;have hr1:=zAb hb1 h4';have d0:=zA1 hr1 0;have d1:=zA1 hr1 1;have f0:=zA2 hr1 0;have f1:=zA2 hr1 1;have HR1:=kA1 hr1;have HV1:=kA1 hv;clear hr1 hv hrest)
      have hdl:=zA5 hdef;have hd1:=zAb hb1 hdef;have hYd:((w1.setCell ⟨w.heap.size,0,none⟩ (.int .i64 (Int.sign z))).setCell ⟨w.heap.size,1,none⟩ (.slice gv lv.length cv)).heap[(w3.heap.size+2)]?=some (.deferred (some [])):=(kA7 _ _ _ _ kD6).trans ((kA7 _ _ _ _ kD6).trans hd1);have hY:=zBT (.int .i64 (Int.sign z)) (.slice gv lv.length cv) HR1.out;have hYv:=zD0 HV1.out HR1.out (.int .i64 (Int.sign z)) (.slice gv lv.length cv);have hYb:=((h5.trans (hb1.mono h5.size)).setCell (p:=⟨w.heap.size,0,none⟩) (kA2 _) (.int .i64 (Int.sign z))).setCell (p:=⟨w.heap.size,1,none⟩) (kA2 _) (.slice gv lv.length cv);generalize (w1.setCell ⟨w.heap.size,0,none⟩ (.int .i64 (Int.sign z))).setCell ⟨w.heap.size,1,none⟩ (.slice gv lv.length cv)=Y at *;refine⟨kCY,.inl ⟨_,_,rfl,kCc hYd,?_⟩⟩;have j0:=(kAp (w:=Y) (o:=.deferred none) (r:=(w3.heap.size+2)) kCW).trans hY;refine⟨_,zAe Tryz.results189 _ _ w.heap.size 234 _ (0,0) _ rfl j0 Tryz.underlying234 rfl zBW,_,rfl,LN_put hYv hYd,hYb.grown (zAy _ _ _) hYb.size (fun k e=>by injection e with e;omega)⟩
  · rw[hneg] at hpre hz ht
    have ht':s.extract 1 s.size=t:=by rw[ht];rfl
    have hs1:1≤s.size:=by have e:t.size=s.size-1:=by rw[← ht'];simp
                          omega
    have hsb:s.size≤1000:=by have e:t.size=s.size-1:=by rw[← ht'];simp
                             omega
    replace hz:z=-1*val (zBD (zBg t)):=hz;clear ht hneg;replace ht':=kA1 ht';replace hz:=kA1 hz
    gi_wp2_with (gi_at_call 227;refine (hpre _).mono ?_;rintro e w2 ⟨rfl,hk⟩;have hb2:Below w.heap.size w w2:=(by obtain⟨k,rfl⟩:=hk;exact zA3 ((kA3 _ w).alloc (kA2 _) _) k);have hR2:w2.heap[w.heap.size]?=some (.cells #[.int .i64 0,.slice none 0 0] 234 (0,0)):=(by obtain⟨k,rfl⟩:=hk;exact zAp (zA4 w _) k);clear hk)
    gi_region
    all_goals
      try rw[ht'.out]
    have hb3:Below w.heap.size w w2.drew:=hb2.drew;have hR3:w2.drew.heap[w.heap.size]?=some (.cells #[.int .i64 0,.slice none 0 0] 234 (0,0)):=hR2;clear hb2 hR2;generalize w2.drew=w3 at *
    gi_wp2_with (gi_at_call 228;refine (zGe (n-1) t _).mono ?_;rintro e w' ⟨rfl,rfl⟩)
    obtain⟨W,hW⟩:∃W,W=((w3.alloc (.cells #[.slice none 0 0] 232)).alloc (.cells #[.string t] 9)):=⟨_,rfl⟩;have hz3:W.heap.size=w3.heap.size+2:=by rw[hW];simp
    have hl3:w.heap.size<w3.heap.size:=zA5 hR3;have hbW:Below w.heap.size w W:=by rw[hW];exact (hb3.alloc hb3.size _).alloc kCZ _
    have hR:W.heap[w.heap.size]?=some (.cells #[.int .i64 0,.slice none 0 0] 234 (0,0)):=by
      rw[hW];exact (kA4 _ _ _ kCZ).trans ((kA4 _ _ _ hl3).trans hR3)
    have hQ:W.heap[w3.heap.size]?=some (.cells #[.slice none 0 0] 232 (0,0)):=by
      rw[hW];exact (kA4 _ _ _ kCY).trans (zA4 w3 _)
    have hB:W.heap[w3.heap.size+1]?=some (.cells #[.string t] 9 (0,0)):=by
      rw[hW];exact zAB _ _ _ kCY
    rw[← hW];clear hW hb3 hR3 hpre;refine zDd (bb:=w3.heap.size+1) (s:=t)
      (fun c=>#[.string t,undef,.pointer (some ⟨w.heap.size,0,none⟩),.int .i64 (-1),.pointer (some ⟨w3.heap.size,0,none⟩),.string c,undef,undef,.string s,.bool true,.string s,.string t,.string t,
        .func (.func 257) #[] #[.pointer (some ⟨w3.heap.size+1,0,none⟩)],.string c,undef,undef,undef,undef,undef,undef,undef,undef,undef,undef,undef,undef,undef])
      rfl kCW hB
      (fun pre X=>∃v,X.ownsRow (W.heap.size+2) 270 1 v pre.length ((zBD pre).map (Value.int .u32))∧X.heap[w3.heap.size]?=some (.cells #[v] 232 (0,0))∧X.heap[w.heap.size]?=some (.cells #[.int .i64 0,.slice none 0 0] 234 (0,0))∧Below w.heap.size w X)
      ?hI ⟨_,kCl _ _ _ _,hQ,hR,hbW⟩ ?hI1 ?assign ?body ?done
    case hI =>
      rintro pre A B k⟨v,ho,hq,hr,hb⟩ hk hg;exact⟨v,zDX ho kCW hg,(hg.block _ (zA5 hq) kD2).trans hq,(hg.block _ (zA5 hr) kD2).trans hr,hb.grown hg hb.size (fun j e=>by injection e with e;omega)⟩
    case hI1 =>
      rintro A B⟨v,ho,hq,hr,hb⟩ hg;exact⟨v,zEC ho hg,(hg.block _ (zA5 hq) kCY).trans hq,(hg.block _ (zA5 hr) kCY).trans hr,hb.grown hg hb.size (fun j e=>by cases e)⟩
    case assign =>
      intro l c A K hK
      gi_wp2
      exact hK
    case body =>
      rintro pre c A W0⟨v,ho,hq,hr,hb⟩ hrest hlt hg hz0;have hcc:=HV.out.2.2 c (by obtain⟨rest,hrest⟩:=hrest;rw[hrest];simp);have hplen:pre.length≤1000:=by
        obtain⟨rest,hrest⟩:=hrest;rw[hrest,kAw] at hclen;omega
      have hq0:W0.heap[w3.heap.size]?=some (.cells #[v] 232 (0,0)):=(hg.block _ (zA5 hq) kD2).trans hq;have hr0:W0.heap[w.heap.size]?=some (.cells #[.int .i64 0,.slice none 0 0] 234 (0,0)):=(hg.block _ (zA5 hr) kD2).trans hr;have ho0:=zDX ho (k:=w.heap.size+1+(W.heap.size-w.heap.size)) (W':=W0) kCW (by rw[show w.heap.size+1+(W.heap.size-w.heap.size)=W.heap.size+1 by omega];exact hg);have hbw:Below w.heap.size w W0:=hb.grown hg hb.size (fun k e=>by injection e with e;omega);have hat:=fun wx=>(kBo (n:=n-1-1-1)).2 (zGr c (by have:=hcc.2.2;have e:c.size=c.data.toList.length:=rfl;omega) (decV c.data.toList) (atoi_dec hcc.1 hcc.2.1 hcc.2.2) wx)
      obtain⟨m,hm⟩:∃m:Int,m=(decV c.data.toList:Int):=⟨_,rfl⟩;rw[← hm] at hat;have hmlo:0≤m:=kCW
      have hmhi:m<1000000000:=by
        have h1:=zG9 hcc.1;have h2:10 ^ c.data.toList.length≤10 ^ 9:=kCq kCW hcc.2.2;omega
      replace hm:=kA1 hm;have hat2:∀l wx,CallsIn (Fence.wide.inRound l) (n-1-1-1) Tryz.prog 216 #[.string c] wx fun e w''=>e=.returned (.tuple #[.int .i64 m,.nilIface])∧Below wx.heap.size wx w'':=fun _=>hat
      have hF216:(Fence.wide.inRound (W.heap.size+1)).fn 216:=trivial;have hwm:m % 4294967296=m:=kCW
      clear hat hcc hrest;have HQ0:=kA1 hq0;clear hq
      gi_wp2
      refine⟨trivial,(hat2 _ _).mono ?_⟩;rintro e w1 ⟨rfl,hb1⟩;have hq1:=zAb hb1 hq0;have q0:=zA1 hq1 0;have q1:=zA2 hq1 0;have hbx:=hbw.trans (hb1.mono hbw.size);have hrx:=zAb hb1 hr0;have hs1:=hb1.size;have HB1:=kA1 hb1;have ho1:=zBY ho0 hb1;have hge:W.heap.size+2≤w1.heap.size:=kCW
      have hqlt:=zA5 hq1;clear hq0 hr0 hat2 ho ho0 hbw;obtain⟨i0,hi,iz0,iz1,iz2⟩:=info_parts info270;have HO:=zBY ho1 ((kA3 _ w1).alloc (kA2 _) (.cells #[.int .u32 m] 270));have HC:∀j u,([Value.int .u32 m]:List Value)[j]?=some u→(w1.alloc (.cells #[.int .u32 m] 270)).cell? ((⟨w1.heap.size,0,none⟩:Addr).add j)=some u:=by simpa using kBK (zA4 w1 (.cells #[.int .u32 m] 270))
      have hqne:some w3.heap.size≠v.ownBlock:=fun e=>by have:=(kBu HO _ e.symm).1;omega
      have H1:=kA1 HO;have H2:=kA1 HC;have hnb:=fun j (hj:some j=v.ownBlock)=>(kBu H1.out _ hj.symm).1
      have HNB:=kA1 hnb;have hbb1:pre.length+1≤maxLen:=kDf
      have hbb2:(pre.length+1)*4≤140737488355328:=kCW
      have hbb3:W.heap.size+2≤(w1.alloc (.cells #[.int .u32 m] 270)).heap.size:=kCZ
      clear HO HC ho1 hnb
      gi_wp2_with (gi_at_builtin;go_loud (refine kC7 _ rfl _ _ 232 rfl (W.heap.size+2) 270 i0 (.int .u32 0) 1 4 Tryz.underlying232 hi iz0 iz1 iz2 rfl (kCs 0) v pre.length ((zBD pre).map (Value.int .u32)) rfl H1.out ⟨w1.heap.size,0,none⟩ 1 1 [.int .u32 m] rfl rfl H2.out kDq hbb1 hbb2 hbb3 ?_);intro v' w4 hown' hgrow _;obtain⟨Av,cv,rfl⟩:=zC5 hown';have hq2:=(hgrow.block (w3.heap.size) kCZ hqne).trans ((kA4 _ _ _ hqlt).trans hq1);have c1:=zA1 hq2 0;have c2:=zA2 hq2 0;have HQ2:=kA1 hq2;have HO2:=kA1 hown';clear hown' hq2)
      have hgB:∀j,j<W.heap.size+2→∀o,w1.heap[j]?=some o→w4.heap[j]?=some o:=fun j hj o ho=>(hgrow.block j (by have:=zA5 ho;simp;omega) (fun e=>by have:=HNB.out j e;omega)).trans ((kA4 _ _ _ (zA5 ho)).trans ho)
      have hbx4:Below w.heap.size w w4:=(hbx.alloc hbx.size (.cells #[.int .u32 m] 270)).grown hgrow kCZ (fun k e=>by have:=HNB.out k e.symm;omega);refine⟨?_,⟨.slice Av (pre.length+1) cv,?_,zAa HQ2.out 0 _,?_,?_⟩,?_⟩
      · exact ((KeepsOthers.mk HB1.out.size (fun k o hk _=>zAb HB1.out hk)).trans ((kCC w1 (.cells #[.int .u32 m] 270)).trans (kCg hgrow (fun j o hj ho=>by
          obtain⟨cells,hc⟩:=zDi H1.out j hj;rw[hc] at ho;cases ho;rfl)))).trans (kBE _ _ _)
      · rw[kAw,zFT,← hm.out]
        exact zDX (k:=w3.heap.size) HO2.out kCW (kAh _ _ _ _)
      · exact (kA7 _ _ _ _ kCZ).trans (hgB _ kCW _ hrx)
      · exact hbx4.setCell (p:=⟨w3.heap.size,0,none⟩) kCZ _
      · have hbl:=zA5 hB
        have hbA:w3.heap.size+1<W0.heap.size:=kCW
        have hB0:W0.heap[w3.heap.size+1]?=w1.heap[w3.heap.size+1]?:=(HB1.out.block _ hbA).symm;refine (kA7 _ _ _ _ kCY).trans ?_;rw[hB0];exact (hgrow.block _ kCZ (fun e=>by have:=HNB.out _ e;omega)).trans (kA4 _ _ _ kCW)
    case done =>
      rintro X⟨v,ho,h1,h4',h5⟩ hdef;rw[hz3] at hdef;rw[← zCC] at ho;obtain⟨A,c,rfl,hc,hC⟩:=own_u32 ho;have q0:=zA1 h1 0;have hmf:=zF4 (-1) A (zBD (zBg t)) c X kCY HNE.out hc (.inl (by rw[zCC];omega)) hC HV.out.2.1;have hmi:=(kBo (n:=n-1)).2 hmf;rw[← hz.out] at hmi;have HMI:=kA1 hmi;clear hmi hmf hC ho;generalize (zBD (zBg t)).length=NL at *
      gi_wp2_with (gi_at_call 229;refine HMI.out.mono ?_;rintro e w1 ⟨v,rfl,hv,hb1⟩;obtain⟨lv,gv,cv,rfl,hrest⟩:=hv.out;have hr1:=zAb hb1 h4';have d0:=zA1 hr1 0;have d1:=zA1 hr1 1;have f0:=zA2 hr1 0;have f1:=zA2 hr1 1;have HR1:=kA1 hr1;have HV1:=kA1 hv;clear hr1 hv hrest)
      have hdl:=zA5 hdef;have hd1:=zAb hb1 hdef;have hYd:((w1.setCell ⟨w.heap.size,0,none⟩ (.int .i64 (Int.sign z))).setCell ⟨w.heap.size,1,none⟩ (.slice gv lv.length cv)).heap[(w3.heap.size+2)]?=some (.deferred (some [])):=(kA7 _ _ _ _ kD6).trans ((kA7 _ _ _ _ kD6).trans hd1);have hY:=zBT (.int .i64 (Int.sign z)) (.slice gv lv.length cv) HR1.out;have hYv:=zD0 HV1.out HR1.out (.int .i64 (Int.sign z)) (.slice gv lv.length cv);have hYb:=((h5.trans (hb1.mono h5.size)).setCell (p:=⟨w.heap.size,0,none⟩) (kA2 _) (.int .i64 (Int.sign z))).setCell (p:=⟨w.heap.size,1,none⟩) (kA2 _) (.slice gv lv.length cv);generalize (w1.setCell ⟨w.heap.size,0,none⟩ (.int .i64 (Int.sign z))).setCell ⟨w.heap.size,1,none⟩ (.slice gv lv.length cv)=Y at *;refine⟨kCY,.inl ⟨_,_,rfl,kCc hYd,?_⟩⟩;have j0:=(kAp (w:=Y) (o:=.deferred none) (r:=(w3.heap.size+2)) kCW).trans hY;refine⟨_,zAe Tryz.results189 _ _ w.heap.size 234 _ (0,0) _ rfl j0 Tryz.underlying234 rfl zBW,_,rfl,LN_put hYv hYd,hYb.grown (zAy _ _ _) hYb.size (fun k e=>by injection e with e;omega)⟩
end
theorem zDo {s:ByteArray} (h:zEj s=true):Digs (zC2 s).data.toList∧0<(zC2 s).size:=by
 unfold zEj at h;simp only[kAx,kB6] at h;refine⟨fun c hc=>?_,h.1.1⟩;have:=kCb.1 h.2 c hc;unfold digC at this;simpa[kAx] using this
def zDf (s:ByteArray):Int:=if zEj s=false then 1 else if 400<(zC2 s).size then 13 else 0
theorem wtaken_form (s:ByteArray) (hs:s.size≤9223372036854775807) (h:zEj s=false) (w:World):Calls Tryz.prog 226 #[.string s] w fun e w'=>e=zBy 300 1∧Below w.heap.size w w':=by
 have hf:=kA1 (fun w=>zF8 s hs w);rw[h] at hf;unfold zBy;clear h;go_enter Tryz.func226,Tryz.ntmps226;go_wp2_with (go_at_call 256;refine (hf.out _).mono ?_;rintro e w1 ⟨rfl,hb1⟩);have hw1:=((kA3 _ w).alloc (kA2 _) (.cells #[.int .i64 0,.slice none 0 0] 234)).trans (hb1.mono kCY);have hy:=zG4 1;unfold zBy at hy;go_wp2_with (go_at_call 255;refine (hy _).mono ?_;rintro e wq ⟨rfl,hq⟩;subst wq);exact⟨rfl,rfl,hw1⟩
theorem wtaken_large (s:ByteArray) (hs:s.size≤9223372036854775807) (h:zEj s=true) (hl:400<(zC2 s).size) (w:World):Calls Tryz.prog 226 #[.string s] w fun e w'=>e=zBy 300 13∧Below w.heap.size w w':=by
 have hf:=kA1 (fun w=>zF8 s hs w);rw[h] at hf;have htp:=kA1 (fun w=>zEW s w);have hdl:decide (400<((zC2 s).size:Int))=true:=kA5 kCW;have htz:=zEq s;generalize zC2 s=t at *;unfold zBy;clear h hl;have hb0:=(kA3 _ w).alloc (kA2 _) (.cells #[.int .i64 0,.slice none 0 0] 234);go_enter Tryz.func226,Tryz.ntmps226;go_wp2_with (go_at_call 256;refine (hf.out _).mono ?_;rintro e w1 ⟨rfl,hb1⟩);have hw1:=hb0.trans (hb1.mono kCY);have hn:=fail255_no 1;have hy:=zG4 13;unfold zBy at hy;go_wp2_with (first
  | (go_at_call 255;refine (hn _).mono ?_;rintro e wq ⟨rfl,hq⟩;subst wq;clear hn)
  | (go_at_call 124;refine (htp.out _).mono ?_;rintro e wq ⟨rfl,k,rfl⟩)
  | (go_at_call 255;refine (hy _).mono ?_;rintro e wq ⟨rfl,hq⟩;subst wq))
 exact⟨rfl,rfl,zA3 hw1 k⟩
theorem wtaken_ok (s:ByteArray) (hs:s.size≤9223372036854775807) (h:zEj s=true) (hl:(zC2 s).size≤400) (w:World):Calls Tryz.prog 226 #[.string s] w fun e w'=>(∃v,e=.returned v)∧Below w.heap.size w w':=by
 have hf:=kA1 (fun w=>zF8 s hs w);rw[h] at hf;have htp:=kA1 (fun w=>zEW s w);obtain⟨d1,d2⟩:=zDo h;have hr:=kA1 (fun w=>kBo.1 (read_LN 9 s d1 d2 kCW w));have hdl:decide (400<((zC2 s).size:Int))=false:=kA6 kCW;have htz:=zEq s;clear d1 d2;generalize numV s=z at *;generalize zC2 s=t at *;clear h hl;have hh0:=zA4 w (.cells #[.int .i64 0,.slice none 0 0] 234);have hb0:=(kA3 _ w).alloc (kA2 _) (.cells #[.int .i64 0,.slice none 0 0] 234);go_enter Tryz.func226,Tryz.ntmps226;go_wp2_with (go_at_call 256;refine (hf.out _).mono ?_;rintro e w1 ⟨rfl,hb1⟩);have hw1:=hb0.trans (hb1.mono kCY);have hh1:=zAb hb1 hh0;go_wp2_with (first
  | (go_at_call 255;refine (fail255_no _ _).mono ?_;rintro e wq ⟨rfl,hq⟩;subst wq)
  | (go_at_call 124;refine (htp.out _).mono ?_;rintro e wq ⟨rfl,k,rfl⟩))
 have hw2:Below w.heap.size w (w1.drewN k):=zA3 hw1 k;have hh2:(w1.drewN k).heap[w.heap.size]?=some (.cells #[.int .i64 0,.slice none 0 0] 234 (0,0)):=zAp hh1 k;generalize w1.drewN k=w2 at *;refine (hr.out _).mono ?_;rintro e w3 ⟨v,rfl,hv,hb3⟩;obtain⟨l,A,c,rfl,_⟩:=hv.out;have hh3:=zAb hb3 hh2;have d0:=zA1 hh3 0;have d1:=zA1 hh3 1;have f0:=zA2 hh3 0;have f1:=zA2 hh3 1;have hw3:=hw2.trans (hb3.mono hw2.size);clear hv;go_wp2;exact kAg (zAe Tryz.results226 _ _ w.heap.size 234 _ (0,0) _ rfl (zBT _ _ hh3) Tryz.underlying234 rfl zBW) rfl ⟨⟨_,rfl⟩,(hw3.setCell (p:=⟨w.heap.size,0,none⟩) (kA2 _) _).setCell (p:=⟨w.heap.size,1,none⟩) (kA2 _) _⟩
theorem zFh (s:ByteArray) (n:Int) (hn:∀w,Calls Tryz.prog 226 #[.string s] w fun e w'=>e=zBy 300 n∧Below w.heap.size w w') (w:World) (hS:Start w):Calls Tryz.prog 187 #[.string s] w fun e w'=>e=.returned (.int .i64 n)∧Below w.heap.size w w':=by
 have hmf:∀(fn:Fn) (first cap:Array Value) (w:World),(Instr.makeFunc fn first cap).run Tryz.prog w=.ok (.func fn first cap) w:=fun _ _ _ _=>rfl
 have hh0:=zA4 w (.cells #[.int .i64 0] 36);have hb0:=(kA3 _ w).alloc (kA2 _) (.cells #[.int .i64 0] 36);have hge:=(hS.below hb0).err;unfold zBy at hn;have HN:=kA1 hn;clear hn hS;go_enter_defers Tryz.func187,Tryz.ntmps187;go_wp2_with fail;refine (HN.out _).mono ?_;rintro e w1 ⟨rfl,hb1⟩;have hr1:=zAb hb1 hh0;have hbw:=hb0.trans (hb1.mono kCY);have hg1:=zA0 hb1 hge;go_wp2;refine kBT (f:=224) (args:=#[.pointer (some ⟨w.heap.size,0,none⟩)]) kCY kDc ?_;refine (catch224_hit w.heap.size n (.int .i64 0) [] w1 hr1 hg1).mono ?_;rintro e u w3 ⟨rfl,rfl,hs3,hg3⟩;have c4:w3.cell? ⟨w.heap.size,0,none⟩=some (.int .i64 n):=zA1 hs3 0;have hfin:Below w.heap.size w w3:=hbw.grown hg3 hbw.size (fun j e=>by injection e with e;omega);simp[Leaves,settle,results,Tryz.results187,go_sem,c4,hfin]
theorem wcheck_passes (s:ByteArray) (ht:∀w,Calls Tryz.prog 226 #[.string s] w fun e w'=>(∃v,e=.returned v)∧Below w.heap.size w w') (w:World):Calls Tryz.prog 187 #[.string s] w fun e w'=>e=.returned (.int .i64 0)∧Below w.heap.size w w':=by
 have hmf:∀(fn:Fn) (first cap:Array Value) (w:World),(Instr.makeFunc fn first cap).run Tryz.prog w=.ok (.func fn first cap) w:=fun _ _ _ _=>rfl
 have hh0:=zA4 w (.cells #[.int .i64 0] 36);have hb0:=(kA3 _ w).alloc (kA2 _) (.cells #[.int .i64 0] 36);have HT:=kA1 ht;clear ht;go_enter_defers Tryz.func187,Tryz.ntmps187;go_wp2_with fail;refine (HT.out _).mono ?_;rintro e w1 ⟨⟨v,rfl⟩,hb1⟩;have hr1:=zAb hb1 hh0;have hbw:=hb0.trans (hb1.mono kCY);have c1:=zA1 hr1 0;have f1':=zA2 hr1 0;go_wp2;have hr2:=zAa hr1 0 (.int .i64 0);have hbw2:=hbw.setCell (p:=⟨w.heap.size,0,none⟩) (kA2 _) (.int .i64 0);generalize w1.setCell ⟨w.heap.size,0,none⟩ (.int .i64 0)=w2 at *;refine kBT (f:=224) (args:=#[.pointer (some ⟨w.heap.size,0,none⟩)]) kCY kDc ?_;refine (catch224_idle w.heap.size (.int .i64 0) w2 hr2).mono ?_;rintro e u w3 ⟨rfl,rfl,hw3⟩;have c4:w3.cell? ⟨w.heap.size,0,none⟩=some (.int .i64 0):=by rw[hw3];exact zA1 (zAa hr2 0 (.int .i64 0)) 0
 have hfin:Below w.heap.size w w3:=by rw[hw3];exact hbw2.setCell (p:=⟨w.heap.size,0,none⟩) (kA2 _) _
 simp[Leaves,settle,results,Tryz.results187,go_sem,c4,hfin]
theorem zFi (s:ByteArray) (hs:s.size≤9223372036854775807) (w:World) (hS:Start w):Calls Tryz.prog 187 #[.string s] w fun e w'=>e=.returned (.int .i64 (zDf s))∧Below w.heap.size w w':=by
 unfold zDf;by_cases h:zEj s=false
 ·rw[kAb h];exact zFh s 1 (fun w=>wtaken_form s hs h w) w hS
 ·have h':zEj s=true:=by simpa using h
  rw[kAa h];by_cases hl:400<(zC2 s).size
  ·rw[kAb hl];exact zFh s 13 (fun w=>wtaken_large s hs h' hl w) w hS
  ·rw[kAa hl];exact wcheck_passes s (fun w=>wtaken_ok s hs h' kCW w) w
def chkR (r:S28):Int :=
 if zDf r.f0=1∨zDf r.f1=1∨negB r.f1=true∨r.f1=⟨#[48]⟩ then 1
 else if zDf r.f0≠0∨zDf r.f1≠0 then 13
 else if Int.gcd (numV r.f0) (numV r.f1)=1 then 0 else 1
def RPost (n:Int) (w:World) (e:Ending) (w':World):Prop:=Below w.heap.size w w'∧((n=0∧∃v,e=.returned v)∨(n≠0∧e=zBy 253 n))
theorem wchk_three (s:ByteArray):zDf s=0∨zDf s=1∨zDf s=13:=by
 unfold zDf;split
 ·exact .inr (.inl rfl)
 ·split
  ·exact .inr (.inr rfl)
  ·exact .inl rfl
theorem zFG {s:ByteArray} (h:zDf s≠1):zEj s=true:=by
 unfold zDf at h;by_cases hf:zEj s=false
 ·rw[kAb hf] at h;exact absurd rfl h
 ·simpa using hf
theorem wchk_zero {s:ByteArray} (h:zDf s=0):zEj s=true∧(zC2 s).size≤400:=by
 have hf:=zFG (s:=s) (by rw[h];omega);refine⟨hf,?_⟩;unfold zDf at h;rw[kAa (by rw[hf];simp)] at h;by_cases hl:400<(zC2 s).size
 ·rw[kAb hl] at h;cases h
 ·omega
theorem form_pos {s:ByteArray} (h:zEj s=true):0<s.size:=by
 have h1:=(zDo h).2;have h2:=zEq s;omega
theorem neg_head {s:ByteArray} (h:0<s.size):(((s[0]'h).toNat:Int)==45)=negB s:=by
 unfold negB;have hl:s.data.toList=s[0]'h :: s.data.toList.tail:=by
  cases he:s.data.toList with
  | nil=>exfalso;have:s.size=s.data.toList.length:=rfl;rw[he,List.length_nil] at this;omega
  | cons c r =>
   have e:s[0]'h=c:=by show s.data.toList[0]'h=c;simp[he]
   rw[e];rfl
 rw[hl];simp only;rw[kBW,kAA,kAA,← kCT];constructor
 ·intro h;show (s[0]).toNat=45;omega
 ·intro h;rw[h];rfl
theorem str_eq (t u:ByteArray):(t.toList==u.toList)=decide (t=u):=by
 rw[kBW,kAA,kB6,kBm,kBm];constructor
 ·intro h;apply kC0;exact kBZ.1 h
 ·intro h;rw[h]
theorem LN_step {W W':World} {z:Int} {v:Value} {R:Nat} {s t:ByteArray} {a b:Int} {B B2:Option Addr} {l c l2 c2:Nat} {ty:TypeId} (h:LN W z v)
  (hR:W.heap[R]?=some (.cells #[.string s,.string t,.int .i64 a,.slice B l c,.int .i64 b,.slice B2 l2 c2] ty (0,0))) (hk:∀p:Addr,p.block≠R→W'.cell? p=W.cell? p):LN W' z v:=by
 obtain⟨m,A,c',h1,h2,h3,h4,h5⟩:=h.out;refine⟨m,A,c',h1,h2,h3,?_,h5⟩;by_cases hn:m=[]
 ·subst hn;exact⟨h4.1,kCY,fun h=>by simp at h⟩
 ·obtain⟨ad,rfl,hc⟩:=C_cells h4 hn;refine zEk kCW (fun i hi=>?_);have h6:=hc i hi;rw[hk _ (num_ne6 h6 hR)];exact h6
theorem rtaken_calls (s t:ByteArray) (hs:s.size≤9223372036854775807) (ht:t.size≤9223372036854775807) (w:World) (hS:Start w) :
  Calls Tryz.prog 168 #[.agg #[.string s,.string t]] w (RPost (chkR ⟨s,t⟩) w):=by
 have HC1:Hid (∀w,Start w→Calls Tryz.prog 187 #[.string s] w fun e w'=>e=.returned (.int .i64 (zDf s))∧Below w.heap.size w w'):=kA1 (fun w hS=>zFi s hs w hS);have HC2:Hid (∀w,Start w→Calls Tryz.prog 187 #[.string t] w fun e w'=>e=.returned (.int .i64 (zDf t))∧Below w.heap.size w w'):=kA1 (fun w hS=>zFi t ht w hS);have HS:=kA1 hS;obtain⟨n,hn⟩:∃n,n=chkR ⟨s,t⟩:=⟨_,rfl⟩;rw[← hn];unfold chkR at hn;simp only at hn;have h3s:=wchk_three s;have h3t:=wchk_three t;have hfs:=@wchk_zero s;have hft:=@wchk_zero t;have hft1:=@zFG t;obtain⟨a,ha⟩:∃a,a=zDf s:=⟨_,rfl⟩;obtain⟨b,hb⟩:∃b,b=zDf t:=⟨_,rfl⟩;rw[← ha] at HC1 hn h3s hfs;rw[← hb] at HC2 hn h3t hft hft1;clear ha hb hS;replace hn:=kA1 hn;replace hfs:=kA1 hfs;replace hft:=kA1 hft;replace hft1:=kA1 hft1;obtain⟨X,hX⟩:∃X,X=((w.alloc (.cells #[.string s,.string t] 28)).alloc (.cells #[.string ⟨#[]⟩,.string ⟨#[]⟩,.int .i64 0,.slice none 0 0,.int .i64 0,.slice none 0 0] 236)):=⟨_,rfl⟩;have hb0:Below w.heap.size w X:=by rw[hX];exact ((kA3 _ w).alloc (kA2 _) _).alloc kCY _
 have h0:X.heap[w.heap.size]?=some (.cells #[.string s,.string t] 28 (0,0)):=by rw[hX];exact (kA4 _ _ _ kCY).trans (zA4 w _)
 have h1:X.heap[w.heap.size+1]?=some (.cells #[.string ⟨#[]⟩,.string ⟨#[]⟩,.int .i64 0,.slice none 0 0,.int .i64 0,.slice none 0 0] 236 (0,0)):=by rw[hX];exact zAB _ _ _ kCY
 go_enter Tryz.func168,Tryz.ntmps168;go_wp2_with fail;rw[← hX];clear hX;have K:X.drew.cell? ⟨w.heap.size,0,none⟩=some (.string s)∧X.drew.cell? ⟨w.heap.size,1,none⟩=some (.string t):=⟨zA1 h0 0,zA1 h0 1⟩;have J0:X.drew.heap[w.heap.size]?=some (.cells #[.string s,.string t] 28 (0,0)):=h0;have J1:X.drew.heap[w.heap.size+1]?=some (.cells #[.string ⟨#[]⟩,.string ⟨#[]⟩,.int .i64 0,.slice none 0 0,.int .i64 0,.slice none 0 0] 236 (0,0)):=h1;have BW:=hb0.drew;clear h0 h1 hb0
 go_region_held3 (fun w':World=>w'.cell? ⟨w.heap.size,0,none⟩=some (.string s)∧w'.cell? ⟨w.heap.size,1,none⟩=some (.string t)) (first | with_reducible exact K) (first
  | (go_at_call 187;refine (HC1.out _ (HS.out.below BW)).mono ?_;rintro e wq ⟨rfl,hq⟩;clear HC1;have K:=And.intro (zA0 hq K.1) (zA0 hq K.2);have J0:=zAb hq J0;have J1:=zAb hq J1;have BW:=BW.trans (hq.mono BW.size))
  | (go_at_call 187;refine (HC2.out _ (HS.out.below BW)).mono ?_;rintro e wq ⟨rfl,hq⟩;clear HC2;have K:=And.intro (zA0 hq K.1) (zA0 hq K.2);have J0:=zAb hq J0;have J1:=zAb hq J1;have BW:=BW.trans (hq.mono BW.size)))
 have q0:=K.1;have q1:=K.2;have q2:=zA5 J0;clear K;have hy1:=kA1 (zG5 1);have hy13:=kA1 (zG5 13);unfold zBy at hy1 hy13;by_cases ha1:a=1
 ·have e1:(a==1)=true:=by rw[ha1];rfl
  have hn1:n=1:=by rw[hn.out,kAb (.inl ha1)]
  clear ha1 h3s;go_wp2_with (go_at_call 188;refine (hy1.out _).mono ?_;rintro e wr ⟨rfl,hr⟩;subst wr);exact⟨rfl,BW,.inr ⟨kCW,rfl⟩⟩
 have e1:(a==1)=false:=zAA ha1;by_cases hb1:b=1
 ·have e2:(b==1)=true:=by rw[hb1];rfl
  have hn1:n=1:=by rw[hn.out,kAb (.inr (.inl hb1))]
  clear hb1 h3t ha1 h3s;go_wp2_with (go_at_call 188;refine (hy1.out _).mono ?_;rintro e wr ⟨rfl,hr⟩;subst wr);exact⟨rfl,BW,.inr ⟨kCW,rfl⟩⟩
 have e2:(b==1)=false:=zAA hb1;have htf:=hft1.out hb1;have htp:=form_pos htf;have hth:=neg_head htp
 cases hng:negB t
 case true =>
  rw[hng] at hth;have hn1:n=1:=by rw[hn.out,kAb (.inr (.inr (.inl hng)))]
  clear hb1 h3t ha1 h3s htf hng;go_wp2_with (go_at_call 188;refine (hy1.out _).mono ?_;rintro e wr ⟨rfl,hr⟩;subst wr);exact⟨rfl,BW,.inr ⟨kCW,rfl⟩⟩
 rw[hng] at hth;have hse:=str_eq t ⟨#[48]⟩;have h48:(⟨#[48]⟩:ByteArray).toList=[48]:=by rw[kBm]
 rw[h48] at hse;have hse2:(t==⟨#[48]⟩)=decide (t=⟨#[48]⟩):=by rw[beq_toListBytes];exact str_eq t _
 by_cases htz:t=⟨#[48]⟩
 ·have hn1:n=1:=by rw[hn.out,kAb (.inr (.inr (.inr htz)))]
  rw[kA5 htz] at hse hse2;clear hb1 h3t ha1 h3s htf hng htz h48;go_wp2_with (go_at_call 188;refine (hy1.out _).mono ?_;rintro e wr ⟨rfl,hr⟩;subst wr);exact⟨rfl,BW,.inr ⟨kCW,rfl⟩⟩
 rw[kA6 htz] at hse hse2;have hno:¬(a=1∨b=1∨negB t=true∨t=⟨#[48]⟩):=by
  rintro (h | h | h | h)
  ·exact ha1 h
  ·exact hb1 h
  ·rw[hng] at h;cases h
  ·exact htz h
 have hn2:=kA1 (hn.out.trans (kAa hno));clear hno hng htz h48;have hnc:=kA1 (zF9 1);by_cases ha0:a=0
 case neg =>
  have e3:(a != 0)=true:=by simp[ha0]
  have hn1:n=13:=by rw[hn2.out,kAb (.inl ha0)]
  clear ha1 hb1 h3s h3t htf ha0;go_wp2_with (first
   | (go_at_call 188;refine (hnc.out _).mono ?_;rintro e wr ⟨rfl,hr⟩;subst wr;clear hnc)
   | (go_at_call 188;refine (hy13.out _).mono ?_;rintro e wr ⟨rfl,hr⟩;subst wr))
  exact⟨rfl,BW,.inr ⟨kCW,rfl⟩⟩
 by_cases hb0:b=0
 case neg =>
  have e3:(a != 0)=false:=by simp[ha0]
  have e4:(b != 0)=true:=by simp[hb0]
  have hn1:n=13:=by rw[hn2.out,kAb (.inr hb0)]
  clear ha1 hb1 h3s h3t htf ha0 hb0;go_wp2_with (first
   | (go_at_call 188;refine (hnc.out _).mono ?_;rintro e wr ⟨rfl,hr⟩;subst wr;clear hnc)
   | (go_at_call 188;refine (hy13.out _).mono ?_;rintro e wr ⟨rfl,hr⟩;subst wr))
  exact⟨rfl,BW,.inr ⟨kCW,rfl⟩⟩
 have e3:(a != 0)=false:=by simp[ha0]
 have e4:(b != 0)=false:=by simp[hb0]
 obtain⟨sf,sl⟩:=hfs.out ha0;obtain⟨tf,tl⟩:=hft.out hb0;have hn3:=kA1 (hn2.out.trans (kAa (by rintro (h | h)<;>omega)));obtain⟨x,hx⟩:∃x,x=numV s:=⟨_,rfl⟩;obtain⟨y,hy⟩:∃y,y=numV t:=⟨_,rfl⟩;rw[← hx,← hy] at hn3;obtain⟨sx,hsx⟩:∃k,k=Int.sign x:=⟨_,rfl⟩;obtain⟨sy,hsy⟩:∃k,k=Int.sign y:=⟨_,rfl⟩;have HR1:Hid (∀w,Calls Tryz.prog 189 #[.string s] w fun e w'=>∃A m c,e=.returned (.agg #[.int .i64 sx,.slice A m c])∧LN w' x (.agg #[.int .i64 sx,.slice A m c])∧Below w.heap.size w w'):=kA1 (fun w =>
  (kBo.1 (read_LN 9 s (zDo sf).1 (zDo sf).2 kCW w)).mono fun _ _ ⟨v,h1,h2,h3⟩=>by
   rw[← hx] at h2;obtain⟨l,A,c,rfl,_⟩:=h2.out;rw[← hsx] at h1 h2;exact⟨A,l.length,c,h1,h2,h3⟩)
 have HR2:Hid (∀w,Calls Tryz.prog 189 #[.string t] w fun e w'=>∃A m c,e=.returned (.agg #[.int .i64 sy,.slice A m c])∧LN w' y (.agg #[.int .i64 sy,.slice A m c])∧Below w.heap.size w w'):=kA1 (fun w =>
  (kBo.1 (read_LN 9 t (zDo tf).1 (zDo tf).2 kCW w)).mono fun _ _ ⟨v,h1,h2,h3⟩=>by
   rw[← hy] at h2;obtain⟨l,A,c,rfl,_⟩:=h2.out;rw[← hsy] at h1 h2;exact⟨A,l.length,c,h1,h2,h3⟩)
 clear ha1 hb1 h3s h3t htf ha0 hb0 sf sl tf tl hx hy hsx hsy hn hn2 hfs hft hft1 hy13;have hnc2:=kA1 (zF9 13);go_wp2_with (first
  | (go_at_call 188;refine (hnc.out _).mono ?_;rintro e wr ⟨rfl,hr⟩;subst wr;clear hnc)
  | (go_at_call 188;refine (hnc2.out _).mono ?_;rintro e wr ⟨rfl,hr⟩;subst wr;clear hnc2))
 have N0:(wq.alloc (.cells #[.string s,.string t,.int .i64 0,.slice none 0 0,.int .i64 0,.slice none 0 0] 236)).heap[wq.heap.size]?=some (.cells #[.string s,.string t,.int .i64 0,.slice none 0 0,.int .i64 0,.slice none 0 0] 236 (0,0)):=zA4 wq _;have BN:=BW.alloc BW.size (.cells #[.string s,.string t,.int .i64 0,.slice none 0 0,.int .i64 0,.slice none 0 0] 236);have J1':=J1;have J1:(wq.alloc (.cells #[.string s,.string t,.int .i64 0,.slice none 0 0,.int .i64 0,.slice none 0 0] 236)).heap[w.heap.size+1]?=some (.cells #[.string ⟨#[]⟩,.string ⟨#[]⟩,.int .i64 0,.slice none 0 0,.int .i64 0,.slice none 0 0] 236 (0,0)):=(kA4 _ _ _ (zA5 J1')).trans J1';have hlt:w.heap.size+1<wq.heap.size:=zA5 J1';clear J1' J0;generalize wq.alloc (.cells #[.string s,.string t,.int .i64 0,.slice none 0 0,.int .i64 0,.slice none 0 0] 236)=Y at *;generalize wq.heap.size=q at *;have KS2:Hid (∀(W:World) (a b:Value),(W.cell? ⟨q,0,none⟩=some (.string s)∧W.cell? ⟨q,1,none⟩=some (.string t)) →
   (((W.setCell ⟨q,2,none⟩ a).setCell ⟨q,3,none⟩ b).cell? ⟨q,0,none⟩=some (.string s)∧((W.setCell ⟨q,2,none⟩ a).setCell ⟨q,3,none⟩ b).cell? ⟨q,1,none⟩=some (.string t))) :=
  kA1 (fun W a b h=>⟨(kBb _ _ _ _ kCY).trans ((kBb _ _ _ _ kCY).trans h.1),(kBb _ _ _ _ kCY).trans ((kBb _ _ _ _ kCY).trans h.2)⟩)
 have KS3:Hid (∀(W:World) (a b:Value),(W.cell? ⟨q,0,none⟩=some (.string s)∧W.cell? ⟨q,1,none⟩=some (.string t)) →
   (((W.setCell ⟨q,4,none⟩ a).setCell ⟨q,5,none⟩ b).cell? ⟨q,0,none⟩=some (.string s)∧((W.setCell ⟨q,4,none⟩ a).setCell ⟨q,5,none⟩ b).cell? ⟨q,1,none⟩=some (.string t))) :=
  kA1 (fun W a b h=>⟨(kBb _ _ _ _ kCY).trans ((kBb _ _ _ _ kCY).trans h.1),(kBb _ _ _ _ kCY).trans ((kBb _ _ _ _ kCY).trans h.2)⟩)
 have K:Y.drew.cell? ⟨q,0,none⟩=some (.string s)∧Y.drew.cell? ⟨q,1,none⟩=some (.string t):=⟨zA1 N0 0,zA1 N0 1⟩;have N0:Y.drew.heap[q]?=some (.cells #[.string s,.string t,.int .i64 0,.slice none 0 0,.int .i64 0,.slice none 0 0] 236 (0,0)):=N0;have J1:Y.drew.heap[w.heap.size+1]?=some (.cells #[.string ⟨#[]⟩,.string ⟨#[]⟩,.int .i64 0,.slice none 0 0,.int .i64 0,.slice none 0 0] 236 (0,0)):=J1;have BN:=BN.drew;clear q0 q1 q2 hth hse hse2 e1 e2 e3 e4 BW hq;have hlt:=kA1 hlt
 go_region_held3 (fun w':World=>w'.cell? ⟨q,0,none⟩=some (.string s)∧w'.cell? ⟨q,1,none⟩=some (.string t)) (first | with_reducible exact K | with_reducible exact KS2.out _ _ _ K | with_reducible exact KS3.out _ _ _ (KS2.out _ _ _ K)) (first
  | (go_at_call 189;refine (HR1.out _).mono ?_;rintro e wa ⟨A1,m1,c1,rfl,L1,hqa⟩;clear HR1;have K:=And.intro (zA0 hqa K.1) (zA0 hqa K.2);have N0:=zAb hqa N0;have J1:=zAb hqa J1;have BN:=BN.trans (hqa.mono BN.size))
  | (go_at_call 189;refine (HR2.out _).mono ?_;rintro e wb ⟨A2,m2,c2,rfl,L2,hqb⟩;clear HR2;have L1:=L1.below hqb;have K:=And.intro (zA0 hqb K.1) (zA0 hqb K.2);have N0:=zAb hqb N0;have J1:=zAb hqb J1;have BN:=BN.trans (hqb.mono BN.size);have e0:=zA2 N0 2;have e1:=zA2 N0 3;have f0:=zA2 N0 4;have f1:=zA2 N0 5;have b0:=zA1 N0 2;have b1:=zA1 N0 3;have b2:=zA1 N0 4;have b3:=zA1 N0 5))
 have hbq:w.heap.size≤q:=by have:=hlt.out;omega
 have Z0:((((wb.setCell ⟨q,2,none⟩ (.int .i64 sx)).setCell ⟨q,3,none⟩ (.slice A1 m1 c1)).setCell ⟨q,4,none⟩ (.int .i64 sy)).setCell ⟨q,5,none⟩ (.slice A2 m2 c2)).heap[q]?=some (.cells #[.string s,.string t,.int .i64 sx,.slice A1 m1 c1,.int .i64 sy,.slice A2 m2 c2] 236 (0,0)):=zAa (zAa (zAa (zAa N0 2 _) 3 _) 4 _) 5 _;have Z1:((((wb.setCell ⟨q,2,none⟩ (.int .i64 sx)).setCell ⟨q,3,none⟩ (.slice A1 m1 c1)).setCell ⟨q,4,none⟩ (.int .i64 sy)).setCell ⟨q,5,none⟩ (.slice A2 m2 c2)).heap[w.heap.size+1]?=some (.cells #[.string ⟨#[]⟩,.string ⟨#[]⟩,.int .i64 0,.slice none 0 0,.int .i64 0,.slice none 0 0] 236 (0,0)):=by
  have hq:q≠w.heap.size+1:=by have:=hlt.out;omega
  exact (kA7 _ _ _ _ (kCt hq)).trans ((kA7 _ _ _ _ (kCt hq)).trans ((kA7 _ _ _ _ (kCt hq)).trans ((kA7 _ _ _ _ (kCt hq)).trans J1)))
 have ZB:Below w.heap.size w ((((wb.setCell ⟨q,2,none⟩ (.int .i64 sx)).setCell ⟨q,3,none⟩ (.slice A1 m1 c1)).setCell ⟨q,4,none⟩ (.int .i64 sy)).setCell ⟨q,5,none⟩ (.slice A2 m2 c2)):=(((BN.setCell (p:=⟨q,2,none⟩) hbq _).setCell (p:=⟨q,3,none⟩) hbq _).setCell (p:=⟨q,4,none⟩) hbq _).setCell (p:=⟨q,5,none⟩) hbq _;have hkk:∀p:Addr,p.block≠q→((((wb.setCell ⟨q,2,none⟩ (.int .i64 sx)).setCell ⟨q,3,none⟩ (.slice A1 m1 c1)).setCell ⟨q,4,none⟩ (.int .i64 sy)).setCell ⟨q,5,none⟩ (.slice A2 m2 c2)).cell? p=wb.cell? p:=fun p hp=>by
  rw[kAB _ _ _ _ (kCt hp),kAB _ _ _ _ (kCt hp),kAB _ _ _ _ (kCt hp),kAB _ _ _ _ (kCt hp)]
 have M1:=LN_step L1 N0 hkk;have M2:=LN_step L2 N0 hkk;clear K N0 J1 BN b0 b1 b2 b3 e0 e1 f0 f1 KS2 KS3 hkk L1 L2;generalize ((((wb.setCell ⟨q,2,none⟩ (.int .i64 sx)).setCell ⟨q,3,none⟩ (.slice A1 m1 c1)).setCell ⟨q,4,none⟩ (.int .i64 sy)).setCell ⟨q,5,none⟩ (.slice A2 m2 c2))=Z at *;have z2:=zA1 Z0 2;have z3:=zA1 Z0 3;have z4:=zA1 Z0 4;have z5:=zA1 Z0 5;have hcm:=common_calls x y _ _ Z M1 M2;clear M1 M2;obtain⟨g,hg⟩:∃g:Int,g=(Int.gcd x y:Int):=⟨_,rfl⟩;rw[← hg] at hcm;replace hg:=kA1 hg;go_wp2_with fail;refine hcm.mono ?_;rintro e W1 ⟨v1,rfl,hv1,hB1⟩;clear hcm;go_wp2_with fail;refine (of1_LN _).mono ?_;rintro e W2 ⟨v2,rfl,hv2,hB2⟩;have hor:=order_LN g 1 v1 v2 W2 (hv1.below hB2) hv2;clear hv1 hv2;go_wp2_with fail;refine hor.mono ?_;rintro e W3 ⟨rfl,hB3⟩;clear hor;have Y0:=zAb hB3 (zAb hB2 (zAb hB1 Z0));have Y1:=zAb hB3 (zAb hB2 (zAb hB1 Z1));have YB:=((ZB.trans (hB1.mono ZB.size)));have YB:=((YB.trans (hB2.mono YB.size)));have YB:=((YB.trans (hB3.mono YB.size)));clear hB1 hB2 hB3 ZB Z0 Z1 z2 z3 z4 z5 hqa hqb;by_cases hg1:Int.gcd x y=1
 ·have hn1:n=0:=by rw[hn3.out,kAb hg1]
  have hg2:g=1:=by rw[hg.out,hg1];rfl
  have c11:cmpI g 1=0:=by rw[hg2];rfl
  rw[c11];clear hg2 hg1 c11;have d0:=zA1 Y0 0;have d1:=zA1 Y0 1;have d2:=zA1 Y0 2;have d3:=zA1 Y0 3;have d4:=zA1 Y0 4;have d5:=zA1 Y0 5;have r0:=zA1 Y1 0;have r1:=zA1 Y1 1;have r2:=zA1 Y1 2;have r3:=zA1 Y1 3;have r4:=zA1 Y1 4;have r5:=zA1 Y1 5;have k0:=zA2 Y1 0;have k1:=zA2 Y1 1;have k2:=zA2 Y1 2;have k3:=zA2 Y1 3;have k4:=zA2 Y1 4;have k5:=zA2 Y1 5;replace hn1:=kA1 hn1;go_wp2_with (go_at_call 188;refine (zF9 _ _).mono ?_;rintro e wr ⟨rfl,hr⟩;subst wr);refine kAg (zAe Tryz.results168 _ _ (w.heap.size+1) 236 _ (0,0) _ rfl (zAa (zAa (zAa (zAa (zAa (zAa Y1 0 _) 1 _) 2 _) 3 _) 4 _) 5 _) Tryz.underlying236 rfl size236) rfl ⟨?_,.inl ⟨hn1.out,_,rfl⟩⟩;exact (((((YB.setCell (p:=⟨w.heap.size+1,0,none⟩) kCY _).setCell (p:=⟨w.heap.size+1,1,none⟩) kCY _).setCell (p:=⟨w.heap.size+1,2,none⟩) kCY _).setCell (p:=⟨w.heap.size+1,3,none⟩) kCY _).setCell (p:=⟨w.heap.size+1,4,none⟩) kCY _).setCell (p:=⟨w.heap.size+1,5,none⟩) kCY _
 ·have hn1:n=1:=by rw[hn3.out,kAa hg1]
  have hg2:g≠1:=by rw[hg.out];omega
  have c11:(cmpI g 1 != 0)=true:=by rw[kCw];exact fun h=>hg2 (cmpI_zero h)
  clear hg2 hg1;generalize cmpI g 1=cc at *;go_wp2_with (go_at_call 188;refine (hy1.out _).mono ?_;rintro e wr ⟨rfl,hr⟩;subst wr);exact⟨rfl,YB,.inr ⟨kCW,rfl⟩⟩
theorem part28_0 (a b:Value) (w:World):(part 9 #[a,b] 0).run Tryz.prog w=.ok a w:=kCX
theorem part28_1 (a b:Value) (w:World):(part 9 #[a,b] 1).run Tryz.prog w=.ok b w:=kCX
theorem eq28 (a b c d:ByteArray) (w:World):(Op.equalIn 10000 28 (.agg #[.string a,.string b]) (.agg #[.string c,.string d])).run Tryz.prog w=.ok (a.toList==c.toList&&b.toList==d.toList) w :=
 eqA_of Tryz.underlying28 kCX (eqf_cons rfl (part28_0 _ _ _) (part28_0 _ _ _) (run_equalIn_string w _ _ _ _ Tryz.underlying9) (eqf_last rfl (part28_1 _ _ _) (part28_1 _ _ _) (run_equalIn_string w _ _ _ _ Tryz.underlying9)))
theorem str_nil {s:ByteArray} (h:s.toList=[]):s=⟨#[]⟩:=by
 rw[kBm] at h;apply kC0;exact kBZ.1 h
theorem nil_eq (s:ByteArray):(s.toList==(⟨#[]⟩:ByteArray).toList)=decide (s=⟨#[]⟩):=str_eq s ⟨#[]⟩
def zE7 (n:Int) (w:World) (e:Ending) (w':World):Prop:=Below w.heap.size w w'∧((n=0∧e=.returned (.tuple #[]))∨(n≠0∧e=zBy 159 n))
def badName (x:S31):Bool :=
 if x.f0=0 then !decide (x.f2=⟨#[]⟩) && !zCB x.f2
 else if x.f0=1∨x.f0=10∨x.f0=11∨x.f0=13∨x.f0=14 then !zC7 x.f2
 else !decide (x.f2=⟨#[]⟩)
def tailE (x:S31):Int :=
 if badName x=true then 4
 else if x.f3<zAL x.f0∨zAM x.f0<x.f3 then 2
 else 0
open Classical in
noncomputable def midE (x:S31):Int :=
 if x.f0=0 then (if chkR x.f1≠0 then chkR x.f1 else if negB x.f1.f0=true then 2 else tailE x)
 else if x.f1≠z28 then 1 else tailE x
noncomputable def zFZ (x:S31):Int :=
 if x.f0<0∨14<x.f0 then 9
 else if (x.f4.length:Int)<zBh x.f0 then 8
 else if zBj x.f0<(x.f4.length:Int) then 7
 else midE x
theorem zAd (e:Int) (w:World):Calls Tryz.prog 67 #[.bool true,.int .i64 e] w fun en w'=>en=.panicked [{ v:=.iface 159 (.agg #[.int .i64 e]),recovered:=false }]∧w'=w:=fail_yes e w
theorem look_out (x:S31) (v5:Value) (w:World) (A:Option Addr) (c:Nat) (hv5:v5=.slice A x.f4.length c) (h:x.f0<0∨14<x.f0):Calls Tryz.prog 102 #[exV x v5] w (zE7 9 w):=by
 obtain⟨op,num,name,size,xs⟩:=x;subst hv5;simp only at *;have hin:=zBH op 0 14;have hb:(decide (0≤op)&&decide (op≤14))=false:=by
  rw[kB9];rcases h with h | h
  ·exact .inl (kA6 kCW)
  ·exact .inr (kA6 kCW)
 rw[hb] at hin;clear h hb;unfold exV;simp only;go_enter Tryz.func102,Tryz.ntmps102;go_wp2_with (first
  | (go_at_call 104;(with_reducible refine (hin _).mono ?_);rintro e wq ⟨rfl,hq⟩;subst wq)
  | (go_at_call 67;(with_reducible refine (zAt _ _).mono ?_);rintro e wq ⟨rfl,hq⟩;subst wq)
  | (go_at_call 67;(with_reducible refine (zAd _ _).mono ?_);rintro e wq ⟨rfl,hq⟩;subst wq))
 exact⟨rfl,(kA3 _ w).alloc (kA2 _) _,.inr ⟨kCW,rfl⟩⟩
theorem look_args (x:S31) (v5:Value) (w:World) (A:Option Addr) (c:Nat) (hv5:v5=.slice A x.f4.length c) (h0:0≤x.f0) (h1:x.f0≤14) (h:(x.f4.length:Int)<zBh x.f0∨zBj x.f0<(x.f4.length:Int)):Calls Tryz.prog 102 #[exV x v5] w (zE7 (if (x.f4.length:Int)<zBh x.f0 then 8 else 7) w):=by
 obtain⟨op,num,name,size,xs⟩:=x;subst hv5;simp only at *;have hin:=zBH op 0 14;rw[kA5 h0,kA5 h1] at hin;have hA:=zAJ op;generalize zBh op=aL at *;generalize zBj op=aH at *;clear h0 h1;unfold exV;simp only;by_cases hlt:(xs.length:Int)<aL
 ·rw[kAb hlt];have l1:decide ((xs.length:Int)<aL)=true:=kA5 hlt;clear h hlt;go_enter Tryz.func102,Tryz.ntmps102;go_wp2_with (first
   | (go_at_call 104;(with_reducible refine (hin _).mono ?_);rintro e wq ⟨rfl,hq⟩;subst wq)
   | (go_at_call 67;(with_reducible refine (zAt _ _).mono ?_);rintro e wq ⟨rfl,hq⟩;subst wq)
   | (go_at_call 67;(with_reducible refine (zAd _ _).mono ?_);rintro e wq ⟨rfl,hq⟩;subst wq))
  refine (hA _).mono ?_;rintro e w1 ⟨rfl,hb1⟩;have hx1:=zAb hb1 (zA4 w (.cells #[.int .i64 op,.string num.f0,.string num.f1,.string name,.int .i64 size,.slice A xs.length c] 31));obtain⟨⟨q0,q1,q2,q3,q4,q5⟩,_,xl⟩:=zA9 hx1;have hbw:Below w.heap.size w w1:=((kA3 _ w).alloc (kA2 _) _).trans (hb1.mono kCY);have hbw':=hbw.alloc hbw.size (.cells #[.int .i64 aL,.int .i64 aH] 198);have HX:=kA1 hx1;clear hx1;go_wp2_with (first
  | (go_at_call 104;(with_reducible refine (hin _).mono ?_);rintro e wq ⟨rfl,hq⟩;subst wq)
  | (go_at_call 67;(with_reducible refine (zAt _ _).mono ?_);rintro e wq ⟨rfl,hq⟩;subst wq)
  | (go_at_call 67;(with_reducible refine (zAd _ _).mono ?_);rintro e wq ⟨rfl,hq⟩;subst wq))
  exact⟨rfl,hbw',.inr ⟨kCW,rfl⟩⟩
 ·rw[kAa hlt];have l1:decide ((xs.length:Int)<aL)=false:=kA6 hlt;have l2:decide (aH<(xs.length:Int))=true:=kA5 kCW;clear h hlt;go_enter Tryz.func102,Tryz.ntmps102;go_wp2_with (first
   | (go_at_call 104;(with_reducible refine (hin _).mono ?_);rintro e wq ⟨rfl,hq⟩;subst wq)
   | (go_at_call 67;(with_reducible refine (zAt _ _).mono ?_);rintro e wq ⟨rfl,hq⟩;subst wq)
   | (go_at_call 67;(with_reducible refine (zAd _ _).mono ?_);rintro e wq ⟨rfl,hq⟩;subst wq))
  refine (hA _).mono ?_;rintro e w1 ⟨rfl,hb1⟩;have hx1:=zAb hb1 (zA4 w (.cells #[.int .i64 op,.string num.f0,.string num.f1,.string name,.int .i64 size,.slice A xs.length c] 31));obtain⟨⟨q0,q1,q2,q3,q4,q5⟩,_,xl⟩:=zA9 hx1;have hbw:Below w.heap.size w w1:=((kA3 _ w).alloc (kA2 _) _).trans (hb1.mono kCY);have hbw':=hbw.alloc hbw.size (.cells #[.int .i64 aL,.int .i64 aH] 198);have HX:=kA1 hx1;clear hx1;go_wp2_with (first
  | (go_at_call 104;(with_reducible refine (hin _).mono ?_);rintro e wq ⟨rfl,hq⟩;subst wq)
  | (go_at_call 67;(with_reducible refine (zAt _ _).mono ?_);rintro e wq ⟨rfl,hq⟩;subst wq)
  | (go_at_call 67;(with_reducible refine (zAd _ _).mono ?_);rintro e wq ⟨rfl,hq⟩;subst wq))
  exact⟨rfl,hbw',.inr ⟨kCW,rfl⟩⟩
end Go.Proofs.YtjaobihcdkjmbaaGreatDoor
end
