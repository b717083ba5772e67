/- The law ReadPlace answers true for every argument; a part of its proof. -/
import Derived.Test.YtjaobihcdkjmbaaGreatDoorCa
import Derived.Test.YtjaobihcdkjmbaaGreatDoorCb
import Derived.Test.YtjaobihcdkjmbaaGreatDoorC0
import Derived.Test.YtjaobihcdkjmbaaGreatDoorC7
import Derived.Test.YtjaobihcdkjmbaaGreatDoorC9
import Derived.Test.YtjaobihcdkjmbaaGreatDoorC11
import Derived.Test.YtjaobihcdkjmbaaGreatDoorC12
import Derived.Test.YtjaobihcdkjmbaaGreatDoorC22
import Derived.Test.YtjaobihcdkjmbaaGreatDoorC31
import Derived.Test.YtjaobihcdkjmbaaGreatDoorC38
import Derived.Test.YtjaobihcdkjmbaaGreatDoorC44
set_option linter.unusedVariables false
set_option linter.unusedSimpArgs false
namespace Go.Proofs.YtjaobihcdkjmbaaGreatDoor.PReadTokens
end Go.Proofs.YtjaobihcdkjmbaaGreatDoor.PReadTokens
namespace Go.Proofs.YtjaobihcdkjmbaaGreatDoorW.PrintWords
end Go.Proofs.YtjaobihcdkjmbaaGreatDoorW.PrintWords
set_option maxRecDepth 100000
set_option maxHeartbeats 1000000
section
namespace Go.Proofs.YtjaobihcdkjmbaaGreatDoor
open Go.RowKit Go.Proofs.YtjaobihcdkjmbaaGreatDoorW.PrintWords Go.Proofs.YtjaobihcdkjmbaaGreatDoor.PReadTokens
theorem token_same (s:ByteArray) (hs:s.size<4611686018427387904) (b:Nat) (hb:b<s.size) (k:Nat) :
    ((zAE s b).1.f0≠-1∧metewandref13_token.f k s (b:Int)=some ((zAE s b).1.f0,(zAE s b).1.f1,(zAE s b).1.f2,((zAE s b).2:Int),true)) ∨
    ((zAE s b).1.f0=-1∧∃r,metewandref13_token.f k s (b:Int)=some r∧r.2.2.2.2=false):=by
  unfold metewandref13_token.f;rw[kAb ⟨kCW,kCW,hs⟩,Int.toNat_natCast];unfold tokU;rw[zCc s b hb];unfold zAE;rw[kCo hb];by_cases h2:srt (s[b]'hb).toNat=2
  · rw[kAb h2,kAb h2]
    unfold zDZ nameU;simp only[];generalize s.extract b (zAS s b)=x
    cases hw:zDe x with
    | true=>left;simp
    | false =>
      cases hnb:zC7 x with
      | true=>left;simp
      | false=>right;exact⟨kCY,_,rfl,rfl⟩
  · rw[kAa h2,kAa h2]
    by_cases h4:srt (s[b]'hb).toNat=4
    · have hr:=zFw (ks:=[4]) hb (by rw[h4];rfl)
      have hle:=zDF [4] s b kCW;have hsz:(s.extract b (zBi s b)).size=zBi s b-b:=by rw[kAy];unfold zBi;omega
      rw[kAb h4,kAb h4];unfold numU zF2;rw[zCc s b hb];simp only[];rw[← hsz];generalize s.extract b (zBi s b)=x;generalize (s[b]'hb).toNat=c;by_cases h:(c≠48∨x.size=1)∧x.size≤400
      · left
        rw[kAb h,kA5 h.2,show ((c:Int) != 48||x.size==1)=true by rw[kCz,kCw,kAA];omega];exact⟨kD0,rfl⟩
      · right
        rw[kAa h];refine⟨rfl,_,rfl,?_⟩;show (decide (x.size≤400)&&((c:Int) != 48||x.size==1))=false;rw[kB9,kBw,Bool.or_eq_false_iff,bne_eq_false_iff_eq,kAj];omega
    · rw[kAa h4,kAa h4]
      by_cases h123:(s[b]'hb).toNat=123
      · have h0:srt (s[b]'hb).toNat=0:=srt_brace kCW
        rw[kAb (show ((s[b]'hb).toNat:Int)=123 by omega),kAa (show ¬srt (s[b]'hb).toNat=5 by omega)];unfold unitV;have hbl:(zAn s (b+1)).length=s.size-(b+1):=zDb s (b+1);have hbk:brk (zAn s (b+1))≤(zAn s (b+1)).length:=(kCB _).length_le;have hc:zAx s b≤s.size:=by unfold zAx;omega
        by_cases h7:zAx s b=s.size
        · right
          rw[kAb h7,kAa (by intro h;omega)];exact⟨rfl,_,rfl,rfl⟩
        · rw[kAa h7]
          by_cases h8:zCB (s.extract (b+1) (zAx s b))=true
          · left
            rw[kAb h8,kAb ⟨h123,kCW,h8⟩];exact⟨show (3:Int)≠-1 by decide,rfl⟩
          · right
            rw[kAa h8,kAa (by intro h;exact h8 h.2.2)];exact⟨rfl,_,rfl,rfl⟩
      · rw[kAa (show ¬((s[b]'hb).toNat:Int)=123 by omega)]
        unfold signU;rw[zCc s b hb];by_cases h5:srt (s[b]'hb).toNat=5
        · left
          rw[kAb h5,kAb h5,mark_one s b hb];exact⟨show (4:Int)≠-1 by decide,rfl⟩
        · right
          rw[kAa h5,kAa h5,kAa (by intro h;exact h123 h.1)];exact⟨rfl,_,rfl,rfl⟩
theorem scan_skip (s:ByteArray) (hs:s.size<9223372036854775807) (acc:List S47) (j:Nat):∀(k pos:Nat),pos≤s.size→zBa [1] (zAn s pos)=j→metewandref13_scan.l0 (k+j) s acc (pos:Int)=metewandref13_scan.l0 k s acc ((pos+j:Nat):Int):=by
  induction j with
  | zero=>intro k pos _ _;rfl
  | succ j ih =>
    intro k pos hp hj;have hlt:pos<s.size:=by
      rcases kBL pos s.size with h | h
      · exact h
      · rw[run_over h] at hj;omega
    have hc:([1]:List Int).contains (srt (s[pos]'hlt).toNat)=true:=by
      cases h:([1]:List Int).contains (srt (s[pos]'hlt).toNat) with
      | true=>rfl
      | false=>rw[run_stop hlt h] at hj;omega
    have h1:srt (s[pos]'hlt).toNat=1:=by simpa using hc
    rw[zFw hlt hc] at hj;rw[show k+(j+1)=(k+j)+1 by omega];simp only[metewandref13_scan.l0];rw[kAb (show (pos:Int)<(s.size:Int) by omega),kAb (show 0≤(pos:Int) by omega),zCc s pos hlt,kAb ((blank_srt _).2 h1),zDU pos kCW,ih k (pos+1) kCW kCW];rw[show pos+1+j=pos+(j+1) by omega]
theorem not_blank (s:ByteArray) (a:Nat) (h:zAl s a<s.size):srt (s[zAl s a]'h).toNat≠1:=by
  intro h1;have key:∀(d a:Nat) (h:zAl s a<s.size),a+d=s.size→srt (s[zAl s a]'h).toNat≠1:=by
    intro d
    induction d with
    | zero=>intro a h hd;exact absurd h kDN
    | succ d ih =>
      intro a h hd;have hlt:a<s.size:=kCW
      cases hc:([1]:List Int).contains (srt (s[a]'hlt).toNat) with
      | true =>
        have hr:=zFw hlt hc;have e:zAl s a=zAl s (a+1):=kDN
        have:=ih (a+1) (by rw[← e];exact h) kCW;intro h1;apply this;simpa only [← e] using h1
      | false =>
        have hr:=run_stop hlt hc;have e:zAl s a=a:=kDN
        intro h1;have:([1]:List Int).contains (srt (s[a]'hlt).toNat)=true:=by
          have h2:srt (s[a]'hlt).toNat=1:=by simpa only [e] using h1
          rw[h2];rfl
        rw[hc] at this;exact absurd this kD0
  rcases kBL a s.size with ha | ha
  · exact key (s.size-a) a h kCW h1
  · exact absurd h kDN
theorem tokAt_place (s:ByteArray) (b:Nat):(zAE s b).1.f2=b:=by
  unfold zAE
  repeat' split
  all_goals rfl
theorem scan_same (s:ByteArray) (hs:s.size≤2000) (n:Nat):∀(a k:Nat) (acc:List S47),a≤s.size→s.size-a<n→acc.length+n≤4398046511104→3*s.size+30+n≤k+a →
    ((zDR (zBV n s a)=none∧metewandref13_scan.l0 k s acc (a:Int)=some (acc++zBV n s a,-1)) ∨
     (∃t l,zDR (zBV n s a)=some t∧0≤t.f2∧metewandref13_scan.l0 k s acc (a:Int)=some (l,t.f2))):=by
  induction n with
  | zero=>intro a k acc ha h;omega
  | succ n ih =>
    intro a k acc ha hn hacc hk;have hle:zAl s a≤s.size:=zDF [1] s a ha;have hsk:a≤zAl s a:=kDN
    obtain⟨k2,hk2⟩:∃k2,k=(k2+1)+(zAl s a-a):=⟨k-1-(zAl s a-a),kCW⟩;have hskip:=scan_skip s kCW acc (zAl s a-a) (k2+1) a ha kDN;rw[hk2,hskip,show a+(zAl s a-a)=zAl s a by omega];unfold zBV;by_cases hb:zAl s a<s.size
    · rw[kAb hb]
      simp only[metewandref13_scan.l0];rw[kAb (show (zAl s a:Int)<(s.size:Int) by omega),kAb (show 0≤(zAl s a:Int) by omega),zCc s _ hb,kAa (fun e=>not_blank s a hb ((blank_srt _).1 e))];have hpl:=tokAt_place s (zAl s a);have hmore:=zDg s (zAl s a) hb;rcases token_same s kCW (zAl s a) hb k2 with⟨h1,h2⟩ | ⟨h1,r,h2,h3⟩
      · obtain⟨hm1,hm2⟩:=hmore h1
        rw[h2,kAa h1];simp only[Option.bind_some];rw[kAb (show acc.length<4398046511104 by omega)];generalize zAE s (zAl s a)=p at *;obtain⟨⟨p0,p1,p2⟩,p3⟩:=p;simp only at h1 hm1 hm2 ⊢;have e1:((⟨p0,p1,p2⟩:S47).f0 == -1)=false:=beq_not h1;rcases ih p3 k2 (acc++[⟨p0,p1,p2⟩]) hm2 kCW (by rw[kAw,List.length_singleton];omega) kCW with⟨g1,g2⟩ | ⟨t,l,g1,g2,g3⟩
        · left
          refine⟨?_,?_⟩
          · unfold zDR at g1⊢
            rw[List.find?_cons,e1];exact g1
          · rw[kAb trivial,g2,kCm]
            rfl
        · right
          refine⟨t,l,?_,g2,?_⟩
          · unfold zDR at g1⊢
            rw[List.find?_cons,e1];exact g1
          · rw[kAb trivial,g3]
      · right
        rw[h2,kAb h1];simp only[Option.bind_some];refine⟨(zAE s (zAl s a)).1,acc,?_,by rw[hpl];omega,?_⟩
        · unfold zDR
          rw[List.find?_cons,show ((zAE s (zAl s a)).1.f0 == -1)=true by rw[h1];rfl]
        · rw[h3,kAa kD0,hpl]
    · left
      rw[kAa hb];simp only[metewandref13_scan.l0];rw[kAa (show ¬(zAl s a:Int)<(s.size:Int) by omega),kBV];exact⟨rfl,rfl⟩
theorem Tokens_same (s:ByteArray):(s.size≤2000→(zDR (zA6 s)=none∧metewandref13_Tokens.f 20000 s=some (zA6 s,0,0))∨(∃t,zDR (zA6 s)=some t∧metewandref13_Tokens.f 20000 s=some ([],t.f2,1))) ∧
    (2000<s.size→metewandref13_Tokens.f 20000 s=some ([],0,13)):=by
  refine⟨fun hs=>?_,fun hs=>?_⟩
  · unfold metewandref13_Tokens.f metewandref13_scan.f
    rw[kAa (show ¬(s.size:Int) > 2000 by omega)];rcases scan_same s hs (s.size+1) 0 20000 [] kCW kCW kCZ kCW with⟨h1,h2⟩ | ⟨t,l,h1,h2,h3⟩
    · left
      refine⟨h1,?_⟩;rw[show (0:Int)=((0:Nat):Int) from rfl,h2];rfl
    · right
      refine⟨t,h1,?_⟩;rw[show metewandref13_scan.l0 20000 s [] 0=some (l,t.f2) from h3];simp only[Option.bind_some];rw[kAb h2]
  · unfold metewandref13_Tokens.f
    rw[kAb (show (s.size:Int) > 2000 by omega)]
def resT (t:ByteArray):List S47×Int×Int :=
 if t.size≤2000 then (match zDR (zA6 t) with | none=>(zA6 t,0,0) | some u=>([],u.f2,1)) else ([],0,13)
def zES (t:ByteArray) (w:World) (e:Ending) (w':World):Prop :=
 ∃A c,e=.returned (.tuple #[.slice A (resT t).1.length c,.int .i64 (resT t).2.1,.int .i64 (resT t).2.2])∧(resT t).1.length≤c∧(resT t).1.length≤9223372036854775807∧Kd.C k47 w' A (resT t).1.length (resT t).1∧Below w.heap.size w w'
theorem nilToks (w:World):Kd.C k47 w none 0 ([]:List S47):=by
 obtain⟨A,c,h1,h2,h3⟩:=Kd.R_reads (Kd.R_nil k47 47 w 0 (fun _=>True));injection h1 with h1;subst h1;exact h3
theorem ptoks_calls (t:ByteArray) (w:World):Calls Tryz.prog 15 #[.string t] w (zES t w):=by
 by_cases ht:t.size≤2000
 ·refine (zFp t ht w).mono ?_;intro e w' h;unfold zFe at h;unfold zES resT;rw[kAb ht]
  cases hb:zDR (zA6 t) with
  | none =>
   rw[hb] at h;obtain⟨v,h1,h2,h3⟩:=h;obtain⟨A,c,rfl,h4,h5⟩:=h2.C;exact⟨A,c,h1,h4,q_max (q_of_own h2),h5,h3⟩
  | some u =>
   rw[hb] at h;obtain⟨h1,h3⟩:=h;exact⟨none,0,h1,kA2 _,kAI _,nilToks _,h3⟩
 ·refine (Tokens_large t kCW w).mono ?_;rintro e w' ⟨h1,h3⟩;unfold zES resT;rw[kAa ht];exact⟨none,0,h1,kA2 _,kAI _,nilToks _,h3⟩
theorem rtoks_calls (t:ByteArray) (w:World):Calls Tryz.prog 16 #[.string t] w (zES t w):=by
 have key:metewandref13_Tokens.f 20000 t=some (resT t):=by
  have hs:=Tokens_same t;unfold resT;by_cases ht:t.size≤2000
  ·rw[kAb ht];rcases hs.1 ht with⟨h1,h2⟩ | ⟨u,h1,h2⟩
   ·rw[h1,h2]
   ·rw[h1,h2]
  ·rw[kAa ht];exact hs.2 kCW
 refine (metewandref13_Tokens.calls 20000 t (resT t).1 (resT t).2.1 (resT t).2.2 w key).mono ?_;rintro e w' ⟨v,rfl,hr,hb⟩;obtain⟨A,c,rfl,h4,h5⟩:=Kd.R_reads hr;obtain⟨inner,ho⟩:=Kd.R_own hr;exact⟨A,c,rfl,h4,q_max (q_of_own ho),h5,hb⟩
theorem NewRod_calls (A:Option Addr) (l:List Int) (c:Nat) (hl:l.length≤9223372036854775807) (w:World) (hc:Kd.C (Kd.int .i64) w A l.length l) :
  Calls Tryz.prog 11 #[.slice A l.length c] w fun e w'=>e=.returned (.pointer (some ⟨w.heap.size,0,none⟩))∧Rod w' w.heap.size 0∧Below w.heap.size w w':=by
 have hcells:∀i,i<l.length→∃ad x,A=some ad∧w.cell? (ad.add i)=some (.int .i64 x)∧ad.block<w.heap.size:=by
  intro i hi;obtain⟨ad,h1,h2⟩:=Kd.at_int hc i kCW kCW;have h3:=kAG w _ h2;rw[zCP] at h3;exact⟨ad,_,h1,h2,h3⟩
 have HC:=kA1 hcells;clear hcells hc;have BW:=(kA3 w.heap.size w).alloc (kA2 _) (.cells #[.slice A l.length c,.int .i64 0,.int .u64 7640891576956012809] 77);have hb:=kA1 (zA4 w (.cells #[.slice A l.length c,.int .i64 0,.int .u64 7640891576956012809] 77));go_enter Tryz.func11,Tryz.ntmps11;go_wp2;go_ret;refine⟨rfl,⟨A,l.length,c,0,_,hb.out,kCW,kCW,hl,fun i hi=>?_⟩,BW⟩;obtain⟨ad,x,h1,h2,h3⟩:=HC.out i hi;exact⟨ad,x,h1,zA0 BW h2,h3⟩
end Go.Proofs.YtjaobihcdkjmbaaGreatDoor
end
section
namespace Go.Proofs.YtjaobihcdkjmbaaGreatDoor
open Go.RowKit Go.Maps Go.Proofs.YtjaobihcdkjmbaaGreatDoorW.PrintWords Go.Proofs.YtjaobihcdkjmbaaGreatDoor.PReadTokens
def FirstPost (t:ByteArray) (w:World) (e:Ending) (w':World):Prop :=
 ∃(a:Int) (b:ByteArray) (c:Int) (n:Int) (ok:Bool),e=.returned (.tuple #[.agg #[.int .i64 a,.string b,.int .i64 c],.int .i64 n,.bool ok])∧Below w.heap.size w w' ∧
  (ok=true→∃u l,zA6 t=u :: l∧u.f0≠-1∧u.f2=0∧n=tokN u)
theorem resT_cases (t:ByteArray) (ht:t.size≤2000):(resT t).2.2≠0∨((resT t).2.2=0∧(resT t).1=zA6 t∧∀u∈zA6 t,u.f0≠-1):=by
 unfold resT;rw[kAb ht]
 cases hb:zDR (zA6 t) with
 | none =>
  refine .inr ⟨rfl,rfl,fun u hu=>?_⟩;unfold zDR at hb;rw[List.find?_eq_none] at hb;intro e;exact hb u hu (by rw[e];rfl)
 | some u=>exact .inl (by show (1:Int)≠0;decide)
theorem first_calls (t:ByteArray) (ht:t.size≤2000) (w:World):Calls Tryz.prog 23 #[.string t] w (FirstPost t w):=by
 have hb0:=(kA3 w.heap.size w).alloc (kA2 _) (.cells #[.int .i64 0,.string ⟨#[]⟩,.int .i64 0] 47);have h0:(w.alloc (.cells #[.int .i64 0,.string ⟨#[]⟩,.int .i64 0] 47)).heap[w.heap.size]?=some (.cells #[.int .i64 0,.string ⟨#[]⟩,.int .i64 0] 47 (0,0)):=zA4 w _;have hr:=rtoks_calls t (w.alloc (.cells #[.int .i64 0,.string ⟨#[]⟩,.int .i64 0] 47));have hc:=resT_cases t ht;unfold zES at hr;obtain⟨q,hq⟩:∃q,q=resT t:=⟨_,rfl⟩;rw[← hq] at hr hc;obtain⟨ts,at_,er⟩:=q;simp only at hr hc;clear hq;go_enter Tryz.func23,Tryz.ntmps23;go_wp2_with fail;refine hr.mono ?_;rintro e w1 ⟨A,c,rfl,hcl,hmx,hC,hb1⟩;have hbA:=hb0.trans (hb1.mono hb0.size);have r1:=zAb hb1 h0;clear hr;obtain⟨⟨c0,c1,c2⟩,⟨f0,f1,f2⟩,rl⟩:(w1.cell? ⟨w.heap.size,0,none⟩=some (.int .i64 0)∧w1.cell? ⟨w.heap.size,1,none⟩=some (.string ⟨#[]⟩)∧w1.cell? ⟨w.heap.size,2,none⟩=some (.int .i64 0))∧(w1.frozen? ⟨w.heap.size,0,none⟩=false∧w1.frozen? ⟨w.heap.size,1,none⟩=false∧w1.frozen? ⟨w.heap.size,2,none⟩=false)∧w.heap.size<w1.heap.size:=⟨⟨zA1 r1 0,zA1 r1 1,zA1 r1 2⟩,⟨zA2 r1 0,zA2 r1 1,zA2 r1 2⟩,zA5 r1⟩;rcases hc with he | ⟨rfl,rfl,hg⟩
 ·have he1:(er==0)=false:=zAA he;go_wp2;refine kAg (zAR rfl _ _ w.heap.size 47 _ (0,0) _ rfl (fin3 _ _ _ r1) Tryz.underlying47 rfl zDK) rfl ?_;exact⟨0,⟨#[]⟩,0,0,false,rfl,zDQ hbA (kA2 _) _ _ _,fun h=>by cases h⟩
 ·generalize hT:zA6 t=ts at *
  cases ts with
  | nil =>
   go_wp2;refine kAg (zAR rfl _ _ w.heap.size 47 _ (0,0) _ rfl (fin3 _ _ _ r1) Tryz.underlying47 rfl zDK) rfl ?_;exact⟨0,⟨#[]⟩,0,0,false,rfl,zDQ hbA (kA2 _) _ _ _,fun h=>by cases h⟩
  | cons u l =>
   obtain⟨ad,e1,d0,d1,d2⟩:=at_T47 hC 0 kD0 (by rw[List.length_cons];omega);have e0:zBs (u :: l) 0=u:=rfl;rw[e0] at d0 d1 d2;have hu:=hg u kCY;subst e1;replace d0:w1.cell? ad=some (.int .i64 u.f0):=d0;replace d1:w1.cell? ⟨ad.block,ad.off+1,none⟩=some (.string u.f1):=d1;replace d2:w1.cell? ⟨ad.block,ad.off+2,none⟩=some (.int .i64 u.f2):=d2;have hlen:(((u :: l).length:Int)==0)=false:=zAA (by rw[List.length_cons];omega);have hpos:0<(u :: l).length:=kCY
   have hlen:((l.length:Int)+1==0)=false:=zAA kCW;have husz:=all_small t u (by rw[hT];simp);have hw:wrap64 ((u.f1.size:Int)+2)=(u.f1.size:Int)+2:=by unfold wrap64;omega
   clear hC hg e0;by_cases h2:u.f2=0
   ·have h2':(u.f2 != 0)=false:=by rw[h2];rfl
    by_cases h3:u.f0=3
    ·have h3':(u.f0==3)=true:=by rw[kAA];exact h3
     have HN:=kA1 (show (u.f1.size:Int)+2=tokN u by unfold tokN;rw[kAb h3];rfl);have H2:=kA1 h2;have HU:=kA1 hu;clear h2 h3 hu;go_wp2;refine kAg (zAR rfl _ _ w.heap.size 47 _ (0,0) _ rfl (fin3 _ _ _ r1) Tryz.underlying47 rfl zDK) rfl ?_;exact⟨_,_,_,_,true,rfl,zDQ hbA (kA2 _) _ _ _,fun _=>⟨u,l,hT,HU.out,H2.out,HN.out⟩⟩
    ·have h3':(u.f0==3)=false:=zAA h3;have HN:=kA1 (show (u.f1.size:Int)=tokN u by unfold tokN;rw[kAa h3];rfl);have H2:=kA1 h2;have HU:=kA1 hu;clear h2 h3 hu;go_wp2;refine kAg (zAR rfl _ _ w.heap.size 47 _ (0,0) _ rfl (fin3 _ _ _ r1) Tryz.underlying47 rfl zDK) rfl ?_;exact⟨_,_,_,_,true,rfl,zDQ hbA (kA2 _) _ _ _,fun _=>⟨u,l,hT,HU.out,H2.out,HN.out⟩⟩
   ·have h2':(u.f2 != 0)=true:=by rw[kCw];exact h2
    clear h2;go_wp2;refine kAg (zAR rfl _ _ w.heap.size 47 _ (0,0) _ rfl (fin3 _ _ _ r1) Tryz.underlying47 rfl zDK) rfl ?_;exact⟨0,⟨#[]⟩,0,0,false,rfl,zDQ hbA (kA2 _) _ _ _,fun h=>by cases h⟩
end Go.Proofs.YtjaobihcdkjmbaaGreatDoor
end
