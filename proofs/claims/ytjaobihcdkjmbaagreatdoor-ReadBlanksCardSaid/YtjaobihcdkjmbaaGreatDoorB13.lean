/- The law ReadBlanks answers true for every argument; a part of its proof. -/
import Derived.Test.YtjaobihcdkjmbaaGreatDoorBa
import Derived.Test.YtjaobihcdkjmbaaGreatDoorBb
import Derived.Test.YtjaobihcdkjmbaaGreatDoorB0
import Derived.Test.YtjaobihcdkjmbaaGreatDoorB12
set_option linter.unusedVariables false
set_option linter.unusedSimpArgs false
namespace Go.Proofs.YtjaobihcdkjmbaaGreatDoor.PReadTokens
end Go.Proofs.YtjaobihcdkjmbaaGreatDoor.PReadTokens
namespace Go.Proofs.YtjaobihcdkjmbaaGreatDoorW.PrintWords
end Go.Proofs.YtjaobihcdkjmbaaGreatDoorW.PrintWords
section
namespace Go.Proofs.YtjaobihcdkjmbaaGreatDoor
open Go.RowKit Go.Proofs.YtjaobihcdkjmbaaGreatDoorW.PrintWords Go.Proofs.YtjaobihcdkjmbaaGreatDoor.PReadTokens
theorem zDZ {x:Int} (h0:0≤x) (h1:x<18446744073709551616):IntKind.u64.wrap x=x:=by rw[IntKind.wrap_u64];omega
theorem w64_at {x:Int} (h0:-9223372036854775808≤x) (h1:x≤9223372036854775807):wrap64 x=x:=by unfold wrap64;omega
theorem rd_at (l:List Int) (i:Nat) (h:i<l.length):rd l (i:Int)=l[i]:=by unfold rd;simp[h]
theorem val_set {l:List Int} (n:Nat) (h:n<l.length) (q:Int):val ((l.set n q).take (n+1))=val (l.take n)+1000000000 ^ n*q:=by
 rw[kBn kCX,zED,List.take_set_of_le (kA2 _)];simp[val,kAU (kAX h)]
theorem zAD {l:List Int} (n:Nat) (h:n<l.length):val (l.take (n+1))=val (l.take n)+1000000000 ^ n*l[n]:=by
 rw[kBn h,zED];simp[val,kAU (kAX h)]
theorem Limb.at {l:List Int} (h:Limb l) (i:Nat) (hi:i<l.length):0≤l[i]∧l[i]<1000000000:=h _ (kAA hi)
theorem zCV {l:List Int} (n:Nat) (h:n<l.length) (h1:Limb (l.take n)) (h2:0≤l[n]∧l[n]<1000000000):Limb (l.take (n+1)):=by
 rw[kBn h];exact h1.app (fun x hx=>by simp at hx;subst hx;exact h2)
theorem shortly_loop (l:List Int) (m:Int) (hl:Limb l) (hm:0<m) (hm2:m<1000000000) (hsm:l.length≤1000000) :
  ∀(n:Nat) (k:Nat) (out:List Int) (rest:Int),n≤l.length→out.length=l.length→0≤rest→rest<m→n<k →
   ∃out' rest',limbs_shortly.l0 k l m out rest (l.length:Int) ((l.length:Int)-(n:Int))=some (out',rest')∧out'.length=l.length∧out'.drop n=out.drop n∧Limb (out'.take n)∧0≤rest'∧rest'<m∧rest*1000000000 ^ n+val (l.take n)=val (out'.take n)*m+rest':=by
 intro n
 induction n with
 | zero =>
  intro k out rest _ ho h0 h1 hk;obtain⟨k,rfl⟩:∃j,k=j+1:=⟨k-1,kCT⟩;refine⟨out,rest,?_,ho,rfl,by intro x hx;simp at hx,h0,h1,by simp[val]⟩;unfold limbs_shortly.l0;rw[kA9 kCT,Int.emod_eq_of_lt h0 kCT]
 | succ n ih =>
  intro k out rest hn ho h0 h1 hk;obtain⟨k,rfl⟩:∃j,k=j+1:=⟨k-1,kCT⟩;have hx:=hl.at n kCT;have hi:wrap64 (wrap64 ((l.length:Int)-1)-((l.length:Int)-((n+1:Nat):Int)))=(n:Int):=by
   rw[w64_at (x:=(l.length:Int)-1) kCT kCT,w64_at kCT kCT];omega
  have hj:wrap64 ((l.length:Int)-((n+1:Nat):Int)+1)=(l.length:Int)-(n:Int):=by
   rw[w64_at kCT kCT];omega
  have hc0:0≤rest*1000000000+l[n]:=kCT
  have hc1:rest*1000000000+l[n]<m*1000000000:=kCT
  have hcur:IntKind.u64.wrap (IntKind.u64.wrap (rest*1000000000)+IntKind.u64.wrap (rd l (n:Int)))=rest*1000000000+l[n]:=by
   rw[rd_at l n kCT,zDZ (x:=l[n]) kCT kCT,zDZ (x:=rest*1000000000) kCT kCT,zDZ kCT kCT]
  have hmw:IntKind.u64.wrap m=m:=zDZ kCT kCT;have hq0:0≤(rest*1000000000+l[n]) / m:=kBQ hc0 kCT;have hq1:(rest*1000000000+l[n]) / m<1000000000:=kCG hm (by rw[kBe];omega);have hr0:=kBH (rest*1000000000+l[n]) (show m≠0 by omega);have hr1:=kBv (rest*1000000000+l[n]) hm;have hdm:=kBI (rest*1000000000+l[n]) m;obtain⟨out',rest',e1,e2,e3,e4,e5,e6,e7⟩:=ih k (out.set n ((rest*1000000000+l[n]) / m)) ((rest*1000000000+l[n]) % m) kCT (by simp[ho]) hr0 hr1 kCT;have hn':n<out'.length:=kCT
  have hon:out'[n]=(rest*1000000000+l[n]) / m:=by
   have:=congrArg (fun t=>t[0]?) e3;simp only[List.getElem?_drop,Nat.add_zero] at this;rw[kAG hn',List.getElem?_set_self kCT] at this;simpa using this
  refine⟨out',rest',?_,e2,?_,?_,e5,e6,?_⟩
  ·unfold limbs_shortly.l0;rw[kAa kCT,hi,kAa kCT,kAa kCT,hmw,kA9 kCT,kAa kCT,hj,hcur,kBr hc0,kBU hc0];rw[zDZ hq0 kCT,Int.emod_eq_of_lt hq0 kCT];exact e1
  ·have h3:=congrArg (List.drop 1) e3;rw[kC0,kC0,List.drop_set_of_lt kCT] at h3;exact h3
  ·exact zCV n hn' e4 (by rw[hon];exact⟨hq0,hq1⟩)
  ·rw[zAD n kCT,zAD n hn',hon];rw[kBB];generalize (rest*1000000000+l[n]) / m=q at *;generalize (rest*1000000000+l[n]) % m=r at *;have h8:(1000000000:Int) ^ n*(m*q+r)=1000000000 ^ n*(rest*1000000000+l[n]):=by rw[hdm]
   generalize (1000000000:Int) ^ n=B at *
   grind
theorem shortly_val (l:List Int) (m:Int) (hl:Limb l) (hm:0<m) (hm2:m<1000000000) (hsm:l.length≤1000000) :
  ∃q r,limbs_shortly.f (l.length+1) l m=some (q,r)∧q.length=l.length∧Limb q∧0≤r∧r<m∧val l=val q*m+r:=by
 obtain⟨q,r,e1,e2,e3,e4,e5,e6,e7⟩:=shortly_loop l m hl hm hm2 hsm l.length (l.length+1) (List.replicate l.length 0) 0 (kA2 _) kCV (Int.le_refl _) hm kCT;rw[← e2,kB1] at e4 e7;rw[e2,kB1] at e7;refine⟨q,r,?_,e2,e4,e5,e6,by simpa using e7⟩;unfold limbs_shortly.f;rw[kAa kCT,kAa kCT];simp only[Int.toNat_natCast];rw[show (l.length:Int)-(l.length:Int)=0 from by omega] at e1;exact e1
end Go.Proofs.YtjaobihcdkjmbaaGreatDoor
end
