/- The law ReadPlace answers true for every argument; a part of its proof. -/
import Derived.Test.YtjaobihcdkjmbaaGreatDoorCa
import Derived.Test.YtjaobihcdkjmbaaGreatDoorCb
import Derived.Test.YtjaobihcdkjmbaaGreatDoorC0
import Derived.Test.YtjaobihcdkjmbaaGreatDoorC1
import Derived.Test.YtjaobihcdkjmbaaGreatDoorC7
import Derived.Test.YtjaobihcdkjmbaaGreatDoorC9
import Derived.Test.YtjaobihcdkjmbaaGreatDoorC12
import Derived.Test.YtjaobihcdkjmbaaGreatDoorC14
import Derived.Test.YtjaobihcdkjmbaaGreatDoorC15
import Derived.Test.YtjaobihcdkjmbaaGreatDoorC17
import Derived.Test.YtjaobihcdkjmbaaGreatDoorC18
import Derived.Test.YtjaobihcdkjmbaaGreatDoorC26
import Derived.Test.YtjaobihcdkjmbaaGreatDoorC27
import Derived.Test.YtjaobihcdkjmbaaGreatDoorC29
import Derived.Test.YtjaobihcdkjmbaaGreatDoorC30
import Derived.Test.YtjaobihcdkjmbaaGreatDoorC31
import Derived.Test.YtjaobihcdkjmbaaGreatDoorC32
import Derived.Test.YtjaobihcdkjmbaaGreatDoorC36
import Derived.Test.YtjaobihcdkjmbaaGreatDoorC39
import Derived.Test.YtjaobihcdkjmbaaGreatDoorC41
import Derived.Test.YtjaobihcdkjmbaaGreatDoorC42
set_option linter.unusedVariables false
set_option linter.unusedSimpArgs false
namespace Go.Proofs.YtjaobihcdkjmbaaGreatDoor.PReadTokens
end Go.Proofs.YtjaobihcdkjmbaaGreatDoor.PReadTokens
namespace Go.Proofs.YtjaobihcdkjmbaaGreatDoorW.PrintLast
end Go.Proofs.YtjaobihcdkjmbaaGreatDoorW.PrintLast
namespace Go.Proofs.YtjaobihcdkjmbaaGreatDoorW.PrintWords
end Go.Proofs.YtjaobihcdkjmbaaGreatDoorW.PrintWords
set_option maxRecDepth 100000
set_option maxHeartbeats 4000000
section
namespace Go.Proofs.YtjaobihcdkjmbaaGreatDoor
open Go.RowKit Go.Proofs.YtjaobihcdkjmbaaGreatDoorW.PrintWords Go.Proofs.YtjaobihcdkjmbaaGreatDoorW.PrintLast Go.Proofs.YtjaobihcdkjmbaaGreatDoor.PReadTokens
theorem lit_badB (W0:World) (R B:Nat) (ts:List S47) (en now:Nat) (w:World) (E:Env W0 R B ts) (hS:Start W0) (h:St W0 R B ts en now w) (h2:(tokP ts en now).f0=2) (hbar:sk ts en (now+1) ⟨#[124]⟩=true)
  (hk:(tokP ts en (now+2)).f0≠2) :
  Calls Tryz.prog 278 #[.pointer (some ⟨R,0,none⟩)] w (zAi w R ts en now (.error (atP ts en (now+2)))):=by
 have hlt:=zBL h2 kD0;have hlt1:=zAw hbar;have few:=E.few;have hRw:=h.rdr.lt;have M0:=Mid.start h;have hkd:=zCH R ts now en 2 (w.alloc zO) M0.st.rdr hlt few kDm;have hsk:=kA1 (fun w' hr=>zAF R ts (now+1) en ⟨#[124]⟩ w' hr few hbar);have hpk:=fun w' (hr:Rdr w' R ts (now+2) en)=>zBc R ts (now+2) en w' hr kCW
 have hmf:=fun w' (hr:Rdr w' R ts (now+2) en)=>zBJ R ts (now+2) en w' hr kCW
 have hrc:=fun (w':World) (hb:Below W0.heap.size W0 w')=>zBn (tokP ts en now).f1 (tokP ts en (now+2)).f1 (kAz (zBB (en:=en) (now:=now) E.small) kCW) (kAz (zBB (en:=en) (now:=now+2) E.small) kCW) w' (hS.below hb)
 unfold tokV at hpk;unfold zAk at hmf;have hk':((tokP ts en (now+2)).f0==2)=false:=kAj.2 hk;generalize hat:atP ts en (now+2)=at_;unfold atP at hat;generalize (tokP ts en now).f1=num at *;generalize tokP ts en (now+2)=t at *;have Hpk:=kA1 hpk;have Hrc:=kA1 hrc;rw[hat] at hmf;have Hmf:=kA1 hmf;clear h2 hbar h hpk hrc hmf hat hk;go_enter Tryz.func278,Tryz.ntmps278;go_wp2_with fail;refine hkd.mono ?_;rintro e w1 ⟨rfl,hk1⟩;have M1:=M0.go E hRw hk1 hlt;have M1x:=M1.alloc (.cells #[.int .i64 0,.string num,.string ⟨#[49]⟩,.string ⟨#[]⟩,.int .i64 0,.slice none 0 0] 31);have xb:=zA4 w1 (.cells #[.int .i64 0,.string num,.string ⟨#[49]⟩,.string ⟨#[]⟩,.int .i64 0,.slice none 0 0] 31);have hXR:w1.heap.size≠R:=kAq hk1.rdr.lt;have hXw:w.heap.size<w1.heap.size:=M1.lt;have hs:=hsk.out _ M1x.st.rdr;clear hkd hk1 M0 M1;go_wp2_with fail;refine hs.mono ?_;rintro e w2 ⟨rfl,hk2⟩;have M2:=M1x.go E hRw hk2 hlt1;have x2:=hk2.blk xb hXR;generalize w1.heap.size=X at *;have hp:=Hpk.out w2 M2.st.rdr;clear hs hk2 M1x xb hsk;go_wp2_with fail;refine hp.mono ?_;rintro e w3 ⟨rfl,hb3⟩;have M3:=M2.below hb3;have x3:=zAb hb3 x2;have hXl:=zA5 x3;clear hp hb3 M2 x2;have M4:=(M3.setX E hRw hXR hXw x3 2 (.string t.f1)).alloc (.cells #[.int .i64 t.f0,.string t.f1,.int .i64 t.f2] 47);have x4:((w3.setCell ⟨X,2,none⟩ (.string t.f1)).alloc (.cells #[.int .i64 t.f0,.string t.f1,.int .i64 t.f2] 47)).heap[X]?=some (.cells #[.int .i64 0,.string num,.string t.f1,.string ⟨#[]⟩,.int .i64 0,.slice none 0 0] 31 (0,0)):=(kA4 _ _ _ kDB).trans (zAa x3 2 (.string t.f1));have t4:((w3.setCell ⟨X,2,none⟩ (.string t.f1)).alloc (.cells #[.int .i64 t.f0,.string t.f1,.int .i64 t.f2] 47)).heap[w3.heap.size]?=some (.cells #[.int .i64 t.f0,.string t.f1,.int .i64 t.f2] 47 (0,0)):=by
  have:=zA4 (w3.setCell ⟨X,2,none⟩ (.string t.f1)) (.cells #[.int .i64 t.f0,.string t.f1,.int .i64 t.f2] 47);rw[kAM] at this;exact this
 obtain⟨⟨c0,c1,c2,c3,c4,c5⟩,⟨y0,y1,y2,y3,y4,y5⟩,-⟩:=zA9 x3;go_wp2_with fail;have hTl:=zA5 t4;generalize w3.heap.size=T at *;generalize (w3.setCell ⟨X,2,none⟩ (.string t.f1)).alloc (.cells #[.int .i64 t.f0,.string t.f1,.int .i64 t.f2] 47)=w4 at *;clear c0 c1 c2 c3 c4 c5 y0 y1 y2 y3 y4 y5 x3 M3;have M4d:=M4.below ((kA3 _ w4).drew);have x4d:w4.drew.heap[X]?=_:=x4;have t4d:w4.drew.heap[T]?=_:=t4;have k0:=zA1 t4d 0;have k1:=zA1 t4d 1;have z1:=zA1 x4d 1;have z2:=zA1 x4d 2;simp at k0 k1 z1 z2;refine zEb (n:=18) (S:=fun w'=>w'.cell? ⟨T,0,none⟩=some (.int .i64 t.f0)) (ds:=[]) #[false,false,false,false,false,false,false,false,false,false,false,false,false,false,false,false,false,false] kCX rfl rfl (k0) (fun hHeld=>?_);refine zAu (i:=0) (N:=some 23) (v:=?_) (a':=?_) #[true,false,false,false,false,false,false,false,false,false,false,false,false,false,false,false,false,false] rfl rfl kCX (fun _ _ _ h=>h) (Or.inl ⟨kD9,?_⟩) ?_ ?_;rotate_left
 ·intro w';go_simp
  with_reducible rfl
 rotate_left
 ·simp only[Act.put,kA0,List.set_cons_zero,List.set_cons_succ,zAg,zAh];rfl
 refine zAu (i:=1) (N:=some 24) (v:=?_) (a':=?_) #[true,true,false,false,false,false,false,false,false,false,false,false,false,false,false,false,false,false] rfl rfl kCX (fun _ _ _ h=>h) (Or.inl ⟨kD9,?_⟩) ?_ ?_;rotate_left
 ·intro w';go_simp
  with_reducible rfl
 rotate_left
 ·simp only[Act.put,kA0,List.set_cons_zero,List.set_cons_succ,zAg,zAh];rfl
 refine zAu (i:=2) (N:=some 25) (v:=?_) (a':=?_) #[true,true,true,false,false,false,false,false,false,false,false,false,false,false,false,false,false,false] rfl rfl kCX (fun _ _ _ h=>h) (Or.inl ⟨kD9,?_⟩) ?_ ?_;rotate_left
 ·intro w';go_simp
  with_reducible rfl
 rotate_left
 ·simp only[Act.put,kA0,List.set_cons_zero,List.set_cons_succ,zAg,zAh];rfl
 refine zAu (i:=3) (N:=some 26) (v:=?_) (a':=?_) #[true,true,true,true,false,false,false,false,false,false,false,false,false,false,false,false,false,false] rfl rfl kCX (fun _ _ _ h=>h) (Or.inl ⟨kD9,?_⟩) ?_ ?_;rotate_left
 ·intro w';go_simp
  with_reducible rfl
 rotate_left
 ·simp only[Act.put,kA0,List.set_cons_zero,List.set_cons_succ,zAg,zAh];rfl
 refine zE5 (i:=4) (N:=some 27) (v:=?_) (a':=?_) #[true,true,true,true,true,false,false,false,false,false,false,false,false,false,false,false,false,false] rfl rfl kCX (fun _ _ _ h=>h) (Or.inl ⟨kD9,?_⟩) hHeld ?_ ?_;rotate_left
 ·intro w' s0;go_simp
  with_reducible rfl
 rotate_left
 ·simp only[Act.put,kA0,List.set_cons_zero,List.set_cons_succ,zAg,zAh];rfl
 refine zAu (i:=5) (N:=some 28) (v:=?_) (a':=?_) #[true,true,true,true,true,true,false,false,false,false,false,false,false,false,false,false,false,false] rfl rfl kCX (fun _ _ _ h=>h) (Or.inl ⟨kD9,?_⟩) ?_ ?_;rotate_left
 ·intro w';go_simp
  with_reducible rfl
 rotate_left
 ·simp only[Act.put,kA0,List.set_cons_zero,List.set_cons_succ,zAg,zAh];rfl
 refine zAu (i:=6) (N:=some 29) (v:=?_) (a':=?_) #[true,true,true,true,true,true,true,false,false,false,false,false,false,false,false,false,false,false] rfl rfl kCX (fun _ _ _ h=>h) (Or.inl ⟨kD9,?_⟩) ?_ ?_;rotate_left
 ·intro w';go_simp
  with_reducible rfl
 rotate_left
 ·simp only[Act.put,kA0,List.set_cons_zero,List.set_cons_succ,zAg,zAh];rfl
 refine zAu (i:=7) (N:=some 30) (v:=undef) (a':=?_) #[true,true,true,true,true,true,true,true,false,false,false,false,false,false,false,false,false,false] rfl rfl kCX (fun _ _ _ h=>h) (Or.inr ⟨kD9,rfl⟩) ?_ ?_;rotate_left
 ·simp only[Act.put,kA0,List.set_cons_zero,List.set_cons_succ,zAg,zAh];rfl
 refine zAu (i:=8) (N:=some 31) (v:=undef) (a':=?_) #[true,true,true,true,true,true,true,true,true,false,false,false,false,false,false,false,false,false] rfl rfl kCX (fun _ _ _ h=>h) (Or.inr ⟨kD9,rfl⟩) ?_ ?_;rotate_left
 ·simp only[Act.put,kA0,List.set_cons_zero,List.set_cons_succ,zAg,zAh];rfl
 refine zAu (i:=9) (N:=some 32) (v:=undef) (a':=?_) #[true,true,true,true,true,true,true,true,true,true,false,false,false,false,false,false,false,false] rfl rfl kCX (fun _ _ _ h=>h) (Or.inr ⟨kD9,rfl⟩) ?_ ?_;rotate_left
 ·simp only[Act.put,kA0,List.set_cons_zero,List.set_cons_succ,zAg,zAh];rfl
 refine zAu (i:=10) (N:=some 33) (v:=?_) (a':=?_) #[true,true,true,true,true,true,true,true,true,true,true,false,false,false,false,false,false,false] rfl rfl kCX (fun _ _ _ h=>h) (Or.inl ⟨kD9,?_⟩) ?_ ?_;rotate_left
 ·intro w';go_simp
  with_reducible rfl
 rotate_left
 ·simp only[Act.put,kA0,List.set_cons_zero,List.set_cons_succ,zAg,zAh];rfl
 refine zAu (i:=11) (N:=some 34) (v:=?_) (a':=?_) #[true,true,true,true,true,true,true,true,true,true,true,true,false,false,false,false,false,false] rfl rfl kCX (fun _ _ _ h=>h) (Or.inl ⟨kD9,?_⟩) ?_ ?_;rotate_left
 ·intro w';go_simp
  with_reducible rfl
 rotate_left
 ·simp only[Act.put,kA0,List.set_cons_zero,List.set_cons_succ,zAg,zAh];rfl
 refine zAu (i:=12) (N:=some 35) (v:=undef) (a':=?_) #[true,true,true,true,true,true,true,true,true,true,true,true,true,false,false,false,false,false] rfl rfl kCX (fun _ _ _ h=>h) (Or.inr ⟨kD9,rfl⟩) ?_ ?_;rotate_left
 ·simp only[Act.put,kA0,List.set_cons_zero,List.set_cons_succ,zAg,zAh];rfl
 refine zAu (i:=13) (N:=some 36) (v:=undef) (a':=?_) #[true,true,true,true,true,true,true,true,true,true,true,true,true,true,false,false,false,false] rfl rfl kCX (fun _ _ _ h=>h) (Or.inr ⟨kD9,rfl⟩) ?_ ?_;rotate_left
 ·simp only[Act.put,kA0,List.set_cons_zero,List.set_cons_succ,zAg,zAh];rfl
 refine zAu (i:=14) (N:=some 37) (v:=undef) (a':=?_) #[true,true,true,true,true,true,true,true,true,true,true,true,true,true,true,false,false,false] rfl rfl kCX (fun _ _ _ h=>h) (Or.inr ⟨kD9,rfl⟩) ?_ ?_;rotate_left
 ·simp only[Act.put,kA0,List.set_cons_zero,List.set_cons_succ,zAg,zAh];rfl
 refine zAu (i:=15) (N:=some 38) (v:=undef) (a':=?_) #[true,true,true,true,true,true,true,true,true,true,true,true,true,true,true,true,false,false] rfl rfl kCX (fun _ _ _ h=>h) (Or.inr ⟨kD9,rfl⟩) ?_ ?_;rotate_left
 ·simp only[Act.put,kA0,List.set_cons_zero,List.set_cons_succ,zAg,zAh];rfl
 refine zAu (i:=16) (N:=some 39) (v:=?_) (a':=?_) #[true,true,true,true,true,true,true,true,true,true,true,true,true,true,true,true,true,false] rfl rfl kCX (fun _ _ _ h=>h) (Or.inl ⟨kD9,?_⟩) ?_ ?_;rotate_left
 ·intro w';go_simp
  with_reducible rfl
 rotate_left
 ·simp only[Act.put,kA0,List.set_cons_zero,List.set_cons_succ,zAg,zAh];rfl
 refine one_ (i:=17) (N:=some 40) #[true,true,true,true,true,true,true,true,true,true,true,true,true,true,true,true,true,true] rfl rfl kCX kD0 (fun K hK=>?_);have hm:=Hmf.out _ M4d.st.rdr;refine panics_ Tryz.func93 kCX rfl #[.pointer (some ⟨R,0,none⟩),.bool false] kD9 rfl kDi ?_
 with_reducible refine hm.mono ?_
 rintro e w6⟨rfl,hb6⟩;exact⟨_,rfl,rfl,rfl,kAi M4d.took.grown hb6⟩
theorem lit_badC (W0:World) (R B:Nat) (ts:List S47) (en now:Nat) (w:World) (E:Env W0 R B ts) (hS:Start W0) (h:St W0 R B ts en now w) (h2:(tokP ts en now).f0=2) (hbar:sk ts en (now+1) ⟨#[124]⟩=true)
  (hk:(tokP ts en (now+2)).f0=2) (hne:(tokP ts en (now+2)).f1.toList=[49]) :
  Calls Tryz.prog 278 #[.pointer (some ⟨R,0,none⟩)] w (zAi w R ts en now (.error (atP ts en (now+2)))):=by
 have hlt:=zBL h2 kD0;have hlt1:=zAw hbar;have few:=E.few;have hRw:=h.rdr.lt;have M0:=Mid.start h;have hkd:=zCH R ts now en 2 (w.alloc zO) M0.st.rdr hlt few kDm;have hsk:=kA1 (fun w' hr=>zAF R ts (now+1) en ⟨#[124]⟩ w' hr few hbar);have hpk:=fun w' (hr:Rdr w' R ts (now+2) en)=>zBc R ts (now+2) en w' hr kCW
 have hmf:=fun w' (hr:Rdr w' R ts (now+2) en)=>zBJ R ts (now+2) en w' hr kCW
 have hrc:=fun (w':World) (hb:Below W0.heap.size W0 w')=>zBn (tokP ts en now).f1 (tokP ts en (now+2)).f1 (kAz (zBB (en:=en) (now:=now) E.small) kCW) (kAz (zBB (en:=en) (now:=now+2) E.small) kCW) w' (hS.below hb)
 unfold tokV at hpk;unfold zAk at hmf;have hk':((tokP ts en (now+2)).f0==2)=true:=by rw[kAA];exact hk
 have hne':((tokP ts en (now+2)).f1.toList == [49])=true:=by rw[hne];rfl
 generalize hat:atP ts en (now+2)=at_;unfold atP at hat;generalize (tokP ts en now).f1=num at *;generalize tokP ts en (now+2)=t at *;have Hpk:=kA1 hpk;have Hrc:=kA1 hrc;rw[hat] at hmf;have Hmf:=kA1 hmf;clear h2 hbar h hpk hrc hmf hat hk hne;go_enter Tryz.func278,Tryz.ntmps278;go_wp2_with fail;refine hkd.mono ?_;rintro e w1 ⟨rfl,hk1⟩;have M1:=M0.go E hRw hk1 hlt;have M1x:=M1.alloc (.cells #[.int .i64 0,.string num,.string ⟨#[49]⟩,.string ⟨#[]⟩,.int .i64 0,.slice none 0 0] 31);have xb:=zA4 w1 (.cells #[.int .i64 0,.string num,.string ⟨#[49]⟩,.string ⟨#[]⟩,.int .i64 0,.slice none 0 0] 31);have hXR:w1.heap.size≠R:=kAq hk1.rdr.lt;have hXw:w.heap.size<w1.heap.size:=M1.lt;have hs:=hsk.out _ M1x.st.rdr;clear hkd hk1 M0 M1;go_wp2_with fail;refine hs.mono ?_;rintro e w2 ⟨rfl,hk2⟩;have M2:=M1x.go E hRw hk2 hlt1;have x2:=hk2.blk xb hXR;generalize w1.heap.size=X at *;have hp:=Hpk.out w2 M2.st.rdr;clear hs hk2 M1x xb hsk;go_wp2_with fail;refine hp.mono ?_;rintro e w3 ⟨rfl,hb3⟩;have M3:=M2.below hb3;have x3:=zAb hb3 x2;have hXl:=zA5 x3;clear hp hb3 M2 x2;have M4:=(M3.setX E hRw hXR hXw x3 2 (.string t.f1)).alloc (.cells #[.int .i64 t.f0,.string t.f1,.int .i64 t.f2] 47);have x4:((w3.setCell ⟨X,2,none⟩ (.string t.f1)).alloc (.cells #[.int .i64 t.f0,.string t.f1,.int .i64 t.f2] 47)).heap[X]?=some (.cells #[.int .i64 0,.string num,.string t.f1,.string ⟨#[]⟩,.int .i64 0,.slice none 0 0] 31 (0,0)):=(kA4 _ _ _ kDB).trans (zAa x3 2 (.string t.f1));have t4:((w3.setCell ⟨X,2,none⟩ (.string t.f1)).alloc (.cells #[.int .i64 t.f0,.string t.f1,.int .i64 t.f2] 47)).heap[w3.heap.size]?=some (.cells #[.int .i64 t.f0,.string t.f1,.int .i64 t.f2] 47 (0,0)):=by
  have:=zA4 (w3.setCell ⟨X,2,none⟩ (.string t.f1)) (.cells #[.int .i64 t.f0,.string t.f1,.int .i64 t.f2] 47);rw[kAM] at this;exact this
 obtain⟨⟨c0,c1,c2,c3,c4,c5⟩,⟨y0,y1,y2,y3,y4,y5⟩,-⟩:=zA9 x3;go_wp2_with fail;have hTl:=zA5 t4;generalize w3.heap.size=T at *;generalize (w3.setCell ⟨X,2,none⟩ (.string t.f1)).alloc (.cells #[.int .i64 t.f0,.string t.f1,.int .i64 t.f2] 47)=w4 at *;clear c0 c1 c2 c3 c4 c5 y0 y1 y2 y3 y4 y5 x3 M3;have M4d:=M4.below ((kA3 _ w4).drew);have x4d:w4.drew.heap[X]?=_:=x4;have t4d:w4.drew.heap[T]?=_:=t4;have k0:=zA1 t4d 0;have k1:=zA1 t4d 1;have z1:=zA1 x4d 1;have z2:=zA1 x4d 2;simp at k0 k1 z1 z2;refine zEb (n:=18) (S:=fun w'=>w'.cell? ⟨T,0,none⟩=some (.int .i64 t.f0)∧w'.cell? ⟨T,1,none⟩=some (.string t.f1)) (ds:=[]) #[false,false,false,false,false,false,false,false,false,false,false,false,false,false,false,false,false,false] kCX rfl rfl ⟨k0,k1⟩ (fun hHeld=>?_);refine zAu (i:=0) (N:=some 23) (v:=?_) (a':=?_) #[true,false,false,false,false,false,false,false,false,false,false,false,false,false,false,false,false,false] rfl rfl kCX (fun _ _ _ h=>h) (Or.inl ⟨kD9,?_⟩) ?_ ?_;rotate_left
 ·intro w';go_simp
  with_reducible rfl
 rotate_left
 ·simp only[Act.put,kA0,List.set_cons_zero,List.set_cons_succ,zAg,zAh];rfl
 refine zAu (i:=1) (N:=some 24) (v:=?_) (a':=?_) #[true,true,false,false,false,false,false,false,false,false,false,false,false,false,false,false,false,false] rfl rfl kCX (fun _ _ _ h=>h) (Or.inl ⟨kD9,?_⟩) ?_ ?_;rotate_left
 ·intro w';go_simp
  with_reducible rfl
 rotate_left
 ·simp only[Act.put,kA0,List.set_cons_zero,List.set_cons_succ,zAg,zAh];rfl
 refine zAu (i:=2) (N:=some 25) (v:=?_) (a':=?_) #[true,true,true,false,false,false,false,false,false,false,false,false,false,false,false,false,false,false] rfl rfl kCX (fun _ _ _ h=>h) (Or.inl ⟨kD9,?_⟩) ?_ ?_;rotate_left
 ·intro w';go_simp
  with_reducible rfl
 rotate_left
 ·simp only[Act.put,kA0,List.set_cons_zero,List.set_cons_succ,zAg,zAh];rfl
 refine zAu (i:=3) (N:=some 26) (v:=?_) (a':=?_) #[true,true,true,true,false,false,false,false,false,false,false,false,false,false,false,false,false,false] rfl rfl kCX (fun _ _ _ h=>h) (Or.inl ⟨kD9,?_⟩) ?_ ?_;rotate_left
 ·intro w';go_simp
  with_reducible rfl
 rotate_left
 ·simp only[Act.put,kA0,List.set_cons_zero,List.set_cons_succ,zAg,zAh];rfl
 refine zE5 (i:=4) (N:=some 27) (v:=?_) (a':=?_) #[true,true,true,true,true,false,false,false,false,false,false,false,false,false,false,false,false,false] rfl rfl kCX (fun _ _ _ h=>h) (Or.inl ⟨kD9,?_⟩) hHeld ?_ ?_;rotate_left
 ·rintro w'⟨s0,s1⟩;go_simp
  with_reducible rfl
 rotate_left
 ·simp only[Act.put,kA0,List.set_cons_zero,List.set_cons_succ,zAg,zAh];rfl
 refine zAu (i:=5) (N:=some 28) (v:=?_) (a':=?_) #[true,true,true,true,true,true,false,false,false,false,false,false,false,false,false,false,false,false] rfl rfl kCX (fun _ _ _ h=>h) (Or.inl ⟨kD9,?_⟩) ?_ ?_;rotate_left
 ·intro w';go_simp
  with_reducible rfl
 rotate_left
 ·simp only[Act.put,kA0,List.set_cons_zero,List.set_cons_succ,zAg,zAh];rfl
 refine zAu (i:=6) (N:=some 29) (v:=?_) (a':=?_) #[true,true,true,true,true,true,true,false,false,false,false,false,false,false,false,false,false,false] rfl rfl kCX (fun _ _ _ h=>h) (Or.inl ⟨kD9,?_⟩) ?_ ?_;rotate_left
 ·intro w';go_simp
  with_reducible rfl
 rotate_left
 ·simp only[Act.put,kA0,List.set_cons_zero,List.set_cons_succ,zAg,zAh];rfl
 refine zAu (i:=7) (N:=some 30) (v:=?_) (a':=?_) #[true,true,true,true,true,true,true,true,false,false,false,false,false,false,false,false,false,false] rfl rfl kCX (fun _ _ _ h=>h) (Or.inl ⟨kD9,?_⟩) ?_ ?_;rotate_left
 ·intro w';go_simp
  with_reducible rfl
 rotate_left
 ·simp only[Act.put,kA0,List.set_cons_zero,List.set_cons_succ,zAg,zAh];rfl
 refine zE5 (i:=8) (N:=some 31) (v:=?_) (a':=?_) #[true,true,true,true,true,true,true,true,true,false,false,false,false,false,false,false,false,false] rfl rfl kCX (fun _ _ _ h=>h) (Or.inl ⟨kD9,?_⟩) hHeld ?_ ?_;rotate_left
 ·rintro w'⟨s0,s1⟩;go_simp
  with_reducible rfl
 rotate_left
 ·simp only[Act.put,kA0,List.set_cons_zero,List.set_cons_succ,zAg,zAh];rfl
 refine zAu (i:=9) (N:=some 32) (v:=?_) (a':=?_) #[true,true,true,true,true,true,true,true,true,true,false,false,false,false,false,false,false,false] rfl rfl kCX (fun _ _ _ h=>h) (Or.inl ⟨kD9,?_⟩) ?_ ?_;rotate_left
 ·intro w';go_simp
  with_reducible rfl
 rotate_left
 ·simp only[Act.put,kA0,List.set_cons_zero,List.set_cons_succ,zAg,zAh];rfl
 refine zAu (i:=10) (N:=some 33) (v:=?_) (a':=?_) #[true,true,true,true,true,true,true,true,true,true,true,false,false,false,false,false,false,false] rfl rfl kCX (fun _ _ _ h=>h) (Or.inl ⟨kD9,?_⟩) ?_ ?_;rotate_left
 ·intro w';go_simp
  with_reducible rfl
 rotate_left
 ·simp only[Act.put,kA0,List.set_cons_zero,List.set_cons_succ,zAg,zAh];rfl
 refine zAu (i:=11) (N:=some 34) (v:=?_) (a':=?_) #[true,true,true,true,true,true,true,true,true,true,true,true,false,false,false,false,false,false] rfl rfl kCX (fun _ _ _ h=>h) (Or.inl ⟨kD9,?_⟩) ?_ ?_;rotate_left
 ·intro w';go_simp
  with_reducible rfl
 rotate_left
 ·simp only[Act.put,kA0,List.set_cons_zero,List.set_cons_succ,zAg,zAh];rfl
 refine zAu (i:=12) (N:=some 35) (v:=undef) (a':=?_) #[true,true,true,true,true,true,true,true,true,true,true,true,true,false,false,false,false,false] rfl rfl kCX (fun _ _ _ h=>h) (Or.inr ⟨kD9,rfl⟩) ?_ ?_;rotate_left
 ·simp only[Act.put,kA0,List.set_cons_zero,List.set_cons_succ,zAg,zAh];rfl
 refine zAu (i:=13) (N:=some 36) (v:=undef) (a':=?_) #[true,true,true,true,true,true,true,true,true,true,true,true,true,true,false,false,false,false] rfl rfl kCX (fun _ _ _ h=>h) (Or.inr ⟨kD9,rfl⟩) ?_ ?_;rotate_left
 ·simp only[Act.put,kA0,List.set_cons_zero,List.set_cons_succ,zAg,zAh];rfl
 refine zAu (i:=14) (N:=some 37) (v:=undef) (a':=?_) #[true,true,true,true,true,true,true,true,true,true,true,true,true,true,true,false,false,false] rfl rfl kCX (fun _ _ _ h=>h) (Or.inr ⟨kD9,rfl⟩) ?_ ?_;rotate_left
 ·simp only[Act.put,kA0,List.set_cons_zero,List.set_cons_succ,zAg,zAh];rfl
 refine zAu (i:=15) (N:=some 38) (v:=undef) (a':=?_) #[true,true,true,true,true,true,true,true,true,true,true,true,true,true,true,true,false,false] rfl rfl kCX (fun _ _ _ h=>h) (Or.inr ⟨kD9,rfl⟩) ?_ ?_;rotate_left
 ·simp only[Act.put,kA0,List.set_cons_zero,List.set_cons_succ,zAg,zAh];rfl
 refine zAu (i:=16) (N:=some 39) (v:=?_) (a':=?_) #[true,true,true,true,true,true,true,true,true,true,true,true,true,true,true,true,true,false] rfl rfl kCX (fun _ _ _ h=>h) (Or.inl ⟨kD9,?_⟩) ?_ ?_;rotate_left
 ·intro w';go_simp
  with_reducible rfl
 rotate_left
 ·simp only[Act.put,kA0,List.set_cons_zero,List.set_cons_succ,zAg,zAh];rfl
 refine one_ (i:=17) (N:=some 40) #[true,true,true,true,true,true,true,true,true,true,true,true,true,true,true,true,true,true] rfl rfl kCX kD0 (fun K hK=>?_);have hm:=Hmf.out _ M4d.st.rdr;refine panics_ Tryz.func93 kCX rfl #[.pointer (some ⟨R,0,none⟩),.bool false] kD9 rfl kDi ?_
 with_reducible refine hm.mono ?_
 rintro e w6⟨rfl,hb6⟩;exact⟨_,rfl,rfl,rfl,kAi M4d.took.grown hb6⟩
theorem lit_badD (W0:World) (R B:Nat) (ts:List S47) (en now:Nat) (w:World) (E:Env W0 R B ts) (hS:Start W0) (h:St W0 R B ts en now w) (h2:(tokP ts en now).f0=2) (hbar:sk ts en (now+1) ⟨#[124]⟩=true)
  (hk:(tokP ts en (now+2)).f0=2) (hne:(tokP ts en (now+2)).f1.toList≠[49]) (hc:chkR ⟨(tokP ts en now).f1,(tokP ts en (now+2)).f1⟩≠0) :
  Calls Tryz.prog 278 #[.pointer (some ⟨R,0,none⟩)] w (zAi w R ts en now (.error (atP ts en (now+2)))):=by
 have hlt:=zBL h2 kD0;have hlt1:=zAw hbar;have few:=E.few;have hRw:=h.rdr.lt;have M0:=Mid.start h;have hkd:=zCH R ts now en 2 (w.alloc zO) M0.st.rdr hlt few kDm;have hsk:=kA1 (fun w' hr=>zAF R ts (now+1) en ⟨#[124]⟩ w' hr few hbar);have hpk:=fun w' (hr:Rdr w' R ts (now+2) en)=>zBc R ts (now+2) en w' hr kCW
 have hmf:=fun w' (hr:Rdr w' R ts (now+2) en)=>zBJ R ts (now+2) en w' hr kCW
 have hrc:=fun (w':World) (hb:Below W0.heap.size W0 w')=>zBn (tokP ts en now).f1 (tokP ts en (now+2)).f1 (kAz (zBB (en:=en) (now:=now) E.small) kCW) (kAz (zBB (en:=en) (now:=now+2) E.small) kCW) w' (hS.below hb)
 unfold tokV at hpk;unfold zAk at hmf;have hk':((tokP ts en (now+2)).f0==2)=true:=by rw[kAA];exact hk
 have hne':((tokP ts en (now+2)).f1.toList == [49])=false:=kAj.2 hne;have hc':(chkR ⟨(tokP ts en now).f1,(tokP ts en (now+2)).f1⟩==0)=false:=kAj.2 hc;generalize chkR ⟨(tokP ts en now).f1,(tokP ts en (now+2)).f1⟩=cr at *;generalize hat:atP ts en (now+2)=at_;unfold atP at hat;generalize (tokP ts en now).f1=num at *;generalize tokP ts en (now+2)=t at *;have Hpk:=kA1 hpk;have Hrc:=kA1 hrc;rw[hat] at hmf;have Hmf:=kA1 hmf;clear h2 hbar h hpk hrc hmf hat hk hne hc;go_enter Tryz.func278,Tryz.ntmps278;go_wp2_with fail;refine hkd.mono ?_;rintro e w1 ⟨rfl,hk1⟩;have M1:=M0.go E hRw hk1 hlt;have M1x:=M1.alloc (.cells #[.int .i64 0,.string num,.string ⟨#[49]⟩,.string ⟨#[]⟩,.int .i64 0,.slice none 0 0] 31);have xb:=zA4 w1 (.cells #[.int .i64 0,.string num,.string ⟨#[49]⟩,.string ⟨#[]⟩,.int .i64 0,.slice none 0 0] 31);have hXR:w1.heap.size≠R:=kAq hk1.rdr.lt;have hXw:w.heap.size<w1.heap.size:=M1.lt;have hs:=hsk.out _ M1x.st.rdr;clear hkd hk1 M0 M1;go_wp2_with fail;refine hs.mono ?_;rintro e w2 ⟨rfl,hk2⟩;have M2:=M1x.go E hRw hk2 hlt1;have x2:=hk2.blk xb hXR;generalize w1.heap.size=X at *;have hp:=Hpk.out w2 M2.st.rdr;clear hs hk2 M1x xb hsk;go_wp2_with fail;refine hp.mono ?_;rintro e w3 ⟨rfl,hb3⟩;have M3:=M2.below hb3;have x3:=zAb hb3 x2;have hXl:=zA5 x3;clear hp hb3 M2 x2;have M4:=(M3.setX E hRw hXR hXw x3 2 (.string t.f1)).alloc (.cells #[.int .i64 t.f0,.string t.f1,.int .i64 t.f2] 47);have x4:((w3.setCell ⟨X,2,none⟩ (.string t.f1)).alloc (.cells #[.int .i64 t.f0,.string t.f1,.int .i64 t.f2] 47)).heap[X]?=some (.cells #[.int .i64 0,.string num,.string t.f1,.string ⟨#[]⟩,.int .i64 0,.slice none 0 0] 31 (0,0)):=(kA4 _ _ _ kDB).trans (zAa x3 2 (.string t.f1));have t4:((w3.setCell ⟨X,2,none⟩ (.string t.f1)).alloc (.cells #[.int .i64 t.f0,.string t.f1,.int .i64 t.f2] 47)).heap[w3.heap.size]?=some (.cells #[.int .i64 t.f0,.string t.f1,.int .i64 t.f2] 47 (0,0)):=by
  have:=zA4 (w3.setCell ⟨X,2,none⟩ (.string t.f1)) (.cells #[.int .i64 t.f0,.string t.f1,.int .i64 t.f2] 47);rw[kAM] at this;exact this
 obtain⟨⟨c0,c1,c2,c3,c4,c5⟩,⟨y0,y1,y2,y3,y4,y5⟩,-⟩:=zA9 x3;go_wp2_with fail;have hTl:=zA5 t4;generalize w3.heap.size=T at *;generalize (w3.setCell ⟨X,2,none⟩ (.string t.f1)).alloc (.cells #[.int .i64 t.f0,.string t.f1,.int .i64 t.f2] 47)=w4 at *;clear c0 c1 c2 c3 c4 c5 y0 y1 y2 y3 y4 y5 x3 M3;have M4d:=M4.below ((kA3 _ w4).drew);have x4d:w4.drew.heap[X]?=_:=x4;have t4d:w4.drew.heap[T]?=_:=t4;have k0:=zA1 t4d 0;have k1:=zA1 t4d 1;have z1:=zA1 x4d 1;have z2:=zA1 x4d 2;simp at k0 k1 z1 z2;refine zEb (n:=18) (S:=fun w'=>w'.cell? ⟨T,0,none⟩=some (.int .i64 t.f0)∧w'.cell? ⟨T,1,none⟩=some (.string t.f1)∧w'.cell? ⟨X,1,none⟩=some (.string num)∧w'.cell? ⟨X,2,none⟩=some (.string t.f1)) (ds:=[]) #[false,false,false,false,false,false,false,false,false,false,false,false,false,false,false,false,false,false] kCX rfl rfl ⟨k0,k1,z1,z2⟩ (fun hHeld=>?_);refine zAu (i:=0) (N:=some 23) (v:=?_) (a':=?_) #[true,false,false,false,false,false,false,false,false,false,false,false,false,false,false,false,false,false] rfl rfl kCX (fun _ _ _ h=>h) (Or.inl ⟨kD9,?_⟩) ?_ ?_;rotate_left
 ·intro w';go_simp
  with_reducible rfl
 rotate_left
 ·simp only[Act.put,kA0,List.set_cons_zero,List.set_cons_succ,zAg,zAh];rfl
 refine zAu (i:=1) (N:=some 24) (v:=?_) (a':=?_) #[true,true,false,false,false,false,false,false,false,false,false,false,false,false,false,false,false,false] rfl rfl kCX (fun _ _ _ h=>h) (Or.inl ⟨kD9,?_⟩) ?_ ?_;rotate_left
 ·intro w';go_simp
  with_reducible rfl
 rotate_left
 ·simp only[Act.put,kA0,List.set_cons_zero,List.set_cons_succ,zAg,zAh];rfl
 refine zAu (i:=2) (N:=some 25) (v:=?_) (a':=?_) #[true,true,true,false,false,false,false,false,false,false,false,false,false,false,false,false,false,false] rfl rfl kCX (fun _ _ _ h=>h) (Or.inl ⟨kD9,?_⟩) ?_ ?_;rotate_left
 ·intro w';go_simp
  with_reducible rfl
 rotate_left
 ·simp only[Act.put,kA0,List.set_cons_zero,List.set_cons_succ,zAg,zAh];rfl
 refine zAu (i:=3) (N:=some 26) (v:=?_) (a':=?_) #[true,true,true,true,false,false,false,false,false,false,false,false,false,false,false,false,false,false] rfl rfl kCX (fun _ _ _ h=>h) (Or.inl ⟨kD9,?_⟩) ?_ ?_;rotate_left
 ·intro w';go_simp
  with_reducible rfl
 rotate_left
 ·simp only[Act.put,kA0,List.set_cons_zero,List.set_cons_succ,zAg,zAh];rfl
 refine zE5 (i:=4) (N:=some 27) (v:=?_) (a':=?_) #[true,true,true,true,true,false,false,false,false,false,false,false,false,false,false,false,false,false] rfl rfl kCX (fun _ _ _ h=>h) (Or.inl ⟨kD9,?_⟩) hHeld ?_ ?_;rotate_left
 ·rintro w'⟨s0,s1,s2,s3⟩;go_simp
  with_reducible rfl
 rotate_left
 ·simp only[Act.put,kA0,List.set_cons_zero,List.set_cons_succ,zAg,zAh];rfl
 refine zAu (i:=5) (N:=some 28) (v:=?_) (a':=?_) #[true,true,true,true,true,true,false,false,false,false,false,false,false,false,false,false,false,false] rfl rfl kCX (fun _ _ _ h=>h) (Or.inl ⟨kD9,?_⟩) ?_ ?_;rotate_left
 ·intro w';go_simp
  with_reducible rfl
 rotate_left
 ·simp only[Act.put,kA0,List.set_cons_zero,List.set_cons_succ,zAg,zAh];rfl
 refine zAu (i:=6) (N:=some 29) (v:=?_) (a':=?_) #[true,true,true,true,true,true,true,false,false,false,false,false,false,false,false,false,false,false] rfl rfl kCX (fun _ _ _ h=>h) (Or.inl ⟨kD9,?_⟩) ?_ ?_;rotate_left
 ·intro w';go_simp
  with_reducible rfl
 rotate_left
 ·simp only[Act.put,kA0,List.set_cons_zero,List.set_cons_succ,zAg,zAh];rfl
 refine zAu (i:=7) (N:=some 30) (v:=?_) (a':=?_) #[true,true,true,true,true,true,true,true,false,false,false,false,false,false,false,false,false,false] rfl rfl kCX (fun _ _ _ h=>h) (Or.inl ⟨kD9,?_⟩) ?_ ?_;rotate_left
 ·intro w';go_simp
  with_reducible rfl
 rotate_left
 ·simp only[Act.put,kA0,List.set_cons_zero,List.set_cons_succ,zAg,zAh];rfl
 refine zE5 (i:=8) (N:=some 31) (v:=?_) (a':=?_) #[true,true,true,true,true,true,true,true,true,false,false,false,false,false,false,false,false,false] rfl rfl kCX (fun _ _ _ h=>h) (Or.inl ⟨kD9,?_⟩) hHeld ?_ ?_;rotate_left
 ·rintro w'⟨s0,s1,s2,s3⟩;go_simp
  with_reducible rfl
 rotate_left
 ·simp only[Act.put,kA0,List.set_cons_zero,List.set_cons_succ,zAg,zAh];rfl
 refine zAu (i:=9) (N:=some 32) (v:=?_) (a':=?_) #[true,true,true,true,true,true,true,true,true,true,false,false,false,false,false,false,false,false] rfl rfl kCX (fun _ _ _ h=>h) (Or.inl ⟨kD9,?_⟩) ?_ ?_;rotate_left
 ·intro w';go_simp
  with_reducible rfl
 rotate_left
 ·simp only[Act.put,kA0,List.set_cons_zero,List.set_cons_succ,zAg,zAh];rfl
 refine zAu (i:=10) (N:=some 33) (v:=?_) (a':=?_) #[true,true,true,true,true,true,true,true,true,true,true,false,false,false,false,false,false,false] rfl rfl kCX (fun _ _ _ h=>h) (Or.inl ⟨kD9,?_⟩) ?_ ?_;rotate_left
 ·intro w';go_simp
  with_reducible rfl
 rotate_left
 ·simp only[Act.put,kA0,List.set_cons_zero,List.set_cons_succ,zAg,zAh];rfl
 refine zAu (i:=11) (N:=some 34) (v:=?_) (a':=?_) #[true,true,true,true,true,true,true,true,true,true,true,true,false,false,false,false,false,false] rfl rfl kCX (fun _ _ _ h=>h) (Or.inl ⟨kD9,?_⟩) ?_ ?_;rotate_left
 ·intro w';go_simp
  with_reducible rfl
 rotate_left
 ·simp only[Act.put,kA0,List.set_cons_zero,List.set_cons_succ,zAg,zAh];rfl
 refine zAu (i:=12) (N:=some 35) (v:=?_) (a':=?_) #[true,true,true,true,true,true,true,true,true,true,true,true,true,false,false,false,false,false] rfl rfl kCX (fun _ _ _ h=>h) (Or.inl ⟨kD9,?_⟩) ?_ ?_;rotate_left
 ·intro w';go_simp
  with_reducible rfl
 rotate_left
 ·simp only[Act.put,kA0,List.set_cons_zero,List.set_cons_succ,zAg,zAh];rfl
 refine zE5 (i:=13) (N:=some 36) (v:=?_) (a':=?_) #[true,true,true,true,true,true,true,true,true,true,true,true,true,true,false,false,false,false] rfl rfl kCX (fun _ _ _ h=>h) (Or.inl ⟨kD9,?_⟩) hHeld ?_ ?_;rotate_left
 ·rintro w'⟨s0,s1,s2,s3⟩;go_simp
  with_reducible rfl
 rotate_left
 ·simp only[Act.put,kA0,List.set_cons_zero,List.set_cons_succ,zAg,zAh];rfl
 refine one_ (i:=14) (N:=some 37) #[true,true,true,true,true,true,true,true,true,true,true,true,true,true,true,false,false,false] rfl rfl kCX kD0 (fun K hK=>?_);have hr5:=Hrc.out _ M4d.st.low;refine goes_ Tryz.func141 kCX rfl #[.agg #[.string num,.string t.f1]] kD9 rfl rfl kDi ?_
 with_reducible refine (hr5).mono ?_
 rintro e w5⟨rfl,hb5⟩;refine⟨_,rfl,?_⟩;refine hK.out _ _ ⟨(zA0 hb5 k0),(zA0 hb5 k1),(zA0 hb5 z1),(zA0 hb5 z2)⟩ (fun hHeld=>?_);clear hK K;refine zCe (a':=?_) ?_ ?_;rotate_left
 ·show Act.put _ (some 37) _=_;simp only[Act.put,kA0,List.set_cons_zero,List.set_cons_succ,zAg,zAh];rfl
 refine zAu (i:=15) (N:=some 38) (v:=?_) (a':=?_) #[true,true,true,true,true,true,true,true,true,true,true,true,true,true,true,true,false,false] rfl rfl kCX (fun _ _ _ h=>h) (Or.inl ⟨kD9,?_⟩) ?_ ?_;rotate_left
 ·intro w';go_simp
  with_reducible rfl
 rotate_left
 ·simp only[Act.put,kA0,List.set_cons_zero,List.set_cons_succ,zAg,zAh];rfl
 refine zAu (i:=16) (N:=some 39) (v:=?_) (a':=?_) #[true,true,true,true,true,true,true,true,true,true,true,true,true,true,true,true,true,false] rfl rfl kCX (fun _ _ _ h=>h) (Or.inl ⟨kD9,?_⟩) ?_ ?_;rotate_left
 ·intro w';go_simp
  with_reducible rfl
 rotate_left
 ·simp only[Act.put,kA0,List.set_cons_zero,List.set_cons_succ,zAg,zAh];rfl
 refine one_ (i:=17) (N:=some 40) #[true,true,true,true,true,true,true,true,true,true,true,true,true,true,true,true,true,true] rfl rfl kCX kD0 (fun K hK=>?_);have hm:=Hmf.out w5 (M4d.below hb5).st.rdr;refine panics_ Tryz.func93 kCX rfl #[.pointer (some ⟨R,0,none⟩),.bool false] kD9 rfl kDi ?_
 with_reducible refine hm.mono ?_
 rintro e w6⟨rfl,hb6⟩;exact⟨_,rfl,rfl,rfl,kAi (M4d.below hb5).took.grown hb6⟩
theorem lit_quot (W0:World) (R B:Nat) (ts:List S47) (en now:Nat) (w:World) (E:Env W0 R B ts) (hS:Start W0) (h:St W0 R B ts en now w) (h2:(tokP ts en now).f0=2) (hbar:sk ts en (now+1) ⟨#[124]⟩=true)
  (hk:(tokP ts en (now+2)).f0=2) (hne:(tokP ts en (now+2)).f1.toList≠[49]) (hc:chkR ⟨(tokP ts en now).f1,(tokP ts en (now+2)).f1⟩=0) :
  Calls Tryz.prog 278 #[.pointer (some ⟨R,0,none⟩)] w (zAi w R ts en now (zFr ts en ⟨(tokP ts en now).f1,(tokP ts en (now+2)).f1⟩ (now+2+1))):=by
 have hlt:=zBL h2 kD0;have hlt1:=zAw hbar;have few:=E.few;have hRw:=h.rdr.lt;have M0:=Mid.start h;have hkd:=zCH R ts now en 2 (w.alloc zO) M0.st.rdr hlt few kDm;have hsk:=kA1 (fun w' hr=>zAF R ts (now+1) en ⟨#[124]⟩ w' hr few hbar);have hpk:=fun w' (hr:Rdr w' R ts (now+2) en)=>zBc R ts (now+2) en w' hr kCW
 have hmf:=fun w' (hr:Rdr w' R ts (now+2) en)=>zBJ R ts (now+2) en w' hr kCW
 have hrc:=fun (w':World) (hb:Below W0.heap.size W0 w')=>zBn (tokP ts en now).f1 (tokP ts en (now+2)).f1 (kAz (zBB (en:=en) (now:=now) E.small) kCW) (kAz (zBB (en:=en) (now:=now+2) E.small) kCW) w' (hS.below hb)
 have hlt2:=zBL hk kD0;rw[hc] at hrc;unfold tokV at hpk;have hk':((tokP ts en (now+2)).f0==2)=true:=by rw[kAA];exact hk
 have hne':((tokP ts en (now+2)).f1.toList == [49])=false:=kAj.2 hne;have hpk3:=fun w' (hr:Rdr w' R ts (now+2+1) en)=>zBc R ts (now+2+1) en w' hr hlt2
 have hkd3:=fun (e:(tokP ts en (now+2+1)).f0=3) w' (hr:Rdr w' R ts (now+2+1) en)=>zCH R ts (now+2+1) en 3 w' hr (zBL e kD0) few (by rw[kAA];exact e)
 unfold tokV at hpk3;generalize hres:zFr ts en ⟨(tokP ts en now).f1,(tokP ts en (now+2)).f1⟩ (now+2+1)=res;unfold zFr at hres;generalize (tokP ts en now).f1=num at *;generalize tokP ts en (now+2)=t at *;have hlt3:(tokP ts en (now+2+1)).f0=3→now+2+1<ts.length:=fun e=>zBL e kD0
 generalize tokP ts en (now+2+1)=t3 at *;have Hpk:=kA1 hpk;have Hrc:=kA1 hrc;have Hpk3:=kA1 hpk3;have Hkd3:=kA1 hkd3;have Hres:=kA1 hres;have Hlt3:=kA1 hlt3;clear h2 hbar hk hne hc h hpk hrc hpk3 hkd3 hres hlt3 hmf;have hfd:=zBO t3.f0 t3.f2 t3.f1;go_enter Tryz.func278,Tryz.ntmps278;go_wp2_with fail;refine hkd.mono ?_;rintro e w1 ⟨rfl,hk1⟩;have M1:=M0.go E hRw hk1 hlt;have M1x:=M1.alloc (.cells #[.int .i64 0,.string num,.string ⟨#[49]⟩,.string ⟨#[]⟩,.int .i64 0,.slice none 0 0] 31);have xb:=zA4 w1 (.cells #[.int .i64 0,.string num,.string ⟨#[49]⟩,.string ⟨#[]⟩,.int .i64 0,.slice none 0 0] 31);have hXR:w1.heap.size≠R:=kAq hk1.rdr.lt;have hXw:w.heap.size<w1.heap.size:=M1.lt;have hs:=hsk.out _ M1x.st.rdr;clear hkd hk1 M0 M1;go_wp2_with fail;refine hs.mono ?_;rintro e w2 ⟨rfl,hk2⟩;have M2:=M1x.go E hRw hk2 hlt1;have x2:=hk2.blk xb hXR;generalize w1.heap.size=X at *;have hp:=Hpk.out w2 M2.st.rdr;clear hs hk2 M1x xb hsk;go_wp2_with fail;refine hp.mono ?_;rintro e w3 ⟨rfl,hb3⟩;have M3:=M2.below hb3;have x3:=zAb hb3 x2;have hXl:=zA5 x3;clear hp hb3 M2 x2;have M4:=(M3.setX E hRw hXR hXw x3 2 (.string t.f1)).alloc (.cells #[.int .i64 t.f0,.string t.f1,.int .i64 t.f2] 47);have x4:((w3.setCell ⟨X,2,none⟩ (.string t.f1)).alloc (.cells #[.int .i64 t.f0,.string t.f1,.int .i64 t.f2] 47)).heap[X]?=some (.cells #[.int .i64 0,.string num,.string t.f1,.string ⟨#[]⟩,.int .i64 0,.slice none 0 0] 31 (0,0)):=(kA4 _ _ _ kDB).trans (zAa x3 2 (.string t.f1));have t4:((w3.setCell ⟨X,2,none⟩ (.string t.f1)).alloc (.cells #[.int .i64 t.f0,.string t.f1,.int .i64 t.f2] 47)).heap[w3.heap.size]?=some (.cells #[.int .i64 t.f0,.string t.f1,.int .i64 t.f2] 47 (0,0)):=by
  have:=zA4 (w3.setCell ⟨X,2,none⟩ (.string t.f1)) (.cells #[.int .i64 t.f0,.string t.f1,.int .i64 t.f2] 47);rw[kAM] at this;exact this
 obtain⟨⟨c0,c1,c2,c3,c4,c5⟩,⟨y0,y1,y2,y3,y4,y5⟩,-⟩:=zA9 x3;go_wp2_with fail;have hTl:=zA5 t4;generalize w3.heap.size=T at *;generalize (w3.setCell ⟨X,2,none⟩ (.string t.f1)).alloc (.cells #[.int .i64 t.f0,.string t.f1,.int .i64 t.f2] 47)=w4 at *;clear c0 c1 c2 c3 c4 c5 y0 y1 y2 y3 y4 y5 x3 M3;have M4d:=M4.below ((kA3 _ w4).drew);have x4d:w4.drew.heap[X]?=_:=x4;have t4d:w4.drew.heap[T]?=_:=t4;have k0:=zA1 t4d 0;have k1:=zA1 t4d 1;have z1:=zA1 x4d 1;have z2:=zA1 x4d 2;simp at k0 k1 z1 z2;refine zEb (n:=18) (S:=fun w'=>w'.cell? ⟨T,0,none⟩=some (.int .i64 t.f0)∧w'.cell? ⟨T,1,none⟩=some (.string t.f1)∧w'.cell? ⟨X,1,none⟩=some (.string num)∧w'.cell? ⟨X,2,none⟩=some (.string t.f1)) (ds:=[]) #[false,false,false,false,false,false,false,false,false,false,false,false,false,false,false,false,false,false] kCX rfl rfl ⟨k0,k1,z1,z2⟩ (fun hHeld=>?_);refine zAu (i:=0) (N:=some 23) (v:=?_) (a':=?_) #[true,false,false,false,false,false,false,false,false,false,false,false,false,false,false,false,false,false] rfl rfl kCX (fun _ _ _ h=>h) (Or.inl ⟨kD9,?_⟩) ?_ ?_;rotate_left
 ·intro w';go_simp
  with_reducible rfl
 rotate_left
 ·simp only[Act.put,kA0,List.set_cons_zero,List.set_cons_succ,zAg,zAh];rfl
 refine zAu (i:=1) (N:=some 24) (v:=?_) (a':=?_) #[true,true,false,false,false,false,false,false,false,false,false,false,false,false,false,false,false,false] rfl rfl kCX (fun _ _ _ h=>h) (Or.inl ⟨kD9,?_⟩) ?_ ?_;rotate_left
 ·intro w';go_simp
  with_reducible rfl
 rotate_left
 ·simp only[Act.put,kA0,List.set_cons_zero,List.set_cons_succ,zAg,zAh];rfl
 refine zAu (i:=2) (N:=some 25) (v:=?_) (a':=?_) #[true,true,true,false,false,false,false,false,false,false,false,false,false,false,false,false,false,false] rfl rfl kCX (fun _ _ _ h=>h) (Or.inl ⟨kD9,?_⟩) ?_ ?_;rotate_left
 ·intro w';go_simp
  with_reducible rfl
 rotate_left
 ·simp only[Act.put,kA0,List.set_cons_zero,List.set_cons_succ,zAg,zAh];rfl
 refine zAu (i:=3) (N:=some 26) (v:=?_) (a':=?_) #[true,true,true,true,false,false,false,false,false,false,false,false,false,false,false,false,false,false] rfl rfl kCX (fun _ _ _ h=>h) (Or.inl ⟨kD9,?_⟩) ?_ ?_;rotate_left
 ·intro w';go_simp
  with_reducible rfl
 rotate_left
 ·simp only[Act.put,kA0,List.set_cons_zero,List.set_cons_succ,zAg,zAh];rfl
 refine zE5 (i:=4) (N:=some 27) (v:=?_) (a':=?_) #[true,true,true,true,true,false,false,false,false,false,false,false,false,false,false,false,false,false] rfl rfl kCX (fun _ _ _ h=>h) (Or.inl ⟨kD9,?_⟩) hHeld ?_ ?_;rotate_left
 ·rintro w'⟨s0,s1,s2,s3⟩;go_simp
  with_reducible rfl
 rotate_left
 ·simp only[Act.put,kA0,List.set_cons_zero,List.set_cons_succ,zAg,zAh];rfl
 refine zAu (i:=5) (N:=some 28) (v:=?_) (a':=?_) #[true,true,true,true,true,true,false,false,false,false,false,false,false,false,false,false,false,false] rfl rfl kCX (fun _ _ _ h=>h) (Or.inl ⟨kD9,?_⟩) ?_ ?_;rotate_left
 ·intro w';go_simp
  with_reducible rfl
 rotate_left
 ·simp only[Act.put,kA0,List.set_cons_zero,List.set_cons_succ,zAg,zAh];rfl
 refine zAu (i:=6) (N:=some 29) (v:=?_) (a':=?_) #[true,true,true,true,true,true,true,false,false,false,false,false,false,false,false,false,false,false] rfl rfl kCX (fun _ _ _ h=>h) (Or.inl ⟨kD9,?_⟩) ?_ ?_;rotate_left
 ·intro w';go_simp
  with_reducible rfl
 rotate_left
 ·simp only[Act.put,kA0,List.set_cons_zero,List.set_cons_succ,zAg,zAh];rfl
 refine zAu (i:=7) (N:=some 30) (v:=?_) (a':=?_) #[true,true,true,true,true,true,true,true,false,false,false,false,false,false,false,false,false,false] rfl rfl kCX (fun _ _ _ h=>h) (Or.inl ⟨kD9,?_⟩) ?_ ?_;rotate_left
 ·intro w';go_simp
  with_reducible rfl
 rotate_left
 ·simp only[Act.put,kA0,List.set_cons_zero,List.set_cons_succ,zAg,zAh];rfl
 refine zE5 (i:=8) (N:=some 31) (v:=?_) (a':=?_) #[true,true,true,true,true,true,true,true,true,false,false,false,false,false,false,false,false,false] rfl rfl kCX (fun _ _ _ h=>h) (Or.inl ⟨kD9,?_⟩) hHeld ?_ ?_;rotate_left
 ·rintro w'⟨s0,s1,s2,s3⟩;go_simp
  with_reducible rfl
 rotate_left
 ·simp only[Act.put,kA0,List.set_cons_zero,List.set_cons_succ,zAg,zAh];rfl
 refine zAu (i:=9) (N:=some 32) (v:=?_) (a':=?_) #[true,true,true,true,true,true,true,true,true,true,false,false,false,false,false,false,false,false] rfl rfl kCX (fun _ _ _ h=>h) (Or.inl ⟨kD9,?_⟩) ?_ ?_;rotate_left
 ·intro w';go_simp
  with_reducible rfl
 rotate_left
 ·simp only[Act.put,kA0,List.set_cons_zero,List.set_cons_succ,zAg,zAh];rfl
 refine zAu (i:=10) (N:=some 33) (v:=?_) (a':=?_) #[true,true,true,true,true,true,true,true,true,true,true,false,false,false,false,false,false,false] rfl rfl kCX (fun _ _ _ h=>h) (Or.inl ⟨kD9,?_⟩) ?_ ?_;rotate_left
 ·intro w';go_simp
  with_reducible rfl
 rotate_left
 ·simp only[Act.put,kA0,List.set_cons_zero,List.set_cons_succ,zAg,zAh];rfl
 refine zAu (i:=11) (N:=some 34) (v:=?_) (a':=?_) #[true,true,true,true,true,true,true,true,true,true,true,true,false,false,false,false,false,false] rfl rfl kCX (fun _ _ _ h=>h) (Or.inl ⟨kD9,?_⟩) ?_ ?_;rotate_left
 ·intro w';go_simp
  with_reducible rfl
 rotate_left
 ·simp only[Act.put,kA0,List.set_cons_zero,List.set_cons_succ,zAg,zAh];rfl
 refine zAu (i:=12) (N:=some 35) (v:=?_) (a':=?_) #[true,true,true,true,true,true,true,true,true,true,true,true,true,false,false,false,false,false] rfl rfl kCX (fun _ _ _ h=>h) (Or.inl ⟨kD9,?_⟩) ?_ ?_;rotate_left
 ·intro w';go_simp
  with_reducible rfl
 rotate_left
 ·simp only[Act.put,kA0,List.set_cons_zero,List.set_cons_succ,zAg,zAh];rfl
 refine zE5 (i:=13) (N:=some 36) (v:=?_) (a':=?_) #[true,true,true,true,true,true,true,true,true,true,true,true,true,true,false,false,false,false] rfl rfl kCX (fun _ _ _ h=>h) (Or.inl ⟨kD9,?_⟩) hHeld ?_ ?_;rotate_left
 ·rintro w'⟨s0,s1,s2,s3⟩;go_simp
  with_reducible rfl
 rotate_left
 ·simp only[Act.put,kA0,List.set_cons_zero,List.set_cons_succ,zAg,zAh];rfl
 refine one_ (i:=14) (N:=some 37) #[true,true,true,true,true,true,true,true,true,true,true,true,true,true,true,false,false,false] rfl rfl kCX kD0 (fun K hK=>?_);have hr5:=Hrc.out _ M4d.st.low;refine goes_ Tryz.func141 kCX rfl #[.agg #[.string num,.string t.f1]] kD9 rfl rfl kDi ?_
 with_reducible refine (hr5).mono ?_
 rintro e w5⟨rfl,hb5⟩;refine⟨_,rfl,?_⟩;refine hK.out _ _ ⟨(zA0 hb5 k0),(zA0 hb5 k1),(zA0 hb5 z1),(zA0 hb5 z2)⟩ (fun hHeld=>?_);clear hK K;refine zCe (a':=?_) ?_ ?_;rotate_left
 ·show Act.put _ (some 37) _=_;simp only[Act.put,kA0,List.set_cons_zero,List.set_cons_succ,zAg,zAh];rfl
 refine zAu (i:=15) (N:=some 38) (v:=?_) (a':=?_) #[true,true,true,true,true,true,true,true,true,true,true,true,true,true,true,true,false,false] rfl rfl kCX (fun _ _ _ h=>h) (Or.inl ⟨kD9,?_⟩) ?_ ?_;rotate_left
 ·intro w';go_simp
  with_reducible rfl
 rotate_left
 ·simp only[Act.put,kA0,List.set_cons_zero,List.set_cons_succ,zAg,zAh];rfl
 refine zAu (i:=16) (N:=some 39) (v:=?_) (a':=?_) #[true,true,true,true,true,true,true,true,true,true,true,true,true,true,true,true,true,false] rfl rfl kCX (fun _ _ _ h=>h) (Or.inl ⟨kD9,?_⟩) ?_ ?_;rotate_left
 ·intro w';go_simp
  with_reducible rfl
 rotate_left
 ·simp only[Act.put,kA0,List.set_cons_zero,List.set_cons_succ,zAg,zAh];rfl
 refine one_ (i:=17) (N:=some 40) #[true,true,true,true,true,true,true,true,true,true,true,true,true,true,true,true,true,true] rfl rfl kCX kD0 (fun K hK=>?_);refine goes_ Tryz.func93 kCX rfl #[.pointer (some ⟨R,0,none⟩),.bool true] kD9 rfl rfl kDi ?_
 with_reducible refine (zDk R w5).mono ?_
 rintro e w6⟨rfl,hw6⟩;refine⟨_,rfl,?_⟩;subst hw6;refine hK.out _ _ ⟨(zA0 hb5 k0),(zA0 hb5 k1),(zA0 hb5 z1),(zA0 hb5 z2)⟩ (fun hHeld=>?_);clear hK K;refine zCe (a':=?_) ?_ ?_;rotate_left
 ·show Act.put _ (some 40) _=_;simp only[Act.put,kA0,List.set_cons_zero,List.set_cons_succ,zAg,zAh];rfl
 refine done_ kCX ?_;have M5:=M4d.below hb5;have x5:=zAb hb5 x4d;clear M4 M4d x4 x4d t4 t4d k0 k1 z1 z2 hb5 hne' hk' Hrc Hpk;have hnn:now<now+2+1:=kCW
 generalize now+2=n2 at *;obtain⟨a1,f1,-,-,lt⟩:=M5.st.rdr.cells;have K:=Took.next M5.st.rdr (kA3 _ _)
 have M6:=M5.go E hRw K hlt2;have x6:=K.blk x5 hXR;have hp3:=Hpk3.out _ M6.st.rdr;clear K;by_cases h3:t3.f0=3
 ·have hne3:(t3.f0==3)=true:=by rw[kAA];exact h3
  have hres:=Hres.out;rw[kAb h3] at hres;have Hr:=kA1 hres;have Hkd:=kA1 (Hkd3.out h3);have hl3:=Hlt3.out h3;clear hres Hres Hkd3 Hlt3 h3;go_wp2_with fail;refine hp3.mono ?_;rintro e w7 ⟨rfl,hb7⟩;have M7:=M6.below hb7;have x7:=zAb hb7 x6;have hk:=Hkd.out _ M7.st.rdr;clear hp3 hb7 M5 M6 x5 x6 a1 f1;go_wp2_with fail;refine hk.mono ?_;rintro e w8 ⟨rfl,k8⟩;have M8:=M7.go E hRw k8 hl3;have x8:=k8.blk x7 hXR;obtain⟨⟨c0,c1,c2,c3,c4,c5⟩,⟨y0,y1,y2,y3,y4,y5⟩,xl⟩:=zA9 x8;obtain⟨⟨b0,b1,b2,b3,b4,b5⟩,⟨f0,f1,f2,f3,f4,f5⟩,rl⟩:=zA9 M8.res;have M9:=M8.setX E hRw hXR hXw x8 3 (.string t3.f1);have hfin:=fin6 (.int .i64 0) (.string num) (.string t.f1) (.string t3.f1) (.int .i64 0) (.slice none 0 0) M9.res;have hdone:=M9.done hRw (Ex.leaf ⟨0,⟨num,t.f1⟩,t3.f1,0,[]⟩ rfl) (show now<n2+1+1 by omega) (.int .i64 0) (.string num) (.string t.f1) (.string t3.f1) (.int .i64 0) (.slice none 0 0);simp only[set6] at hfin hdone;have HF:=kA1 hfin;have HD:=kA1 hdone;have hd1:=kAq hXw;have hd2:=kB1 hXw;clear hfin hdone M9 hk k8 M7 x7;go_wp2;rw[← Hr.out];exact kAg (zAe Tryz.results278 _ _ w.heap.size 31 _ (0,0) _ rfl HF.out Tryz.underlying31 rfl zB6) rfl HD.out
 ·have hne3:(t3.f0==3)=false:=by rw[kAj];exact h3
  have hres:=Hres.out;rw[kAa h3] at hres;have Hr:=kA1 hres;clear hres Hres Hkd3 Hlt3 h3;go_wp2_with fail;refine hp3.mono ?_;rintro e w7 ⟨rfl,hb7⟩;have M7:=M6.below hb7;have x7:=zAb hb7 x6;obtain⟨⟨c0,c1,c2,c3,c4,c5⟩,⟨y0,y1,y2,y3,y4,y5⟩,xl⟩:=zA9 x7;obtain⟨⟨b0,b1,b2,b3,b4,b5⟩,⟨f0,f1,f2,f3,f4,f5⟩,rl⟩:=zA9 M7.res;have hfin:=fin6 (.int .i64 0) (.string num) (.string t.f1) (.string ⟨#[]⟩) (.int .i64 0) (.slice none 0 0) M7.res;have hdone:=M7.done hRw (Ex.leaf ⟨0,⟨num,t.f1⟩,⟨#[]⟩,0,[]⟩ rfl) hnn (.int .i64 0) (.string num) (.string t.f1) (.string ⟨#[]⟩) (.int .i64 0) (.slice none 0 0);simp only[set6] at hfin hdone;have HF:=kA1 hfin;have HD:=kA1 hdone;clear hfin hdone hp3 hb7 M5 M6 M7 x5 x6 x7;go_wp2;rw[← Hr.out];exact kAg (zAe Tryz.results278 _ _ w.heap.size 31 _ (0,0) _ rfl HF.out Tryz.underlying31 rfl zB6) rfl HD.out
end Go.Proofs.YtjaobihcdkjmbaaGreatDoor
end
section
namespace Go.Proofs.YtjaobihcdkjmbaaGreatDoor
open Go.RowKit Go.Proofs.YtjaobihcdkjmbaaGreatDoorW.PrintWords Go.Proofs.YtjaobihcdkjmbaaGreatDoor.PReadTokens
theorem lit_any (W0:World) (R B:Nat) (ts:List S47) (en now:Nat) (w:World) (E:Env W0 R B ts) (hS:Start W0) (h:St W0 R B ts en now w) (h2:(tokP ts en now).f0=2) :
  Calls Tryz.prog 278 #[.pointer (some ⟨R,0,none⟩)] w (zAi w R ts en now (litS ts en chkR now)):=by
 unfold litS
 cases hbar:sk ts en (now+1) ⟨#[124]⟩ with
 | false =>
  rw[kAa kD0];exact lit_plain W0 R B ts en now w E h h2 hbar
 | true =>
  rw[kAb rfl];by_cases hk:(tokP ts en (now+2)).f0=2
  ·by_cases hne:(tokP ts en (now+2)).f1.toList=[49]
   ·rw[kAa (fun h=>h.2.1 hne)];exact lit_badC W0 R B ts en now w E hS h h2 hbar hk hne
   ·by_cases hc:chkR ⟨(tokP ts en now).f1,(tokP ts en (now+2)).f1⟩=0
    ·rw[kAb ⟨hk,hne,hc⟩];exact lit_quot W0 R B ts en now w E hS h h2 hbar hk hne hc
    ·rw[kAa (fun h=>hc h.2.2)];exact lit_badD W0 R B ts en now w E hS h h2 hbar hk hne hc
  ·rw[kAa (fun h=>hk h.1)];exact lit_badB W0 R B ts en now w E hS h h2 hbar hk
theorem pars_all (W0:World) (R B:Nat) (ts:List S47) (en:Nat) (E:Env W0 R B ts) (hS:Start W0) :
  ∀k m,ts.length<m+k→Pars W0 R B ts en 134 (zD8 ts en chkR k) m:=by
 intro k
 induction k with
 | zero=>intro m hm now w hmn h;have:=h.pos;omega
 | succ k ih =>
  intro m hm;have hex:=ih (m+1) kCW;have hatom:Pars W0 R B ts en 252 (atomS ts en chkR (zD8 ts en chkR k)) m:=atom_walk W0 R B ts en chkR _ m E (fun now w hmn h h2=>lit_any W0 R B ts en now w E hS h h2) hex;have helem:Pars W0 R B ts en 217 (zCl ts en chkR (zD8 ts en chkR k)) m:=fun now w hmn h=>zFn W0 R B ts en chkR _ m now w E h hmn hatom hex
  have hpow:Pars W0 R B ts en 180 (zCz ts en chkR (zD8 ts en chkR k)) m:=fun now w hmn h=>power_walk W0 R B ts en chkR _ m now w E h hmn helem
  have hprod:Pars W0 R B ts en 160 (zAZ ts en chkR (zD8 ts en chkR k)) m:=fun now w hmn h=>zFm W0 R B ts en chkR _ m now w E h hmn hpow
  have hsums:Pars W0 R B ts en 135 (zD1 ts en chkR (zD8 ts en chkR k)) m:=sums_walk W0 R B ts en chkR (zD8 ts en chkR k) m E hprod;intro now w hmn h;show Calls _ _ _ _ (zAi w R ts en now (exprB ts en chkR (zD8 ts en chkR k) now));unfold exprB
  cases h1:sk ts en now ⟨#[108,101,116]⟩ with
  | true =>
   rw[kAb rfl];exact expr_let W0 R B ts en _ (m+1) now w E h kCW hex h1
  | false =>
   rw[kAa kD0]
   cases h2:sk ts en now ⟨#[105,102]⟩ with
   | true =>
    rw[kAb rfl];exact expr_if W0 R B ts en chkR _ (m+1) now w E h kCW hex (fun now w hm h=>hsums now w kCW h) h1 h2
   | false =>
    rw[kAa kD0]
    cases h3:sk ts en now ⟨#[116,97,98]⟩ with
    | true =>
     rw[kAb rfl];exact expr_tab W0 R B ts en now w E h h1 h2 h3 _ (fun w' h'=>loop_walk W0 R B ts en _ 10 (m+1) (now+1) w' E h' kCW hex) |>.mono (fun _ _ h=>h)
    | false =>
     rw[kAa kD0]
     cases h4:sk ts en now ⟨#[115,117,109]⟩ with
     | true =>
      rw[kAb rfl];exact expr_sum W0 R B ts en now w E h h1 h2 h3 h4 _ (fun w' h'=>loop_walk W0 R B ts en _ 11 (m+1) (now+1) w' E h' kCW hex)
     | false =>
      rw[kAa kD0];exact expr_plain W0 R B ts en now w E h h1 h2 h3 h4 _ (fun w' h'=>hsums now w' hmn h')
theorem zE3 {s:ByteArray} {b:Nat} (h:b<s.size):zAn s b=s[b] :: zAn s (b+1):=by
 unfold zAn;rw[kAn (show b<s.data.toList.length from h)];rfl
theorem tok_size (s:ByteArray) (b:Nat):(zAE s b).1.f1.size≤s.size:=by
 unfold zAE;by_cases h:b<s.size
 ·rw[kCo h]
  repeat' split
  all_goals first | (rw[kAy];omega) | exact kAI _ | (show 1≤s.size;omega)
 ·rw[dif_neg h];exact kAI _
theorem toksF_all (P:S47→Prop) (s:ByteArray) (hP:∀b,b<s.size→P (zAE s b).1):∀(n a:Nat),∀t∈zBV n s a,P t:=by
 intro n
 induction n with
 | zero=>intro a t ht;cases ht
 | succ n ih =>
  intro a t ht;unfold zBV at ht;by_cases hb:zAl s a<s.size
  ·rw[kAb hb] at ht;by_cases hk:(zAE s (zAl s a)).1.f0=-1
   ·rw[kAb hk,kBA] at ht;rw[ht];exact hP _ hb
   ·rw[kAa hk,kAU] at ht;rcases ht with rfl | ht
    ·exact hP _ hb
    ·exact ih _ t ht
  ·rw[kAa hb] at ht;cases ht
theorem all_small (s:ByteArray):∀t∈zA6 s,t.f1.size≤s.size:=toksF_all _ s (fun b _=>tok_size s b) _ _
theorem readT_all (s:ByteArray) (h:s.size≤2000):ReadT chkR s:=by
 have hl:=zD2 (s.size+1) s 0;have hl2:(zA6 s).length≤100000:=by unfold zA6;omega
 refine⟨h,hl2,fun t ht=>kAz (all_small s t ht) h,fun W0 R B E hS=>?_⟩;exact pars_all W0 R B (zA6 s) s.size E hS _ 0 kCW
theorem st_at (ts:List S47) (en i:Nat) (h:i<ts.length):stOf ts en i=kt ts[i]:=by
 unfold stOf tokP;rw[kCo h]
theorem st_end (ts:List S47) (en:Nat):stOf ts en ts.length=(-1,⟨#[]⟩):=by
 unfold stOf tokP;rw[dif_neg kCW]
theorem tw_same {f:UInt8→Bool} {r r':List UInt8} (hr:r'=[]∨∃t,r'=32 :: t):∀(x:List UInt8),(((x++r).takeWhile f).length<x.length∨(((x++r).takeWhile f).length≤x.length∧f 32=false))→(x++r').takeWhile f=(x++r).takeWhile f:=by
 intro x
 induction x with
 | nil =>
  intro h;rcases h with h | ⟨h,hf⟩
  ·exact absurd h (Nat.not_lt_zero _)
  ·rw[List.nil_append] at h;rw[List.nil_append,List.nil_append,kBn (Nat.le_zero.1 h)];rcases hr with rfl | ⟨t,rfl⟩
   ·rfl
   ·rw[kAQ,hf];rfl
 | cons c x ih =>
  intro h;rw[List.cons_append,kAQ] at h;rw[List.cons_append,List.cons_append,kAQ,kAQ];by_cases hc:f c=true
  ·rw[kAb hc,List.length_cons,List.length_cons] at h;rw[kAb hc,kAb hc];rcases h with h | ⟨h,hf⟩
   ·rw[ih (.inl kCW)]
   ·rw[ih (.inr ⟨kCW,hf⟩)]
  ·rw[kAa hc,kAa hc]
def Keep (s s':ByteArray) (p:Nat):Prop:=∃x r r',s.data.toList=x++r∧s'.data.toList=x++r'∧x.length=p∧(r'=[]∨∃t,r'=32 :: t)
theorem Keep.size {s s':ByteArray} {p:Nat} (h:Keep s s' p):p≤s.size∧p≤s'.size:=by
 obtain⟨x,r,r',h1,h2,h3,_⟩:=h;have e1:s.data.toList.length=s.size:=rfl;have e2:s'.data.toList.length=s'.size:=rfl;rw[h1,kAw] at e1;rw[h2,kAw] at e2;omega
theorem Keep.bytes {s s':ByteArray} {p:Nat} (h:Keep s s' p) {b:Nat} (hb:b≤p):∃y r r',zAn s b=y++r∧zAn s' b=y++r'∧y.length=p-b∧(r'=[]∨∃t,r'=32 :: t):=by
 obtain⟨x,r,r',h1,h2,h3,h4⟩:=h;refine⟨x.drop b,r,r',?_,?_,by rw[kAl,h3],h4⟩
 ·unfold zAn;rw[h1,kC9 kCW]
 ·unfold zAn;rw[h2,kC9 kCW]
theorem Keep.run {s s':ByteArray} {p:Nat} (h:Keep s s' p) {f:UInt8→Bool} {b:Nat} (hb:b≤p) (hn:b+((zAn s b).takeWhile f).length<p∨(b+((zAn s b).takeWhile f).length≤p∧f 32=false)):(zAn s' b).takeWhile f=(zAn s b).takeWhile f:=by
 obtain⟨y,r,r',h1,h2,h3,h4⟩:=h.bytes hb;rw[h1] at hn;rw[h1,h2];rcases hn with hn | ⟨hn,hf⟩
 ·exact tw_same h4 y (.inl kCW)
 ·exact tw_same h4 y (.inr ⟨kCW,hf⟩)
theorem Keep.ext {s s':ByteArray} {p:Nat} (h:Keep s s' p) {b c:Nat} (hb:b≤p) (hc:c≤p):s'.extract b c=s.extract b c:=by
 obtain⟨y,r,r',h1,h2,h3,h4⟩:=h.bytes hb;apply ba_ext;rw[kAS,kAS];unfold zAn at h1 h2;rw[h1,h2,kBO kCW,kBO kCW]
theorem Keep.byte {s s':ByteArray} {p:Nat} (h:Keep s s' p) {b:Nat} (hb:b<p) (h1:b<s.size) (h2:b<s'.size):s'[b]'h2=s[b]'h1:=by
 obtain⟨y,r,r',e1,e2,e3,_⟩:=h.bytes (kAN hb);rw[zE3 h1] at e1;rw[zE3 h2] at e2
 cases y with
 | nil=>simp at e3;omega
 | cons c y =>
  rw[List.cons_append] at e1 e2;injection e1 with e1 _;injection e2 with e2 _;rw[e1,e2]
theorem ok_blank {ks:List Int} (h:(1:Int) ∉ ks):okC ks 32=false:=by
 unfold okC;have:srt (32:UInt8).toNat=1:=kD0
 rw[this];simp[h]
theorem tok_keep {s s':ByteArray} {p b:Nat} (h:Keep s s' p) (hb:b<p) (hk:(zAE s b).1.f0≠-1) (he:(zAE s b).2≤p):zAE s' b=zAE s b:=by
 have hs:=h.size;have hb1:b<s.size:=kCW
 have hb2:b<s'.size:=kCW
 have hbyte:=h.byte hb hb1 hb2;unfold zAE at hk he ⊢;rw[kCo hb1] at hk he ⊢;rw[kCo hb2,hbyte];by_cases c2:srt (s[b]'hb1).toNat=2
 ·rw[kAb c2] at he hk ⊢;rw[kAb c2];have e:zAS s' b=zAS s b:=by
   unfold zAS zBa;rw[h.run (kAN hb) (.inr ⟨he,ok_blank kD0⟩)]
  rw[e,h.ext (kAN hb) he]
 ·rw[kAa c2] at he hk ⊢;rw[kAa c2];by_cases c4:srt (s[b]'hb1).toNat=4
  ·rw[kAb c4] at he hk ⊢;rw[kAb c4];have e:zBi s' b=zBi s b:=by
    unfold zBi zBa;rw[h.run (kAN hb) (.inr ⟨he,ok_blank kD0⟩)]
   rw[e,h.ext (kAN hb) he]
  ·rw[kAa c4] at he hk ⊢;rw[kAa c4];by_cases c5:srt (s[b]'hb1).toNat=5
   ·rw[kAb c5];rw[kAb c5]
   ·rw[kAa c5] at he hk ⊢;rw[kAa c5];by_cases c6:(s[b]'hb1).toNat=123∧zAx s b<s.size∧zCB (s.extract (b+1) (zAx s b))=true
    ·rw[kAb c6] at he hk ⊢;simp only at he;have e:zAx s' b=zAx s b:=by
      unfold zAx brk;rw[h.run kCW (.inl (by unfold zAx brk at he;omega))]
     have hx:s'.extract (b+1) (zAx s b)=s.extract (b+1) (zAx s b):=h.ext kCW kCW;rw[e,hx,kAb ⟨c6.1,kCW,c6.2.2⟩]
    ·rw[kAa c6] at hk;exact absurd rfl hk
def zCJ (s:ByteArray):Nat→Nat→Nat
 | 0,a=>a
 | j+1,a=>zCJ s j (zAE s (zAl s a)).2
theorem skip_keep {s s':ByteArray} {p a:Nat} (h:Keep s s' p) (hb:zAl s a<p):zAl s' a=zAl s a:=by
 have ha:a≤zAl s a:=kCd _ _;unfold zAl zBa at *;rw[h.run kCW (.inl hb)]
theorem good_step {s:ByteArray} {a:Nat} (ha:a≤s.size) {j:Nat} (hj:j+1≤(Tks s a).length) (hg:∀t∈(Tks s a).take (j+1),t.f0≠-1) :
  zAl s a<s.size∧(zAE s (zAl s a)).1.f0≠-1∧Tks s a=(zAE s (zAl s a)).1 :: Tks s (zAE s (zAl s a)).2∧j≤(Tks s (zAE s (zAl s a)).2).length∧(∀t∈(Tks s (zAE s (zAl s a)).2).take j,t.f0≠-1) ∧
  zAl s a<(zAE s (zAl s a)).2∧(zAE s (zAl s a)).2≤s.size:=by
 rw[zE4 s a ha] at hj hg ⊢;by_cases hb:zAl s a<s.size
 ·rw[kAb hb] at hj hg ⊢;have hk:(zAE s (zAl s a)).1.f0≠-1:=by
   intro hk;rw[kAb hk] at hg;exact hg (zAE s (zAl s a)).1 kCY hk
  rw[kAa hk] at hj hg ⊢;have hm:=zDg s _ hb hk;refine⟨hb,hk,rfl,by simpa using hj,fun t ht=>hg t ?_,hm.1,hm.2⟩;rw[List.take_succ_cons];exact kB4 _ ht
 ·rw[kAa hb] at hj;simp at hj
theorem end_ge {s:ByteArray}:∀(j a:Nat),a≤s.size→j≤(Tks s a).length→(∀t∈(Tks s a).take j,t.f0≠-1)→a≤zCJ s j a∧zCJ s j a≤s.size:=by
 intro j
 induction j with
 | zero=>intro a ha _ _;exact⟨kA2 _,ha⟩
 | succ j ih =>
  intro a ha hj hg;obtain⟨hb,hk,_,hj2,hg2,hm1,hm2⟩:=good_step ha hj hg;obtain⟨i1,i2⟩:=ih _ hm2 hj2 hg2;have hsk:a≤zAl s a:=kCd _ _;exact⟨by unfold zCJ;omega,i2⟩
theorem zFI {s s':ByteArray} {p:Nat} (h:Keep s s' p):∀(j a:Nat),a≤s.size→a≤s'.size→j≤(Tks s a).length→(∀t∈(Tks s a).take j,t.f0≠-1)→zCJ s j a≤p→Tks s' a=(Tks s a).take j++Tks s' (zCJ s j a):=by
 intro j
 induction j with
 | zero=>intro a _ _ _ _ _;simp[zCJ]
 | succ j ih =>
  intro a ha ha' hj hg he;obtain⟨hb,hk,hT,hj2,hg2,hm1,hm2⟩:=good_step ha hj hg;have hi:=end_ge j _ hm2 hj2 hg2;unfold zCJ at he;have hs:=h.size;have hsk:=skip_keep (a:=a) h kCW;have ht:=tok_keep (b:=zAl s a) h kCW hk kCW;rw[zE4 s' a ha',hsk,kAb kCW,ht,kAa hk,ih _ hm2 kCW hj2 hg2 he,hT];rfl
theorem place_at {s:ByteArray}:∀(j a:Nat),a≤s.size→j≤(Tks s a).length→(∀t∈(Tks s a).take j,t.f0≠-1)→Tks s a=(Tks s a).take j++Tks s (zCJ s j a):=fun j a ha hj hg=>by
 have hk:Keep s s s.size:=⟨s.data.toList,[],[],kCY,kCY,rfl,.inl rfl⟩;exact zFI hk j a ha ha hj hg (end_ge j a ha hj hg).2
noncomputable def parI (s:ByteArray):RI S31:=exprI (stOf (zA6 s) s.size) chkR ((zA6 s).length+1) ((zA6 s).length+1) 0
theorem parI_of (s:ByteArray):zBK chkR s=mapE (zA6 s) s.size (parI s):=by
 unfold zBK parI;rw[exprI_of]
def Stop (s:ByteArray) (j:Nat):Prop:=parI s=.error j∨∃x,parI s=.ok (x,j)∧zAm x≤j
def zCA (s:ByteArray) (j:Nat):Prop:=j≤(zA6 s).length∧∀t∈(zA6 s).take j,t.f0≠-1
theorem stop_all (s:ByteArray):∃j,Stop s j∧zCA s j:=by
 have h:=expr_fed (stOf (zA6 s) s.size) chkR ((zA6 s).length+1) ((zA6 s).length+1) 0;have key:∀j,Gd (stOf (zA6 s) s.size) 0 j→zCA s j:=fun j hj=>by
  have hle:j≤(zA6 s).length:=by
   by_cases hle:j≤(zA6 s).length
   ·exact hle
   ·exact absurd (by rw[st_end]) (hj (zA6 s).length kCW kCW)
  refine⟨hle,fun t ht=>?_⟩;obtain⟨i,hi,rfl⟩:=List.mem_iff_getElem.1 ht;rw[kAe] at hi;have h2:=hj i kCW kCW;rw[st_at _ _ i kCW] at h2;rw[kCH];exact h2
 unfold Stop parI
 cases hr:exprI (stOf (zA6 s) s.size) chkR ((zA6 s).length+1) ((zA6 s).length+1) 0 with
 | error j =>
  rw[hr] at h;exact⟨j,.inl rfl,key j h.2⟩
 | ok p =>
  rw[hr] at h;exact⟨p.2,.inr ⟨p.1,rfl,by have:=h.2.2;omega⟩,key p.2 h.2.1⟩
def plc (s:ByteArray) (j:Nat):Nat:=zAl s (zCJ s j 0)
theorem tks_split {s:ByteArray} {j:Nat} (h:zCA s j):zA6 s=(zA6 s).take j++Tks s (zCJ s j 0):=place_at j 0 (kAI _) h.1 h.2
theorem end_le {s:ByteArray} {j:Nat} (h:zCA s j):zCJ s j 0≤s.size:=(end_ge j 0 (kAI _) h.1 h.2).2
theorem plc_le {s:ByteArray} {j:Nat} (h:zCA s j):plc s j≤s.size:=zDF _ _ _ (end_le h)
theorem zG7 (s:ByteArray) (j:Nat):zCJ s j 0≤plc s j:=kCd _ _
theorem rest_at {s:ByteArray} {j:Nat} (h:zCA s j):Tks s (zCJ s j 0)=(zA6 s).drop j:=by
 have h1:=tks_split h;have h2:(zA6 s).take j++Tks s (zCJ s j 0)=(zA6 s).take j++(zA6 s).drop j:=by rw[← h1,kBa]
 exact List.append_cancel_left h2
theorem plc_end {s:ByteArray} {j:Nat} (h:zCA s j) (hj:j=(zA6 s).length):plc s j=s.size:=by
 have h1:=rest_at h;rw[kAZ kCW,zE4 s _ (end_le h)] at h1;have h2:=plc_le h;unfold plc at *;by_cases hb:zAl s (zCJ s j 0)<s.size
 ·rw[kAb hb] at h1;split at h1<;>cases h1
 ·omega
theorem plc_tok {s:ByteArray} {j:Nat} (h:zCA s j) (hj:j<(zA6 s).length):plc s j<s.size∧(zA6 s)[j]=(zAE s (plc s j)).1:=by
 have h1:=rest_at h;rw[kAn hj,zE4 s _ (end_le h)] at h1;unfold plc;by_cases hb:zAl s (zCJ s j 0)<s.size
 ·rw[kAb hb] at h1;refine⟨hb,?_⟩;split at h1
  ·injection h1 with h1 _;exact h1.symm
  ·injection h1 with h1 _;exact h1.symm
 ·rw[kAa hb] at h1;cases h1
theorem tok_place (s:ByteArray) (b:Nat):(zAE s b).1.f2=b:=by
 unfold zAE
 repeat' split
 all_goals rfl
theorem at_plc {s:ByteArray} {j:Nat} (h:zCA s j):atP (zA6 s) s.size j=plc s j:=by
 unfold atP tokP;by_cases hj:j<(zA6 s).length
 ·rw[kCo hj,(plc_tok h hj).2,tok_place]
 ·rw[dif_neg hj,plc_end h kDF]
theorem zFz {s:ByteArray} {j:Nat} (h:zCA s j) (hs:Stop s j):zBk chkR s=plc s j∨(zBk chkR s=-1∧∃x,zBK chkR s=.ok (x,(zA6 s).length)∧zAm x≤j∧j=(zA6 s).length):=by
 unfold zBk;rcases hs with hs | ⟨x,hs,hx⟩
 ·rw[parI_of,hs];exact .inl (at_plc h)
 ·rw[parI_of,hs];show (if j=(zA6 s).length then (-1:Int) else (tokP (zA6 s) s.size j).f2)=_∨_;by_cases hj:j=(zA6 s).length
  ·rw[kAb hj];exact .inr ⟨by show (if j=(zA6 s).length then (-1:Int) else (tokP (zA6 s) s.size j).f2)=_;rw[kAb hj],x,by rw[← hj];rfl,hx,hj⟩
  ·rw[kAa hj];exact .inl (at_plc h)
theorem plc_small (s:ByteArray) (h:s.size≤2000):zBk chkR s<0→∃x,zBK chkR s=.ok (x,(zA6 s).length)∧zAm x≤4611686018427387904:=fun hp=>by
 obtain⟨j,h1,h2⟩:=stop_all s;rcases zFz h2 h1 with h3 | ⟨_,x,h3,h4,h5⟩
 ·omega
 ·have:=zD2 (s.size+1) s 0;have h6:=h2.1;have e:(zA6 s).length=(zBV (s.size+1) s 0).length:=rfl;exact⟨x,h3,kCW⟩
theorem read_any (s:ByteArray) (h:s.size≤2000) (w:World) (hS:Start w):Calls Tryz.prog 18 #[.string s] w (zBz chkR s w):=ReadExpr2 chkR s (readT_all s h) w hS (plc_small s h)
theorem stop_le {s:ByteArray} {j k:Nat} (h:Stop s j) (hk:High k (parI s)):k≤j:=by
 rcases h with h | ⟨x,h,_⟩<;>(rw[h] at hk;exact hk)
theorem stop_one {s:ByteArray} {j k:Nat} (h:Stop s j) (h':Stop s k):j=k:=by
 rcases h with h | ⟨x,h,_⟩<;>rcases h' with h' | ⟨x',h',_⟩<;>rw[h] at h'<;>cases h'<;>rfl
theorem tw_full {f:UInt8→Bool} {r:List UInt8}:∀y:List UInt8,y.length≤((y++r).takeWhile f).length→y.takeWhile f=y:=by
 intro y
 induction y with
 | nil=>intro _;rfl
 | cons c y ih =>
  intro h;rw[List.cons_append,kAQ] at h;rw[kAQ];by_cases hc:f c=true
  ·rw[kAb hc,List.length_cons,List.length_cons] at h;rw[kAb hc,ih kCW]
  ·rw[kAa hc] at h;simp at h
theorem loc_of {s s':ByteArray} {k:Nat} (h1:k≤(zA6 s).length) (h2:k≤(zA6 s').length) (h:(zA6 s).take k=(zA6 s').take k):Loc k (parI s) (parI s'):=by
 refine expr_loc chkR (fun n hn=>?_) kCW kCW _ _ 0 kCW kCW;rw[st_at _ _ n kCW,st_at _ _ n kCW];have h3:((zA6 s).take k)[n]?=((zA6 s').take k)[n]?:=by rw[h]
 rw[kC6 hn,kC6 hn,kAD kCW,kAD kCW] at h3;injection h3 with h3;rw[h3]
theorem head_place {s s':ByteArray} {j:Nat} (h:zCA s j) (hs:Stop s j) (hk:Keep s s' (plc s j)) (he:s'.size=plc s j):zBk chkR s'=plc s j∨zBk chkR s'=-1:=by
 have hT:=zFI hk j 0 (kAI _) (kAI _) h.1 h.2 (zG7 s j);have hnil:Tks s' (zCJ s j 0)=[]:=by
  rw[zE4 s' _ (by rw[he];exact zG7 s j),kAa];obtain⟨y,r,r',e1,e2,e3,_⟩:=hk.bytes (zG7 s j);have e4:r'=[]:=by
   have e5:=zDb s' (zCJ s j 0);rw[e2,kAw] at e5;exact kBn (by have:=zG7 s j;omega)
  have e6:y.takeWhile (okC [1])=y:=tw_full (r:=r) y (by
   rw[← e1,e3];unfold plc zAl zBa;omega)
  unfold zAl zBa;rw[e2,e4,kBV,e6,e3,he];have:=zG7 s j;omega
 rw[hnil,kBV] at hT;have hT':zA6 s'=(zA6 s).take j:=hT;have hlen:(zA6 s').length=j:=by rw[hT',kAe];have:=h.1;omega
 obtain⟨j',q1,q2⟩:=stop_all s';have hl:=loc_of (s:=s) (s':=s') (k:=j) h.1 kCW (by rw[hT',List.take_take,Nat.min_self]);have hj:j'=j:=by
  have q3:=q2.1;rcases hl with hl | ⟨_,hl⟩
  ·have hs':Stop s' j:=by unfold Stop at hs⊢;rw[← hl];exact hs
   exact stop_one q1 hs'
  ·have:=stop_le q1 hl;omega
 subst hj;have hp:plc s' j'=plc s j':=by rw[plc_end q2 hlen.symm,he]
 rcases zFz q2 q1 with h3 | ⟨h3,_⟩
 ·rw[hp] at h3;exact .inl h3
 ·exact .inr h3
theorem long_place {s s':ByteArray} {j:Nat} (h:zCA s (j+1)) (hs:Stop s j) (hk:Keep s s' (zCJ s (j+1) 0)):zBk chkR s'=plc s j:=by
 have hT:=zFI hk (j+1) 0 (kAI _) (kAI _) h.1 h.2 (kA2 _);have hT':zA6 s'=(zA6 s).take (j+1)++Tks s' (zCJ s (j+1) 0):=hT;have hl1:=h.1;have hlen:j+1≤(zA6 s').length:=by rw[hT',kAw,kAe];omega
 have htk:(zA6 s').take (j+1)=(zA6 s).take (j+1):=by rw[hT',kBO (by rw[kAe];omega),List.take_take,Nat.min_self]
 have hl:=loc_of (s:=s) (s':=s') (k:=j+1) h.1 hlen htk.symm;have hs':Stop s' j:=by
  rcases hl with hl | ⟨hl,_⟩
  ·unfold Stop at hs⊢;rw[← hl];exact hs
  ·have:=stop_le hs hl;omega
 have hg:zCA s j:=⟨kCW,fun t ht=>h.2 t (by rw[List.take_add_one];exact kC2 _ ht)⟩;have hg':zCA s' j:=⟨kCW,fun t ht=>h.2 t (by rw[← htk,List.take_add_one];exact kC2 _ ht)⟩;rcases zFz hg' hs' with h3 | ⟨_,_,_,_,h4⟩
 ·rw[h3,← at_plc hg',← at_plc hg];unfold atP tokP;rw[kCo kCW,kCo kCW];have h5:((zA6 s').take (j+1))[j]?=((zA6 s).take (j+1))[j]?:=by rw[htk]
  rw[kC6 kCW,kC6 kCW,kAD kCW,kAD kCW] at h5;injection h5 with h5;rw[h5]
 ·omega
theorem end_succ (s:ByteArray):∀(j a:Nat),zCJ s (j+1) a=(zAE s (zAl s (zCJ s j a))).2:=by
 intro j
 induction j with
 | zero=>intro a;rfl
 | succ j ih=>intro a;exact ih _
def tokN (t:S47):Nat:=t.f1.size+if t.f0=3 then 2 else 0
theorem tok_ends (s:ByteArray) (b:Nat) (hk:(zAE s b).1.f0≠-1):(zAE s b).2=b+tokN (zAE s b).1:=by
 unfold zAE at hk⊢;by_cases h:b<s.size
 ·rw[kCo h] at hk⊢;have hx:∀c,b≤c→c≤s.size→(s.extract b c).size=c-b:=fun c h1 h2=>by rw[kAy];omega
  by_cases h2:srt (s[b]'h).toNat=2
  ·rw[kAb h2];have hn:zDZ (s.extract b (zAS s b))≠3:=by
    unfold zDZ
    repeat' split
    all_goals decide
   unfold tokN;simp only;have h7:b≤zAS s b:=kCd _ _;rw[kAa hn,hx (zAS s b) h7 (zDF _ _ _ kCW)];omega
  ·rw[kAa h2] at hk⊢;by_cases h4:srt (s[b]'h).toNat=4
   ·rw[kAb h4];have hn:zF2 (s[b]'h).toNat (s.extract b (zBi s b))≠3:=by
     unfold zF2
     repeat' split
     all_goals decide
    unfold tokN;simp only;have h7:b≤zBi s b:=kCd _ _;rw[kAa hn,hx (zBi s b) h7 (zDF _ _ _ kCW)];omega
   ·rw[kAa h4] at hk⊢;by_cases h5:srt (s[b]'h).toNat=5
    ·rw[kAb h5];rfl
    ·rw[kAa h5] at hk⊢;by_cases h6:(s[b]'h).toNat=123∧zAx s b<s.size∧zCB (s.extract (b+1) (zAx s b))=true
     ·rw[kAb h6];unfold tokN;simp only;have h7:=h6.2.1;rw[kAb trivial,kAy];unfold zAx at *;omega
     ·rw[kAa h6] at hk;exact absurd rfl hk
 ·rw[dif_neg h] at hk;exact absurd rfl hk
theorem zE2 (s:ByteArray) (q i:Nat):zAn (s.extract q s.size) i=zAn s (q+i):=by
 unfold zAn;rw[kAS,kBp (by rw[kAl];exact kA2 _),kCr]
theorem tok_tail (s:ByteArray) (q:Nat) (hq:q<s.size):(zAE (s.extract q s.size) 0).1.f0=(zAE s q).1.f0∧(zAE (s.extract q s.size) 0).1.f1=(zAE s q).1.f1:=by
 have hsz:(s.extract q s.size).size=s.size-q:=kDC
 have h0:0<(s.extract q s.size).size:=kCW
 have hb:(s.extract q s.size)[0]'h0=s[q]'hq:=by
  have h1:=zE3 h0;rw[zE2,Nat.add_zero,zE3 hq] at h1;injection h1 with h1 _;exact h1.symm
 have hr:∀ks,zBa ks (zAn (s.extract q s.size) 0)=zBa ks (zAn s q):=fun ks=>by rw[zE2,Nat.add_zero]
 have hx:∀a c,(s.extract q s.size).extract a c=s.extract (q+a) (q+c)∨s.size<q+c:=fun a c=>by
  by_cases h:q+c≤s.size
  ·left;apply ba_ext;have h1:((s.extract q s.size).extract a c).data.toList=(zAn (s.extract q s.size) a).take (c-a):=kAS _ _ _;rw[h1,zE2,kAS,show q+c-(q+a)=c-a by omega];rfl
  ·right;omega
 have hcl:zAx (s.extract q s.size) 0+q=zAx s q:=by
  unfold zAx;rw[zE2,show q+(0+1)=q+1 by omega];omega
 unfold zAE;rw[kCo h0,kCo hq,hb];have e1:zAS (s.extract q s.size) 0+q=zAS s q:=by unfold zAS;rw[hr];omega
 have e2:zBi (s.extract q s.size) 0+q=zBi s q:=by unfold zBi;rw[hr];omega
 have l1:zAS s q≤s.size:=zDF _ _ _ kCW;have l2:zBi s q≤s.size:=zDF _ _ _ kCW;have x1:(s.extract q s.size).extract 0 (zAS (s.extract q s.size) 0)=s.extract q (zAS s q):=by
  rcases hx 0 (zAS (s.extract q s.size) 0) with h | h
  ·rw[h,show q+zAS (s.extract q s.size) 0=zAS s q by omega];rfl
  ·omega
 have x2:(s.extract q s.size).extract 0 (zBi (s.extract q s.size) 0)=s.extract q (zBi s q):=by
  rcases hx 0 (zBi (s.extract q s.size) 0) with h | h
  ·rw[h,show q+zBi (s.extract q s.size) 0=zBi s q by omega];rfl
  ·omega
 rw[x1,x2];by_cases h2:srt (s[q]'hq).toNat=2
 ·rw[kAb h2,kAb h2];exact⟨rfl,rfl⟩
 ·rw[kAa h2,kAa h2];by_cases h4:srt (s[q]'hq).toNat=4
  ·rw[kAb h4,kAb h4];exact⟨rfl,rfl⟩
  ·rw[kAa h4,kAa h4];by_cases h5:srt (s[q]'hq).toNat=5
   ·rw[kAb h5,kAb h5];exact⟨rfl,rfl⟩
   ·rw[kAa h5,kAa h5];by_cases hc:zAx s q<s.size
    ·have x3:(s.extract q s.size).extract (0+1) (zAx (s.extract q s.size) 0)=s.extract (q+1) (zAx s q):=by
      rcases hx (0+1) (zAx (s.extract q s.size) 0) with h | h
      ·rw[h,show q+zAx (s.extract q s.size) 0=zAx s q by omega]
      ·omega
     rw[x3];by_cases h6:(s[q]'hq).toNat=123∧zAx s q<s.size∧zCB (s.extract (q+1) (zAx s q))=true
     ·rw[kAb h6,kAb ⟨h6.1,kCW,h6.2.2⟩];exact⟨rfl,rfl⟩
     ·rw[kAa h6,kAa (fun h=>h6 ⟨h.1,hc,h.2.2⟩)];exact⟨rfl,rfl⟩
    ·rw[kAa (fun h=>by have:=h.2.1;omega),kAa (fun h=>hc h.2.1)];exact⟨rfl,rfl⟩
theorem ite_head {c d:Prop} [Decidable c] [Decidable d] {x t:S47} {r l:List S47} (h:(if c then (if d then [x] else x :: r) else [])=t :: l):t=x:=by
 by_cases hc:c
 ·rw[kAb hc] at h;by_cases hd:d
  ·rw[kAb hd] at h;cases h;rfl
  ·rw[kAa hd] at h;cases h;rfl
 ·rw[kAa hc] at h;cases h
theorem tail_good {s:ByteArray} {j:Nat} (h:zCA s j) (hq:plc s j<s.size) {t:S47} {l:List S47} (hT:zA6 (s.extract (plc s j) s.size)=t :: l) (ht:t.f0≠-1) (h0:t.f2=0) :
  zCA s (j+1)∧zCJ s (j+1) 0=plc s j+tokN t:=by
 have hj:j<(zA6 s).length:=by
  by_cases hj:j<(zA6 s).length
  ·exact hj
  ·have:=plc_end h kDF;omega
 have htok:=(plc_tok h hj).2;have h1:Tks (s.extract (plc s j) s.size) 0=t :: l:=hT;rw[zE4 _ 0 (kAI _)] at h1;have h2:t=(zAE (s.extract (plc s j) s.size) (zAl (s.extract (plc s j) s.size) 0)).1:=ite_head h1;have h3:zAl (s.extract (plc s j) s.size) 0=0:=by
  rw[h2,tok_place] at h0;omega
 rw[h3] at h2;obtain⟨t1,t2⟩:=tok_tail s (plc s j) hq;rw[← h2] at t1 t2;have hk:(zAE s (plc s j)).1.f0≠-1:=by rw[← t1];exact ht
 refine⟨⟨hj,fun u hu=>?_⟩,?_⟩
 ·rw[zCK _ j hj,kC4,kBA] at hu;rcases hu with hu | rfl
  ·exact h.2 u hu
  ·rw[htok];exact hk
 ·rw[end_succ];show (zAE s (plc s j)).2=_;rw[tok_ends _ _ hk];unfold tokN;rw[← t1,← t2]
end Go.Proofs.YtjaobihcdkjmbaaGreatDoor
end
