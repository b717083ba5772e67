/- The law ReadBlanks answers true for every argument; a part of its proof. -/
import Derived.Test.YtjaobihcdkjmbaaGreatDoorBa
import Derived.Test.YtjaobihcdkjmbaaGreatDoorBb
import Derived.Test.YtjaobihcdkjmbaaGreatDoorB0
import Derived.Test.YtjaobihcdkjmbaaGreatDoorB1
import Derived.Test.YtjaobihcdkjmbaaGreatDoorB7
import Derived.Test.YtjaobihcdkjmbaaGreatDoorB11
import Derived.Test.YtjaobihcdkjmbaaGreatDoorB19
import Derived.Test.YtjaobihcdkjmbaaGreatDoorB22
import Derived.Test.YtjaobihcdkjmbaaGreatDoorB23
import Derived.Test.YtjaobihcdkjmbaaGreatDoorB28
import Derived.Test.YtjaobihcdkjmbaaGreatDoorB29
import Derived.Test.YtjaobihcdkjmbaaGreatDoorB31
import Derived.Test.YtjaobihcdkjmbaaGreatDoorB34
import Derived.Test.YtjaobihcdkjmbaaGreatDoorB39
import Derived.Test.YtjaobihcdkjmbaaGreatDoorB40
import Derived.Test.YtjaobihcdkjmbaaGreatDoorB42
set_option linter.unusedVariables false
set_option linter.unusedSimpArgs false
namespace Go.Proofs.YtjaobihcdkjmbaaGreatDoor.PReadTokens
end Go.Proofs.YtjaobihcdkjmbaaGreatDoor.PReadTokens
namespace Go.Proofs.YtjaobihcdkjmbaaGreatDoorW.PrintLast
end Go.Proofs.YtjaobihcdkjmbaaGreatDoorW.PrintLast
namespace Go.Proofs.YtjaobihcdkjmbaaGreatDoorW.PrintWords
end Go.Proofs.YtjaobihcdkjmbaaGreatDoorW.PrintWords
set_option maxRecDepth 100000
set_option maxHeartbeats 4000000
section
namespace Go.Proofs.YtjaobihcdkjmbaaGreatDoor
open Go.RowKit Go.Proofs.YtjaobihcdkjmbaaGreatDoorW.PrintWords Go.Proofs.YtjaobihcdkjmbaaGreatDoorW.PrintLast Go.Proofs.YtjaobihcdkjmbaaGreatDoor.PReadTokens
theorem lit_badB (W0:World) (R B:Nat) (ts:List S47) (en now:Nat) (w:World) (E:Env W0 R B ts) (hS:Start W0) (h:St W0 R B ts en now w) (h2:(tokP ts en now).f0=2) (hbar:sk ts en (now+1) ⟨#[124]⟩=true)
  (hk:(tokP ts en (now+2)).f0≠2) :
  Calls Tryz.prog 278 #[.pointer (some ⟨R,0,none⟩)] w (zAj w R ts en now (.error (atP ts en (now+2)))):=by
 have hlt:=zBG h2 kCW;have hlt1:=zAs hbar;have few:=E.few;have hRw:=h.rdr.lt;have M0:=Mid.start h;have hkd:=zCz R ts now en 2 (w.alloc zO) M0.st.rdr hlt few kDo;have hsk:=kA1 (fun w' hr=>zAE R ts (now+1) en ⟨#[124]⟩ w' hr few hbar);have hpk:=fun w' (hr:Rdr w' R ts (now+2) en)=>zAZ R ts (now+2) en w' hr kCT
 have hmf:=fun w' (hr:Rdr w' R ts (now+2) en)=>zBD R ts (now+2) en w' hr kCT
 have hrc:=fun (w':World) (hb:Below W0.heap.size W0 w')=>zBd (tokP ts en now).f1 (tokP ts en (now+2)).f1 (kAB (zBq (en:=en) (now:=now) E.small) kCT) (kAB (zBq (en:=en) (now:=now+2) E.small) kCT) w' (hS.below hb)
 unfold tokV at hpk;unfold zAk at hmf;have hk':((tokP ts en (now+2)).f0==2)=false:=kAd.2 hk;generalize hat:atP ts en (now+2)=at_;unfold atP at hat;generalize (tokP ts en now).f1=num at *;generalize tokP ts en (now+2)=t at *;have Hpk:=kA1 hpk;have Hrc:=kA1 hrc;rw[hat] at hmf;have Hmf:=kA1 hmf;clear h2 hbar h hpk hrc hmf hat hk;go_enter Tryz.func278,Tryz.ntmps278;go_wp2_with fail;refine hkd.mono ?_;rintro e w1 ⟨rfl,hk1⟩;have M1:=M0.go E hRw hk1 hlt;have M1x:=M1.alloc (.cells #[.int .i64 0,.string num,.string ⟨#[49]⟩,.string ⟨#[]⟩,.int .i64 0,.slice none 0 0] 31);have xb:=zA4 w1 (.cells #[.int .i64 0,.string num,.string ⟨#[49]⟩,.string ⟨#[]⟩,.int .i64 0,.slice none 0 0] 31);have hXR:w1.heap.size≠R:=kAq hk1.rdr.lt;have hXw:w.heap.size<w1.heap.size:=M1.lt;have hs:=hsk.out _ M1x.st.rdr;clear hkd hk1 M0 M1;go_wp2_with fail;refine hs.mono ?_;rintro e w2 ⟨rfl,hk2⟩;have M2:=M1x.go E hRw hk2 hlt1;have x2:=hk2.blk xb hXR;generalize w1.heap.size=X at *;have hp:=Hpk.out w2 M2.st.rdr;clear hs hk2 M1x xb hsk;go_wp2_with fail;refine hp.mono ?_;rintro e w3 ⟨rfl,hb3⟩;have M3:=M2.below hb3;have x3:=zA9 hb3 x2;have hXl:=zA5 x3;clear hp hb3 M2 x2;have M4:=(M3.setX E hRw hXR hXw x3 2 (.string t.f1)).alloc (.cells #[.int .i64 t.f0,.string t.f1,.int .i64 t.f2] 47);have x4:((w3.setCell ⟨X,2,none⟩ (.string t.f1)).alloc (.cells #[.int .i64 t.f0,.string t.f1,.int .i64 t.f2] 47)).heap[X]?=some (.cells #[.int .i64 0,.string num,.string t.f1,.string ⟨#[]⟩,.int .i64 0,.slice none 0 0] 31 (0,0)):=(kA4 _ _ _ kDA).trans (zA7 x3 2 (.string t.f1));have t4:((w3.setCell ⟨X,2,none⟩ (.string t.f1)).alloc (.cells #[.int .i64 t.f0,.string t.f1,.int .i64 t.f2] 47)).heap[w3.heap.size]?=some (.cells #[.int .i64 t.f0,.string t.f1,.int .i64 t.f2] 47 (0,0)):=by
  have:=zA4 (w3.setCell ⟨X,2,none⟩ (.string t.f1)) (.cells #[.int .i64 t.f0,.string t.f1,.int .i64 t.f2] 47);rw[kAL] at this;exact this
 obtain⟨⟨c0,c1,c2,c3,c4,c5⟩,⟨y0,y1,y2,y3,y4,y5⟩,-⟩:=zA6 x3;go_wp2_with fail;have hTl:=zA5 t4;generalize w3.heap.size=T at *;generalize (w3.setCell ⟨X,2,none⟩ (.string t.f1)).alloc (.cells #[.int .i64 t.f0,.string t.f1,.int .i64 t.f2] 47)=w4 at *;clear c0 c1 c2 c3 c4 c5 y0 y1 y2 y3 y4 y5 x3 M3;have M4d:=M4.below ((kA3 _ w4).drew);have x4d:w4.drew.heap[X]?=_:=x4;have t4d:w4.drew.heap[T]?=_:=t4;have k0:=zA1 t4d 0;have k1:=zA1 t4d 1;have z1:=zA1 x4d 1;have z2:=zA1 x4d 2;simp at k0 k1 z1 z2;refine zDu (n:=18) (S:=fun w'=>w'.cell? ⟨T,0,none⟩=some (.int .i64 t.f0)) (ds:=[]) #[false,false,false,false,false,false,false,false,false,false,false,false,false,false,false,false,false,false] kCU rfl rfl (k0) (fun hHeld=>?_);refine zAp (i:=0) (N:=some 23) (v:=?_) (a':=?_) #[true,false,false,false,false,false,false,false,false,false,false,false,false,false,false,false,false,false] rfl rfl kCU (fun _ _ _ h=>h) (Or.inl ⟨kCY,?_⟩) ?_ ?_;rotate_left
 ·intro w';go_simp
  with_reducible rfl
 rotate_left
 ·simp only[Act.put,kA0,List.set_cons_zero,List.set_cons_succ,zAc,zAd];rfl
 refine zAp (i:=1) (N:=some 24) (v:=?_) (a':=?_) #[true,true,false,false,false,false,false,false,false,false,false,false,false,false,false,false,false,false] rfl rfl kCU (fun _ _ _ h=>h) (Or.inl ⟨kCY,?_⟩) ?_ ?_;rotate_left
 ·intro w';go_simp
  with_reducible rfl
 rotate_left
 ·simp only[Act.put,kA0,List.set_cons_zero,List.set_cons_succ,zAc,zAd];rfl
 refine zAp (i:=2) (N:=some 25) (v:=?_) (a':=?_) #[true,true,true,false,false,false,false,false,false,false,false,false,false,false,false,false,false,false] rfl rfl kCU (fun _ _ _ h=>h) (Or.inl ⟨kCY,?_⟩) ?_ ?_;rotate_left
 ·intro w';go_simp
  with_reducible rfl
 rotate_left
 ·simp only[Act.put,kA0,List.set_cons_zero,List.set_cons_succ,zAc,zAd];rfl
 refine zAp (i:=3) (N:=some 26) (v:=?_) (a':=?_) #[true,true,true,true,false,false,false,false,false,false,false,false,false,false,false,false,false,false] rfl rfl kCU (fun _ _ _ h=>h) (Or.inl ⟨kCY,?_⟩) ?_ ?_;rotate_left
 ·intro w';go_simp
  with_reducible rfl
 rotate_left
 ·simp only[Act.put,kA0,List.set_cons_zero,List.set_cons_succ,zAc,zAd];rfl
 refine zD5 (i:=4) (N:=some 27) (v:=?_) (a':=?_) #[true,true,true,true,true,false,false,false,false,false,false,false,false,false,false,false,false,false] rfl rfl kCU (fun _ _ _ h=>h) (Or.inl ⟨kCY,?_⟩) hHeld ?_ ?_;rotate_left
 ·intro w' s0;go_simp
  with_reducible rfl
 rotate_left
 ·simp only[Act.put,kA0,List.set_cons_zero,List.set_cons_succ,zAc,zAd];rfl
 refine zAp (i:=5) (N:=some 28) (v:=?_) (a':=?_) #[true,true,true,true,true,true,false,false,false,false,false,false,false,false,false,false,false,false] rfl rfl kCU (fun _ _ _ h=>h) (Or.inl ⟨kCY,?_⟩) ?_ ?_;rotate_left
 ·intro w';go_simp
  with_reducible rfl
 rotate_left
 ·simp only[Act.put,kA0,List.set_cons_zero,List.set_cons_succ,zAc,zAd];rfl
 refine zAp (i:=6) (N:=some 29) (v:=?_) (a':=?_) #[true,true,true,true,true,true,true,false,false,false,false,false,false,false,false,false,false,false] rfl rfl kCU (fun _ _ _ h=>h) (Or.inl ⟨kCY,?_⟩) ?_ ?_;rotate_left
 ·intro w';go_simp
  with_reducible rfl
 rotate_left
 ·simp only[Act.put,kA0,List.set_cons_zero,List.set_cons_succ,zAc,zAd];rfl
 refine zAp (i:=7) (N:=some 30) (v:=undef) (a':=?_) #[true,true,true,true,true,true,true,true,false,false,false,false,false,false,false,false,false,false] rfl rfl kCU (fun _ _ _ h=>h) (Or.inr ⟨kCY,rfl⟩) ?_ ?_;rotate_left
 ·simp only[Act.put,kA0,List.set_cons_zero,List.set_cons_succ,zAc,zAd];rfl
 refine zAp (i:=8) (N:=some 31) (v:=undef) (a':=?_) #[true,true,true,true,true,true,true,true,true,false,false,false,false,false,false,false,false,false] rfl rfl kCU (fun _ _ _ h=>h) (Or.inr ⟨kCY,rfl⟩) ?_ ?_;rotate_left
 ·simp only[Act.put,kA0,List.set_cons_zero,List.set_cons_succ,zAc,zAd];rfl
 refine zAp (i:=9) (N:=some 32) (v:=undef) (a':=?_) #[true,true,true,true,true,true,true,true,true,true,false,false,false,false,false,false,false,false] rfl rfl kCU (fun _ _ _ h=>h) (Or.inr ⟨kCY,rfl⟩) ?_ ?_;rotate_left
 ·simp only[Act.put,kA0,List.set_cons_zero,List.set_cons_succ,zAc,zAd];rfl
 refine zAp (i:=10) (N:=some 33) (v:=?_) (a':=?_) #[true,true,true,true,true,true,true,true,true,true,true,false,false,false,false,false,false,false] rfl rfl kCU (fun _ _ _ h=>h) (Or.inl ⟨kCY,?_⟩) ?_ ?_;rotate_left
 ·intro w';go_simp
  with_reducible rfl
 rotate_left
 ·simp only[Act.put,kA0,List.set_cons_zero,List.set_cons_succ,zAc,zAd];rfl
 refine zAp (i:=11) (N:=some 34) (v:=?_) (a':=?_) #[true,true,true,true,true,true,true,true,true,true,true,true,false,false,false,false,false,false] rfl rfl kCU (fun _ _ _ h=>h) (Or.inl ⟨kCY,?_⟩) ?_ ?_;rotate_left
 ·intro w';go_simp
  with_reducible rfl
 rotate_left
 ·simp only[Act.put,kA0,List.set_cons_zero,List.set_cons_succ,zAc,zAd];rfl
 refine zAp (i:=12) (N:=some 35) (v:=undef) (a':=?_) #[true,true,true,true,true,true,true,true,true,true,true,true,true,false,false,false,false,false] rfl rfl kCU (fun _ _ _ h=>h) (Or.inr ⟨kCY,rfl⟩) ?_ ?_;rotate_left
 ·simp only[Act.put,kA0,List.set_cons_zero,List.set_cons_succ,zAc,zAd];rfl
 refine zAp (i:=13) (N:=some 36) (v:=undef) (a':=?_) #[true,true,true,true,true,true,true,true,true,true,true,true,true,true,false,false,false,false] rfl rfl kCU (fun _ _ _ h=>h) (Or.inr ⟨kCY,rfl⟩) ?_ ?_;rotate_left
 ·simp only[Act.put,kA0,List.set_cons_zero,List.set_cons_succ,zAc,zAd];rfl
 refine zAp (i:=14) (N:=some 37) (v:=undef) (a':=?_) #[true,true,true,true,true,true,true,true,true,true,true,true,true,true,true,false,false,false] rfl rfl kCU (fun _ _ _ h=>h) (Or.inr ⟨kCY,rfl⟩) ?_ ?_;rotate_left
 ·simp only[Act.put,kA0,List.set_cons_zero,List.set_cons_succ,zAc,zAd];rfl
 refine zAp (i:=15) (N:=some 38) (v:=undef) (a':=?_) #[true,true,true,true,true,true,true,true,true,true,true,true,true,true,true,true,false,false] rfl rfl kCU (fun _ _ _ h=>h) (Or.inr ⟨kCY,rfl⟩) ?_ ?_;rotate_left
 ·simp only[Act.put,kA0,List.set_cons_zero,List.set_cons_succ,zAc,zAd];rfl
 refine zAp (i:=16) (N:=some 39) (v:=?_) (a':=?_) #[true,true,true,true,true,true,true,true,true,true,true,true,true,true,true,true,true,false] rfl rfl kCU (fun _ _ _ h=>h) (Or.inl ⟨kCY,?_⟩) ?_ ?_;rotate_left
 ·intro w';go_simp
  with_reducible rfl
 rotate_left
 ·simp only[Act.put,kA0,List.set_cons_zero,List.set_cons_succ,zAc,zAd];rfl
 refine one_ (i:=17) (N:=some 40) #[true,true,true,true,true,true,true,true,true,true,true,true,true,true,true,true,true,true] rfl rfl kCU kCW (fun K hK=>?_);have hm:=Hmf.out _ M4d.st.rdr;refine panics_ Tryz.func93 kCU rfl #[.pointer (some ⟨R,0,none⟩),.bool false] kCY rfl kDd ?_
 with_reducible refine hm.mono ?_
 rintro e w6⟨rfl,hb6⟩;exact⟨_,rfl,rfl,rfl,kAe M4d.took.grown hb6⟩
theorem lit_badC (W0:World) (R B:Nat) (ts:List S47) (en now:Nat) (w:World) (E:Env W0 R B ts) (hS:Start W0) (h:St W0 R B ts en now w) (h2:(tokP ts en now).f0=2) (hbar:sk ts en (now+1) ⟨#[124]⟩=true)
  (hk:(tokP ts en (now+2)).f0=2) (hne:(tokP ts en (now+2)).f1.toList=[49]) :
  Calls Tryz.prog 278 #[.pointer (some ⟨R,0,none⟩)] w (zAj w R ts en now (.error (atP ts en (now+2)))):=by
 have hlt:=zBG h2 kCW;have hlt1:=zAs hbar;have few:=E.few;have hRw:=h.rdr.lt;have M0:=Mid.start h;have hkd:=zCz R ts now en 2 (w.alloc zO) M0.st.rdr hlt few kDo;have hsk:=kA1 (fun w' hr=>zAE R ts (now+1) en ⟨#[124]⟩ w' hr few hbar);have hpk:=fun w' (hr:Rdr w' R ts (now+2) en)=>zAZ R ts (now+2) en w' hr kCT
 have hmf:=fun w' (hr:Rdr w' R ts (now+2) en)=>zBD R ts (now+2) en w' hr kCT
 have hrc:=fun (w':World) (hb:Below W0.heap.size W0 w')=>zBd (tokP ts en now).f1 (tokP ts en (now+2)).f1 (kAB (zBq (en:=en) (now:=now) E.small) kCT) (kAB (zBq (en:=en) (now:=now+2) E.small) kCT) w' (hS.below hb)
 unfold tokV at hpk;unfold zAk at hmf;have hk':((tokP ts en (now+2)).f0==2)=true:=by rw[kAx];exact hk
 have hne':((tokP ts en (now+2)).f1.toList == [49])=true:=by rw[hne];rfl
 generalize hat:atP ts en (now+2)=at_;unfold atP at hat;generalize (tokP ts en now).f1=num at *;generalize tokP ts en (now+2)=t at *;have Hpk:=kA1 hpk;have Hrc:=kA1 hrc;rw[hat] at hmf;have Hmf:=kA1 hmf;clear h2 hbar h hpk hrc hmf hat hk hne;go_enter Tryz.func278,Tryz.ntmps278;go_wp2_with fail;refine hkd.mono ?_;rintro e w1 ⟨rfl,hk1⟩;have M1:=M0.go E hRw hk1 hlt;have M1x:=M1.alloc (.cells #[.int .i64 0,.string num,.string ⟨#[49]⟩,.string ⟨#[]⟩,.int .i64 0,.slice none 0 0] 31);have xb:=zA4 w1 (.cells #[.int .i64 0,.string num,.string ⟨#[49]⟩,.string ⟨#[]⟩,.int .i64 0,.slice none 0 0] 31);have hXR:w1.heap.size≠R:=kAq hk1.rdr.lt;have hXw:w.heap.size<w1.heap.size:=M1.lt;have hs:=hsk.out _ M1x.st.rdr;clear hkd hk1 M0 M1;go_wp2_with fail;refine hs.mono ?_;rintro e w2 ⟨rfl,hk2⟩;have M2:=M1x.go E hRw hk2 hlt1;have x2:=hk2.blk xb hXR;generalize w1.heap.size=X at *;have hp:=Hpk.out w2 M2.st.rdr;clear hs hk2 M1x xb hsk;go_wp2_with fail;refine hp.mono ?_;rintro e w3 ⟨rfl,hb3⟩;have M3:=M2.below hb3;have x3:=zA9 hb3 x2;have hXl:=zA5 x3;clear hp hb3 M2 x2;have M4:=(M3.setX E hRw hXR hXw x3 2 (.string t.f1)).alloc (.cells #[.int .i64 t.f0,.string t.f1,.int .i64 t.f2] 47);have x4:((w3.setCell ⟨X,2,none⟩ (.string t.f1)).alloc (.cells #[.int .i64 t.f0,.string t.f1,.int .i64 t.f2] 47)).heap[X]?=some (.cells #[.int .i64 0,.string num,.string t.f1,.string ⟨#[]⟩,.int .i64 0,.slice none 0 0] 31 (0,0)):=(kA4 _ _ _ kDA).trans (zA7 x3 2 (.string t.f1));have t4:((w3.setCell ⟨X,2,none⟩ (.string t.f1)).alloc (.cells #[.int .i64 t.f0,.string t.f1,.int .i64 t.f2] 47)).heap[w3.heap.size]?=some (.cells #[.int .i64 t.f0,.string t.f1,.int .i64 t.f2] 47 (0,0)):=by
  have:=zA4 (w3.setCell ⟨X,2,none⟩ (.string t.f1)) (.cells #[.int .i64 t.f0,.string t.f1,.int .i64 t.f2] 47);rw[kAL] at this;exact this
 obtain⟨⟨c0,c1,c2,c3,c4,c5⟩,⟨y0,y1,y2,y3,y4,y5⟩,-⟩:=zA6 x3;go_wp2_with fail;have hTl:=zA5 t4;generalize w3.heap.size=T at *;generalize (w3.setCell ⟨X,2,none⟩ (.string t.f1)).alloc (.cells #[.int .i64 t.f0,.string t.f1,.int .i64 t.f2] 47)=w4 at *;clear c0 c1 c2 c3 c4 c5 y0 y1 y2 y3 y4 y5 x3 M3;have M4d:=M4.below ((kA3 _ w4).drew);have x4d:w4.drew.heap[X]?=_:=x4;have t4d:w4.drew.heap[T]?=_:=t4;have k0:=zA1 t4d 0;have k1:=zA1 t4d 1;have z1:=zA1 x4d 1;have z2:=zA1 x4d 2;simp at k0 k1 z1 z2;refine zDu (n:=18) (S:=fun w'=>w'.cell? ⟨T,0,none⟩=some (.int .i64 t.f0)∧w'.cell? ⟨T,1,none⟩=some (.string t.f1)) (ds:=[]) #[false,false,false,false,false,false,false,false,false,false,false,false,false,false,false,false,false,false] kCU rfl rfl ⟨k0,k1⟩ (fun hHeld=>?_);refine zAp (i:=0) (N:=some 23) (v:=?_) (a':=?_) #[true,false,false,false,false,false,false,false,false,false,false,false,false,false,false,false,false,false] rfl rfl kCU (fun _ _ _ h=>h) (Or.inl ⟨kCY,?_⟩) ?_ ?_;rotate_left
 ·intro w';go_simp
  with_reducible rfl
 rotate_left
 ·simp only[Act.put,kA0,List.set_cons_zero,List.set_cons_succ,zAc,zAd];rfl
 refine zAp (i:=1) (N:=some 24) (v:=?_) (a':=?_) #[true,true,false,false,false,false,false,false,false,false,false,false,false,false,false,false,false,false] rfl rfl kCU (fun _ _ _ h=>h) (Or.inl ⟨kCY,?_⟩) ?_ ?_;rotate_left
 ·intro w';go_simp
  with_reducible rfl
 rotate_left
 ·simp only[Act.put,kA0,List.set_cons_zero,List.set_cons_succ,zAc,zAd];rfl
 refine zAp (i:=2) (N:=some 25) (v:=?_) (a':=?_) #[true,true,true,false,false,false,false,false,false,false,false,false,false,false,false,false,false,false] rfl rfl kCU (fun _ _ _ h=>h) (Or.inl ⟨kCY,?_⟩) ?_ ?_;rotate_left
 ·intro w';go_simp
  with_reducible rfl
 rotate_left
 ·simp only[Act.put,kA0,List.set_cons_zero,List.set_cons_succ,zAc,zAd];rfl
 refine zAp (i:=3) (N:=some 26) (v:=?_) (a':=?_) #[true,true,true,true,false,false,false,false,false,false,false,false,false,false,false,false,false,false] rfl rfl kCU (fun _ _ _ h=>h) (Or.inl ⟨kCY,?_⟩) ?_ ?_;rotate_left
 ·intro w';go_simp
  with_reducible rfl
 rotate_left
 ·simp only[Act.put,kA0,List.set_cons_zero,List.set_cons_succ,zAc,zAd];rfl
 refine zD5 (i:=4) (N:=some 27) (v:=?_) (a':=?_) #[true,true,true,true,true,false,false,false,false,false,false,false,false,false,false,false,false,false] rfl rfl kCU (fun _ _ _ h=>h) (Or.inl ⟨kCY,?_⟩) hHeld ?_ ?_;rotate_left
 ·rintro w'⟨s0,s1⟩;go_simp
  with_reducible rfl
 rotate_left
 ·simp only[Act.put,kA0,List.set_cons_zero,List.set_cons_succ,zAc,zAd];rfl
 refine zAp (i:=5) (N:=some 28) (v:=?_) (a':=?_) #[true,true,true,true,true,true,false,false,false,false,false,false,false,false,false,false,false,false] rfl rfl kCU (fun _ _ _ h=>h) (Or.inl ⟨kCY,?_⟩) ?_ ?_;rotate_left
 ·intro w';go_simp
  with_reducible rfl
 rotate_left
 ·simp only[Act.put,kA0,List.set_cons_zero,List.set_cons_succ,zAc,zAd];rfl
 refine zAp (i:=6) (N:=some 29) (v:=?_) (a':=?_) #[true,true,true,true,true,true,true,false,false,false,false,false,false,false,false,false,false,false] rfl rfl kCU (fun _ _ _ h=>h) (Or.inl ⟨kCY,?_⟩) ?_ ?_;rotate_left
 ·intro w';go_simp
  with_reducible rfl
 rotate_left
 ·simp only[Act.put,kA0,List.set_cons_zero,List.set_cons_succ,zAc,zAd];rfl
 refine zAp (i:=7) (N:=some 30) (v:=?_) (a':=?_) #[true,true,true,true,true,true,true,true,false,false,false,false,false,false,false,false,false,false] rfl rfl kCU (fun _ _ _ h=>h) (Or.inl ⟨kCY,?_⟩) ?_ ?_;rotate_left
 ·intro w';go_simp
  with_reducible rfl
 rotate_left
 ·simp only[Act.put,kA0,List.set_cons_zero,List.set_cons_succ,zAc,zAd];rfl
 refine zD5 (i:=8) (N:=some 31) (v:=?_) (a':=?_) #[true,true,true,true,true,true,true,true,true,false,false,false,false,false,false,false,false,false] rfl rfl kCU (fun _ _ _ h=>h) (Or.inl ⟨kCY,?_⟩) hHeld ?_ ?_;rotate_left
 ·rintro w'⟨s0,s1⟩;go_simp
  with_reducible rfl
 rotate_left
 ·simp only[Act.put,kA0,List.set_cons_zero,List.set_cons_succ,zAc,zAd];rfl
 refine zAp (i:=9) (N:=some 32) (v:=?_) (a':=?_) #[true,true,true,true,true,true,true,true,true,true,false,false,false,false,false,false,false,false] rfl rfl kCU (fun _ _ _ h=>h) (Or.inl ⟨kCY,?_⟩) ?_ ?_;rotate_left
 ·intro w';go_simp
  with_reducible rfl
 rotate_left
 ·simp only[Act.put,kA0,List.set_cons_zero,List.set_cons_succ,zAc,zAd];rfl
 refine zAp (i:=10) (N:=some 33) (v:=?_) (a':=?_) #[true,true,true,true,true,true,true,true,true,true,true,false,false,false,false,false,false,false] rfl rfl kCU (fun _ _ _ h=>h) (Or.inl ⟨kCY,?_⟩) ?_ ?_;rotate_left
 ·intro w';go_simp
  with_reducible rfl
 rotate_left
 ·simp only[Act.put,kA0,List.set_cons_zero,List.set_cons_succ,zAc,zAd];rfl
 refine zAp (i:=11) (N:=some 34) (v:=?_) (a':=?_) #[true,true,true,true,true,true,true,true,true,true,true,true,false,false,false,false,false,false] rfl rfl kCU (fun _ _ _ h=>h) (Or.inl ⟨kCY,?_⟩) ?_ ?_;rotate_left
 ·intro w';go_simp
  with_reducible rfl
 rotate_left
 ·simp only[Act.put,kA0,List.set_cons_zero,List.set_cons_succ,zAc,zAd];rfl
 refine zAp (i:=12) (N:=some 35) (v:=undef) (a':=?_) #[true,true,true,true,true,true,true,true,true,true,true,true,true,false,false,false,false,false] rfl rfl kCU (fun _ _ _ h=>h) (Or.inr ⟨kCY,rfl⟩) ?_ ?_;rotate_left
 ·simp only[Act.put,kA0,List.set_cons_zero,List.set_cons_succ,zAc,zAd];rfl
 refine zAp (i:=13) (N:=some 36) (v:=undef) (a':=?_) #[true,true,true,true,true,true,true,true,true,true,true,true,true,true,false,false,false,false] rfl rfl kCU (fun _ _ _ h=>h) (Or.inr ⟨kCY,rfl⟩) ?_ ?_;rotate_left
 ·simp only[Act.put,kA0,List.set_cons_zero,List.set_cons_succ,zAc,zAd];rfl
 refine zAp (i:=14) (N:=some 37) (v:=undef) (a':=?_) #[true,true,true,true,true,true,true,true,true,true,true,true,true,true,true,false,false,false] rfl rfl kCU (fun _ _ _ h=>h) (Or.inr ⟨kCY,rfl⟩) ?_ ?_;rotate_left
 ·simp only[Act.put,kA0,List.set_cons_zero,List.set_cons_succ,zAc,zAd];rfl
 refine zAp (i:=15) (N:=some 38) (v:=undef) (a':=?_) #[true,true,true,true,true,true,true,true,true,true,true,true,true,true,true,true,false,false] rfl rfl kCU (fun _ _ _ h=>h) (Or.inr ⟨kCY,rfl⟩) ?_ ?_;rotate_left
 ·simp only[Act.put,kA0,List.set_cons_zero,List.set_cons_succ,zAc,zAd];rfl
 refine zAp (i:=16) (N:=some 39) (v:=?_) (a':=?_) #[true,true,true,true,true,true,true,true,true,true,true,true,true,true,true,true,true,false] rfl rfl kCU (fun _ _ _ h=>h) (Or.inl ⟨kCY,?_⟩) ?_ ?_;rotate_left
 ·intro w';go_simp
  with_reducible rfl
 rotate_left
 ·simp only[Act.put,kA0,List.set_cons_zero,List.set_cons_succ,zAc,zAd];rfl
 refine one_ (i:=17) (N:=some 40) #[true,true,true,true,true,true,true,true,true,true,true,true,true,true,true,true,true,true] rfl rfl kCU kCW (fun K hK=>?_);have hm:=Hmf.out _ M4d.st.rdr;refine panics_ Tryz.func93 kCU rfl #[.pointer (some ⟨R,0,none⟩),.bool false] kCY rfl kDd ?_
 with_reducible refine hm.mono ?_
 rintro e w6⟨rfl,hb6⟩;exact⟨_,rfl,rfl,rfl,kAe M4d.took.grown hb6⟩
theorem lit_badD (W0:World) (R B:Nat) (ts:List S47) (en now:Nat) (w:World) (E:Env W0 R B ts) (hS:Start W0) (h:St W0 R B ts en now w) (h2:(tokP ts en now).f0=2) (hbar:sk ts en (now+1) ⟨#[124]⟩=true)
  (hk:(tokP ts en (now+2)).f0=2) (hne:(tokP ts en (now+2)).f1.toList≠[49]) (hc:chkR ⟨(tokP ts en now).f1,(tokP ts en (now+2)).f1⟩≠0) :
  Calls Tryz.prog 278 #[.pointer (some ⟨R,0,none⟩)] w (zAj w R ts en now (.error (atP ts en (now+2)))):=by
 have hlt:=zBG h2 kCW;have hlt1:=zAs hbar;have few:=E.few;have hRw:=h.rdr.lt;have M0:=Mid.start h;have hkd:=zCz R ts now en 2 (w.alloc zO) M0.st.rdr hlt few kDo;have hsk:=kA1 (fun w' hr=>zAE R ts (now+1) en ⟨#[124]⟩ w' hr few hbar);have hpk:=fun w' (hr:Rdr w' R ts (now+2) en)=>zAZ R ts (now+2) en w' hr kCT
 have hmf:=fun w' (hr:Rdr w' R ts (now+2) en)=>zBD R ts (now+2) en w' hr kCT
 have hrc:=fun (w':World) (hb:Below W0.heap.size W0 w')=>zBd (tokP ts en now).f1 (tokP ts en (now+2)).f1 (kAB (zBq (en:=en) (now:=now) E.small) kCT) (kAB (zBq (en:=en) (now:=now+2) E.small) kCT) w' (hS.below hb)
 unfold tokV at hpk;unfold zAk at hmf;have hk':((tokP ts en (now+2)).f0==2)=true:=by rw[kAx];exact hk
 have hne':((tokP ts en (now+2)).f1.toList == [49])=false:=kAd.2 hne;have hc':(chkR ⟨(tokP ts en now).f1,(tokP ts en (now+2)).f1⟩==0)=false:=kAd.2 hc;generalize chkR ⟨(tokP ts en now).f1,(tokP ts en (now+2)).f1⟩=cr at *;generalize hat:atP ts en (now+2)=at_;unfold atP at hat;generalize (tokP ts en now).f1=num at *;generalize tokP ts en (now+2)=t at *;have Hpk:=kA1 hpk;have Hrc:=kA1 hrc;rw[hat] at hmf;have Hmf:=kA1 hmf;clear h2 hbar h hpk hrc hmf hat hk hne hc;go_enter Tryz.func278,Tryz.ntmps278;go_wp2_with fail;refine hkd.mono ?_;rintro e w1 ⟨rfl,hk1⟩;have M1:=M0.go E hRw hk1 hlt;have M1x:=M1.alloc (.cells #[.int .i64 0,.string num,.string ⟨#[49]⟩,.string ⟨#[]⟩,.int .i64 0,.slice none 0 0] 31);have xb:=zA4 w1 (.cells #[.int .i64 0,.string num,.string ⟨#[49]⟩,.string ⟨#[]⟩,.int .i64 0,.slice none 0 0] 31);have hXR:w1.heap.size≠R:=kAq hk1.rdr.lt;have hXw:w.heap.size<w1.heap.size:=M1.lt;have hs:=hsk.out _ M1x.st.rdr;clear hkd hk1 M0 M1;go_wp2_with fail;refine hs.mono ?_;rintro e w2 ⟨rfl,hk2⟩;have M2:=M1x.go E hRw hk2 hlt1;have x2:=hk2.blk xb hXR;generalize w1.heap.size=X at *;have hp:=Hpk.out w2 M2.st.rdr;clear hs hk2 M1x xb hsk;go_wp2_with fail;refine hp.mono ?_;rintro e w3 ⟨rfl,hb3⟩;have M3:=M2.below hb3;have x3:=zA9 hb3 x2;have hXl:=zA5 x3;clear hp hb3 M2 x2;have M4:=(M3.setX E hRw hXR hXw x3 2 (.string t.f1)).alloc (.cells #[.int .i64 t.f0,.string t.f1,.int .i64 t.f2] 47);have x4:((w3.setCell ⟨X,2,none⟩ (.string t.f1)).alloc (.cells #[.int .i64 t.f0,.string t.f1,.int .i64 t.f2] 47)).heap[X]?=some (.cells #[.int .i64 0,.string num,.string t.f1,.string ⟨#[]⟩,.int .i64 0,.slice none 0 0] 31 (0,0)):=(kA4 _ _ _ kDA).trans (zA7 x3 2 (.string t.f1));have t4:((w3.setCell ⟨X,2,none⟩ (.string t.f1)).alloc (.cells #[.int .i64 t.f0,.string t.f1,.int .i64 t.f2] 47)).heap[w3.heap.size]?=some (.cells #[.int .i64 t.f0,.string t.f1,.int .i64 t.f2] 47 (0,0)):=by
  have:=zA4 (w3.setCell ⟨X,2,none⟩ (.string t.f1)) (.cells #[.int .i64 t.f0,.string t.f1,.int .i64 t.f2] 47);rw[kAL] at this;exact this
 obtain⟨⟨c0,c1,c2,c3,c4,c5⟩,⟨y0,y1,y2,y3,y4,y5⟩,-⟩:=zA6 x3;go_wp2_with fail;have hTl:=zA5 t4;generalize w3.heap.size=T at *;generalize (w3.setCell ⟨X,2,none⟩ (.string t.f1)).alloc (.cells #[.int .i64 t.f0,.string t.f1,.int .i64 t.f2] 47)=w4 at *;clear c0 c1 c2 c3 c4 c5 y0 y1 y2 y3 y4 y5 x3 M3;have M4d:=M4.below ((kA3 _ w4).drew);have x4d:w4.drew.heap[X]?=_:=x4;have t4d:w4.drew.heap[T]?=_:=t4;have k0:=zA1 t4d 0;have k1:=zA1 t4d 1;have z1:=zA1 x4d 1;have z2:=zA1 x4d 2;simp at k0 k1 z1 z2;refine zDu (n:=18) (S:=fun w'=>w'.cell? ⟨T,0,none⟩=some (.int .i64 t.f0)∧w'.cell? ⟨T,1,none⟩=some (.string t.f1)∧w'.cell? ⟨X,1,none⟩=some (.string num)∧w'.cell? ⟨X,2,none⟩=some (.string t.f1)) (ds:=[]) #[false,false,false,false,false,false,false,false,false,false,false,false,false,false,false,false,false,false] kCU rfl rfl ⟨k0,k1,z1,z2⟩ (fun hHeld=>?_);refine zAp (i:=0) (N:=some 23) (v:=?_) (a':=?_) #[true,false,false,false,false,false,false,false,false,false,false,false,false,false,false,false,false,false] rfl rfl kCU (fun _ _ _ h=>h) (Or.inl ⟨kCY,?_⟩) ?_ ?_;rotate_left
 ·intro w';go_simp
  with_reducible rfl
 rotate_left
 ·simp only[Act.put,kA0,List.set_cons_zero,List.set_cons_succ,zAc,zAd];rfl
 refine zAp (i:=1) (N:=some 24) (v:=?_) (a':=?_) #[true,true,false,false,false,false,false,false,false,false,false,false,false,false,false,false,false,false] rfl rfl kCU (fun _ _ _ h=>h) (Or.inl ⟨kCY,?_⟩) ?_ ?_;rotate_left
 ·intro w';go_simp
  with_reducible rfl
 rotate_left
 ·simp only[Act.put,kA0,List.set_cons_zero,List.set_cons_succ,zAc,zAd];rfl
 refine zAp (i:=2) (N:=some 25) (v:=?_) (a':=?_) #[true,true,true,false,false,false,false,false,false,false,false,false,false,false,false,false,false,false] rfl rfl kCU (fun _ _ _ h=>h) (Or.inl ⟨kCY,?_⟩) ?_ ?_;rotate_left
 ·intro w';go_simp
  with_reducible rfl
 rotate_left
 ·simp only[Act.put,kA0,List.set_cons_zero,List.set_cons_succ,zAc,zAd];rfl
 refine zAp (i:=3) (N:=some 26) (v:=?_) (a':=?_) #[true,true,true,true,false,false,false,false,false,false,false,false,false,false,false,false,false,false] rfl rfl kCU (fun _ _ _ h=>h) (Or.inl ⟨kCY,?_⟩) ?_ ?_;rotate_left
 ·intro w';go_simp
  with_reducible rfl
 rotate_left
 ·simp only[Act.put,kA0,List.set_cons_zero,List.set_cons_succ,zAc,zAd];rfl
 refine zD5 (i:=4) (N:=some 27) (v:=?_) (a':=?_) #[true,true,true,true,true,false,false,false,false,false,false,false,false,false,false,false,false,false] rfl rfl kCU (fun _ _ _ h=>h) (Or.inl ⟨kCY,?_⟩) hHeld ?_ ?_;rotate_left
 ·rintro w'⟨s0,s1,s2,s3⟩;go_simp
  with_reducible rfl
 rotate_left
 ·simp only[Act.put,kA0,List.set_cons_zero,List.set_cons_succ,zAc,zAd];rfl
 refine zAp (i:=5) (N:=some 28) (v:=?_) (a':=?_) #[true,true,true,true,true,true,false,false,false,false,false,false,false,false,false,false,false,false] rfl rfl kCU (fun _ _ _ h=>h) (Or.inl ⟨kCY,?_⟩) ?_ ?_;rotate_left
 ·intro w';go_simp
  with_reducible rfl
 rotate_left
 ·simp only[Act.put,kA0,List.set_cons_zero,List.set_cons_succ,zAc,zAd];rfl
 refine zAp (i:=6) (N:=some 29) (v:=?_) (a':=?_) #[true,true,true,true,true,true,true,false,false,false,false,false,false,false,false,false,false,false] rfl rfl kCU (fun _ _ _ h=>h) (Or.inl ⟨kCY,?_⟩) ?_ ?_;rotate_left
 ·intro w';go_simp
  with_reducible rfl
 rotate_left
 ·simp only[Act.put,kA0,List.set_cons_zero,List.set_cons_succ,zAc,zAd];rfl
 refine zAp (i:=7) (N:=some 30) (v:=?_) (a':=?_) #[true,true,true,true,true,true,true,true,false,false,false,false,false,false,false,false,false,false] rfl rfl kCU (fun _ _ _ h=>h) (Or.inl ⟨kCY,?_⟩) ?_ ?_;rotate_left
 ·intro w';go_simp
  with_reducible rfl
 rotate_left
 ·simp only[Act.put,kA0,List.set_cons_zero,List.set_cons_succ,zAc,zAd];rfl
 refine zD5 (i:=8) (N:=some 31) (v:=?_) (a':=?_) #[true,true,true,true,true,true,true,true,true,false,false,false,false,false,false,false,false,false] rfl rfl kCU (fun _ _ _ h=>h) (Or.inl ⟨kCY,?_⟩) hHeld ?_ ?_;rotate_left
 ·rintro w'⟨s0,s1,s2,s3⟩;go_simp
  with_reducible rfl
 rotate_left
 ·simp only[Act.put,kA0,List.set_cons_zero,List.set_cons_succ,zAc,zAd];rfl
 refine zAp (i:=9) (N:=some 32) (v:=?_) (a':=?_) #[true,true,true,true,true,true,true,true,true,true,false,false,false,false,false,false,false,false] rfl rfl kCU (fun _ _ _ h=>h) (Or.inl ⟨kCY,?_⟩) ?_ ?_;rotate_left
 ·intro w';go_simp
  with_reducible rfl
 rotate_left
 ·simp only[Act.put,kA0,List.set_cons_zero,List.set_cons_succ,zAc,zAd];rfl
 refine zAp (i:=10) (N:=some 33) (v:=?_) (a':=?_) #[true,true,true,true,true,true,true,true,true,true,true,false,false,false,false,false,false,false] rfl rfl kCU (fun _ _ _ h=>h) (Or.inl ⟨kCY,?_⟩) ?_ ?_;rotate_left
 ·intro w';go_simp
  with_reducible rfl
 rotate_left
 ·simp only[Act.put,kA0,List.set_cons_zero,List.set_cons_succ,zAc,zAd];rfl
 refine zAp (i:=11) (N:=some 34) (v:=?_) (a':=?_) #[true,true,true,true,true,true,true,true,true,true,true,true,false,false,false,false,false,false] rfl rfl kCU (fun _ _ _ h=>h) (Or.inl ⟨kCY,?_⟩) ?_ ?_;rotate_left
 ·intro w';go_simp
  with_reducible rfl
 rotate_left
 ·simp only[Act.put,kA0,List.set_cons_zero,List.set_cons_succ,zAc,zAd];rfl
 refine zAp (i:=12) (N:=some 35) (v:=?_) (a':=?_) #[true,true,true,true,true,true,true,true,true,true,true,true,true,false,false,false,false,false] rfl rfl kCU (fun _ _ _ h=>h) (Or.inl ⟨kCY,?_⟩) ?_ ?_;rotate_left
 ·intro w';go_simp
  with_reducible rfl
 rotate_left
 ·simp only[Act.put,kA0,List.set_cons_zero,List.set_cons_succ,zAc,zAd];rfl
 refine zD5 (i:=13) (N:=some 36) (v:=?_) (a':=?_) #[true,true,true,true,true,true,true,true,true,true,true,true,true,true,false,false,false,false] rfl rfl kCU (fun _ _ _ h=>h) (Or.inl ⟨kCY,?_⟩) hHeld ?_ ?_;rotate_left
 ·rintro w'⟨s0,s1,s2,s3⟩;go_simp
  with_reducible rfl
 rotate_left
 ·simp only[Act.put,kA0,List.set_cons_zero,List.set_cons_succ,zAc,zAd];rfl
 refine one_ (i:=14) (N:=some 37) #[true,true,true,true,true,true,true,true,true,true,true,true,true,true,true,false,false,false] rfl rfl kCU kCW (fun K hK=>?_);have hr5:=Hrc.out _ M4d.st.low;refine goes_ Tryz.func141 kCU rfl #[.agg #[.string num,.string t.f1]] kCY rfl rfl kDd ?_
 with_reducible refine (hr5).mono ?_
 rintro e w5⟨rfl,hb5⟩;refine⟨_,rfl,?_⟩;refine hK.out _ _ ⟨(zA0 hb5 k0),(zA0 hb5 k1),(zA0 hb5 z1),(zA0 hb5 z2)⟩ (fun hHeld=>?_);clear hK K;refine zC9 (a':=?_) ?_ ?_;rotate_left
 ·show Act.put _ (some 37) _=_;simp only[Act.put,kA0,List.set_cons_zero,List.set_cons_succ,zAc,zAd];rfl
 refine zAp (i:=15) (N:=some 38) (v:=?_) (a':=?_) #[true,true,true,true,true,true,true,true,true,true,true,true,true,true,true,true,false,false] rfl rfl kCU (fun _ _ _ h=>h) (Or.inl ⟨kCY,?_⟩) ?_ ?_;rotate_left
 ·intro w';go_simp
  with_reducible rfl
 rotate_left
 ·simp only[Act.put,kA0,List.set_cons_zero,List.set_cons_succ,zAc,zAd];rfl
 refine zAp (i:=16) (N:=some 39) (v:=?_) (a':=?_) #[true,true,true,true,true,true,true,true,true,true,true,true,true,true,true,true,true,false] rfl rfl kCU (fun _ _ _ h=>h) (Or.inl ⟨kCY,?_⟩) ?_ ?_;rotate_left
 ·intro w';go_simp
  with_reducible rfl
 rotate_left
 ·simp only[Act.put,kA0,List.set_cons_zero,List.set_cons_succ,zAc,zAd];rfl
 refine one_ (i:=17) (N:=some 40) #[true,true,true,true,true,true,true,true,true,true,true,true,true,true,true,true,true,true] rfl rfl kCU kCW (fun K hK=>?_);have hm:=Hmf.out w5 (M4d.below hb5).st.rdr;refine panics_ Tryz.func93 kCU rfl #[.pointer (some ⟨R,0,none⟩),.bool false] kCY rfl kDd ?_
 with_reducible refine hm.mono ?_
 rintro e w6⟨rfl,hb6⟩;exact⟨_,rfl,rfl,rfl,kAe (M4d.below hb5).took.grown hb6⟩
theorem lit_quot (W0:World) (R B:Nat) (ts:List S47) (en now:Nat) (w:World) (E:Env W0 R B ts) (hS:Start W0) (h:St W0 R B ts en now w) (h2:(tokP ts en now).f0=2) (hbar:sk ts en (now+1) ⟨#[124]⟩=true)
  (hk:(tokP ts en (now+2)).f0=2) (hne:(tokP ts en (now+2)).f1.toList≠[49]) (hc:chkR ⟨(tokP ts en now).f1,(tokP ts en (now+2)).f1⟩=0) :
  Calls Tryz.prog 278 #[.pointer (some ⟨R,0,none⟩)] w (zAj w R ts en now (zFb ts en ⟨(tokP ts en now).f1,(tokP ts en (now+2)).f1⟩ (now+2+1))):=by
 have hlt:=zBG h2 kCW;have hlt1:=zAs hbar;have few:=E.few;have hRw:=h.rdr.lt;have M0:=Mid.start h;have hkd:=zCz R ts now en 2 (w.alloc zO) M0.st.rdr hlt few kDo;have hsk:=kA1 (fun w' hr=>zAE R ts (now+1) en ⟨#[124]⟩ w' hr few hbar);have hpk:=fun w' (hr:Rdr w' R ts (now+2) en)=>zAZ R ts (now+2) en w' hr kCT
 have hmf:=fun w' (hr:Rdr w' R ts (now+2) en)=>zBD R ts (now+2) en w' hr kCT
 have hrc:=fun (w':World) (hb:Below W0.heap.size W0 w')=>zBd (tokP ts en now).f1 (tokP ts en (now+2)).f1 (kAB (zBq (en:=en) (now:=now) E.small) kCT) (kAB (zBq (en:=en) (now:=now+2) E.small) kCT) w' (hS.below hb)
 have hlt2:=zBG hk kCW;rw[hc] at hrc;unfold tokV at hpk;have hk':((tokP ts en (now+2)).f0==2)=true:=by rw[kAx];exact hk
 have hne':((tokP ts en (now+2)).f1.toList == [49])=false:=kAd.2 hne;have hpk3:=fun w' (hr:Rdr w' R ts (now+2+1) en)=>zAZ R ts (now+2+1) en w' hr hlt2
 have hkd3:=fun (e:(tokP ts en (now+2+1)).f0=3) w' (hr:Rdr w' R ts (now+2+1) en)=>zCz R ts (now+2+1) en 3 w' hr (zBG e kCW) few (by rw[kAx];exact e)
 unfold tokV at hpk3;generalize hres:zFb ts en ⟨(tokP ts en now).f1,(tokP ts en (now+2)).f1⟩ (now+2+1)=res;unfold zFb at hres;generalize (tokP ts en now).f1=num at *;generalize tokP ts en (now+2)=t at *;have hlt3:(tokP ts en (now+2+1)).f0=3→now+2+1<ts.length:=fun e=>zBG e kCW
 generalize tokP ts en (now+2+1)=t3 at *;have Hpk:=kA1 hpk;have Hrc:=kA1 hrc;have Hpk3:=kA1 hpk3;have Hkd3:=kA1 hkd3;have Hres:=kA1 hres;have Hlt3:=kA1 hlt3;clear h2 hbar hk hne hc h hpk hrc hpk3 hkd3 hres hlt3 hmf;have hfd:=zBI t3.f0 t3.f2 t3.f1;go_enter Tryz.func278,Tryz.ntmps278;go_wp2_with fail;refine hkd.mono ?_;rintro e w1 ⟨rfl,hk1⟩;have M1:=M0.go E hRw hk1 hlt;have M1x:=M1.alloc (.cells #[.int .i64 0,.string num,.string ⟨#[49]⟩,.string ⟨#[]⟩,.int .i64 0,.slice none 0 0] 31);have xb:=zA4 w1 (.cells #[.int .i64 0,.string num,.string ⟨#[49]⟩,.string ⟨#[]⟩,.int .i64 0,.slice none 0 0] 31);have hXR:w1.heap.size≠R:=kAq hk1.rdr.lt;have hXw:w.heap.size<w1.heap.size:=M1.lt;have hs:=hsk.out _ M1x.st.rdr;clear hkd hk1 M0 M1;go_wp2_with fail;refine hs.mono ?_;rintro e w2 ⟨rfl,hk2⟩;have M2:=M1x.go E hRw hk2 hlt1;have x2:=hk2.blk xb hXR;generalize w1.heap.size=X at *;have hp:=Hpk.out w2 M2.st.rdr;clear hs hk2 M1x xb hsk;go_wp2_with fail;refine hp.mono ?_;rintro e w3 ⟨rfl,hb3⟩;have M3:=M2.below hb3;have x3:=zA9 hb3 x2;have hXl:=zA5 x3;clear hp hb3 M2 x2;have M4:=(M3.setX E hRw hXR hXw x3 2 (.string t.f1)).alloc (.cells #[.int .i64 t.f0,.string t.f1,.int .i64 t.f2] 47);have x4:((w3.setCell ⟨X,2,none⟩ (.string t.f1)).alloc (.cells #[.int .i64 t.f0,.string t.f1,.int .i64 t.f2] 47)).heap[X]?=some (.cells #[.int .i64 0,.string num,.string t.f1,.string ⟨#[]⟩,.int .i64 0,.slice none 0 0] 31 (0,0)):=(kA4 _ _ _ kDA).trans (zA7 x3 2 (.string t.f1));have t4:((w3.setCell ⟨X,2,none⟩ (.string t.f1)).alloc (.cells #[.int .i64 t.f0,.string t.f1,.int .i64 t.f2] 47)).heap[w3.heap.size]?=some (.cells #[.int .i64 t.f0,.string t.f1,.int .i64 t.f2] 47 (0,0)):=by
  have:=zA4 (w3.setCell ⟨X,2,none⟩ (.string t.f1)) (.cells #[.int .i64 t.f0,.string t.f1,.int .i64 t.f2] 47);rw[kAL] at this;exact this
 obtain⟨⟨c0,c1,c2,c3,c4,c5⟩,⟨y0,y1,y2,y3,y4,y5⟩,-⟩:=zA6 x3;go_wp2_with fail;have hTl:=zA5 t4;generalize w3.heap.size=T at *;generalize (w3.setCell ⟨X,2,none⟩ (.string t.f1)).alloc (.cells #[.int .i64 t.f0,.string t.f1,.int .i64 t.f2] 47)=w4 at *;clear c0 c1 c2 c3 c4 c5 y0 y1 y2 y3 y4 y5 x3 M3;have M4d:=M4.below ((kA3 _ w4).drew);have x4d:w4.drew.heap[X]?=_:=x4;have t4d:w4.drew.heap[T]?=_:=t4;have k0:=zA1 t4d 0;have k1:=zA1 t4d 1;have z1:=zA1 x4d 1;have z2:=zA1 x4d 2;simp at k0 k1 z1 z2;refine zDu (n:=18) (S:=fun w'=>w'.cell? ⟨T,0,none⟩=some (.int .i64 t.f0)∧w'.cell? ⟨T,1,none⟩=some (.string t.f1)∧w'.cell? ⟨X,1,none⟩=some (.string num)∧w'.cell? ⟨X,2,none⟩=some (.string t.f1)) (ds:=[]) #[false,false,false,false,false,false,false,false,false,false,false,false,false,false,false,false,false,false] kCU rfl rfl ⟨k0,k1,z1,z2⟩ (fun hHeld=>?_);refine zAp (i:=0) (N:=some 23) (v:=?_) (a':=?_) #[true,false,false,false,false,false,false,false,false,false,false,false,false,false,false,false,false,false] rfl rfl kCU (fun _ _ _ h=>h) (Or.inl ⟨kCY,?_⟩) ?_ ?_;rotate_left
 ·intro w';go_simp
  with_reducible rfl
 rotate_left
 ·simp only[Act.put,kA0,List.set_cons_zero,List.set_cons_succ,zAc,zAd];rfl
 refine zAp (i:=1) (N:=some 24) (v:=?_) (a':=?_) #[true,true,false,false,false,false,false,false,false,false,false,false,false,false,false,false,false,false] rfl rfl kCU (fun _ _ _ h=>h) (Or.inl ⟨kCY,?_⟩) ?_ ?_;rotate_left
 ·intro w';go_simp
  with_reducible rfl
 rotate_left
 ·simp only[Act.put,kA0,List.set_cons_zero,List.set_cons_succ,zAc,zAd];rfl
 refine zAp (i:=2) (N:=some 25) (v:=?_) (a':=?_) #[true,true,true,false,false,false,false,false,false,false,false,false,false,false,false,false,false,false] rfl rfl kCU (fun _ _ _ h=>h) (Or.inl ⟨kCY,?_⟩) ?_ ?_;rotate_left
 ·intro w';go_simp
  with_reducible rfl
 rotate_left
 ·simp only[Act.put,kA0,List.set_cons_zero,List.set_cons_succ,zAc,zAd];rfl
 refine zAp (i:=3) (N:=some 26) (v:=?_) (a':=?_) #[true,true,true,true,false,false,false,false,false,false,false,false,false,false,false,false,false,false] rfl rfl kCU (fun _ _ _ h=>h) (Or.inl ⟨kCY,?_⟩) ?_ ?_;rotate_left
 ·intro w';go_simp
  with_reducible rfl
 rotate_left
 ·simp only[Act.put,kA0,List.set_cons_zero,List.set_cons_succ,zAc,zAd];rfl
 refine zD5 (i:=4) (N:=some 27) (v:=?_) (a':=?_) #[true,true,true,true,true,false,false,false,false,false,false,false,false,false,false,false,false,false] rfl rfl kCU (fun _ _ _ h=>h) (Or.inl ⟨kCY,?_⟩) hHeld ?_ ?_;rotate_left
 ·rintro w'⟨s0,s1,s2,s3⟩;go_simp
  with_reducible rfl
 rotate_left
 ·simp only[Act.put,kA0,List.set_cons_zero,List.set_cons_succ,zAc,zAd];rfl
 refine zAp (i:=5) (N:=some 28) (v:=?_) (a':=?_) #[true,true,true,true,true,true,false,false,false,false,false,false,false,false,false,false,false,false] rfl rfl kCU (fun _ _ _ h=>h) (Or.inl ⟨kCY,?_⟩) ?_ ?_;rotate_left
 ·intro w';go_simp
  with_reducible rfl
 rotate_left
 ·simp only[Act.put,kA0,List.set_cons_zero,List.set_cons_succ,zAc,zAd];rfl
 refine zAp (i:=6) (N:=some 29) (v:=?_) (a':=?_) #[true,true,true,true,true,true,true,false,false,false,false,false,false,false,false,false,false,false] rfl rfl kCU (fun _ _ _ h=>h) (Or.inl ⟨kCY,?_⟩) ?_ ?_;rotate_left
 ·intro w';go_simp
  with_reducible rfl
 rotate_left
 ·simp only[Act.put,kA0,List.set_cons_zero,List.set_cons_succ,zAc,zAd];rfl
 refine zAp (i:=7) (N:=some 30) (v:=?_) (a':=?_) #[true,true,true,true,true,true,true,true,false,false,false,false,false,false,false,false,false,false] rfl rfl kCU (fun _ _ _ h=>h) (Or.inl ⟨kCY,?_⟩) ?_ ?_;rotate_left
 ·intro w';go_simp
  with_reducible rfl
 rotate_left
 ·simp only[Act.put,kA0,List.set_cons_zero,List.set_cons_succ,zAc,zAd];rfl
 refine zD5 (i:=8) (N:=some 31) (v:=?_) (a':=?_) #[true,true,true,true,true,true,true,true,true,false,false,false,false,false,false,false,false,false] rfl rfl kCU (fun _ _ _ h=>h) (Or.inl ⟨kCY,?_⟩) hHeld ?_ ?_;rotate_left
 ·rintro w'⟨s0,s1,s2,s3⟩;go_simp
  with_reducible rfl
 rotate_left
 ·simp only[Act.put,kA0,List.set_cons_zero,List.set_cons_succ,zAc,zAd];rfl
 refine zAp (i:=9) (N:=some 32) (v:=?_) (a':=?_) #[true,true,true,true,true,true,true,true,true,true,false,false,false,false,false,false,false,false] rfl rfl kCU (fun _ _ _ h=>h) (Or.inl ⟨kCY,?_⟩) ?_ ?_;rotate_left
 ·intro w';go_simp
  with_reducible rfl
 rotate_left
 ·simp only[Act.put,kA0,List.set_cons_zero,List.set_cons_succ,zAc,zAd];rfl
 refine zAp (i:=10) (N:=some 33) (v:=?_) (a':=?_) #[true,true,true,true,true,true,true,true,true,true,true,false,false,false,false,false,false,false] rfl rfl kCU (fun _ _ _ h=>h) (Or.inl ⟨kCY,?_⟩) ?_ ?_;rotate_left
 ·intro w';go_simp
  with_reducible rfl
 rotate_left
 ·simp only[Act.put,kA0,List.set_cons_zero,List.set_cons_succ,zAc,zAd];rfl
 refine zAp (i:=11) (N:=some 34) (v:=?_) (a':=?_) #[true,true,true,true,true,true,true,true,true,true,true,true,false,false,false,false,false,false] rfl rfl kCU (fun _ _ _ h=>h) (Or.inl ⟨kCY,?_⟩) ?_ ?_;rotate_left
 ·intro w';go_simp
  with_reducible rfl
 rotate_left
 ·simp only[Act.put,kA0,List.set_cons_zero,List.set_cons_succ,zAc,zAd];rfl
 refine zAp (i:=12) (N:=some 35) (v:=?_) (a':=?_) #[true,true,true,true,true,true,true,true,true,true,true,true,true,false,false,false,false,false] rfl rfl kCU (fun _ _ _ h=>h) (Or.inl ⟨kCY,?_⟩) ?_ ?_;rotate_left
 ·intro w';go_simp
  with_reducible rfl
 rotate_left
 ·simp only[Act.put,kA0,List.set_cons_zero,List.set_cons_succ,zAc,zAd];rfl
 refine zD5 (i:=13) (N:=some 36) (v:=?_) (a':=?_) #[true,true,true,true,true,true,true,true,true,true,true,true,true,true,false,false,false,false] rfl rfl kCU (fun _ _ _ h=>h) (Or.inl ⟨kCY,?_⟩) hHeld ?_ ?_;rotate_left
 ·rintro w'⟨s0,s1,s2,s3⟩;go_simp
  with_reducible rfl
 rotate_left
 ·simp only[Act.put,kA0,List.set_cons_zero,List.set_cons_succ,zAc,zAd];rfl
 refine one_ (i:=14) (N:=some 37) #[true,true,true,true,true,true,true,true,true,true,true,true,true,true,true,false,false,false] rfl rfl kCU kCW (fun K hK=>?_);have hr5:=Hrc.out _ M4d.st.low;refine goes_ Tryz.func141 kCU rfl #[.agg #[.string num,.string t.f1]] kCY rfl rfl kDd ?_
 with_reducible refine (hr5).mono ?_
 rintro e w5⟨rfl,hb5⟩;refine⟨_,rfl,?_⟩;refine hK.out _ _ ⟨(zA0 hb5 k0),(zA0 hb5 k1),(zA0 hb5 z1),(zA0 hb5 z2)⟩ (fun hHeld=>?_);clear hK K;refine zC9 (a':=?_) ?_ ?_;rotate_left
 ·show Act.put _ (some 37) _=_;simp only[Act.put,kA0,List.set_cons_zero,List.set_cons_succ,zAc,zAd];rfl
 refine zAp (i:=15) (N:=some 38) (v:=?_) (a':=?_) #[true,true,true,true,true,true,true,true,true,true,true,true,true,true,true,true,false,false] rfl rfl kCU (fun _ _ _ h=>h) (Or.inl ⟨kCY,?_⟩) ?_ ?_;rotate_left
 ·intro w';go_simp
  with_reducible rfl
 rotate_left
 ·simp only[Act.put,kA0,List.set_cons_zero,List.set_cons_succ,zAc,zAd];rfl
 refine zAp (i:=16) (N:=some 39) (v:=?_) (a':=?_) #[true,true,true,true,true,true,true,true,true,true,true,true,true,true,true,true,true,false] rfl rfl kCU (fun _ _ _ h=>h) (Or.inl ⟨kCY,?_⟩) ?_ ?_;rotate_left
 ·intro w';go_simp
  with_reducible rfl
 rotate_left
 ·simp only[Act.put,kA0,List.set_cons_zero,List.set_cons_succ,zAc,zAd];rfl
 refine one_ (i:=17) (N:=some 40) #[true,true,true,true,true,true,true,true,true,true,true,true,true,true,true,true,true,true] rfl rfl kCU kCW (fun K hK=>?_);refine goes_ Tryz.func93 kCU rfl #[.pointer (some ⟨R,0,none⟩),.bool true] kCY rfl rfl kDd ?_
 with_reducible refine (zD9 R w5).mono ?_
 rintro e w6⟨rfl,hw6⟩;refine⟨_,rfl,?_⟩;subst hw6;refine hK.out _ _ ⟨(zA0 hb5 k0),(zA0 hb5 k1),(zA0 hb5 z1),(zA0 hb5 z2)⟩ (fun hHeld=>?_);clear hK K;refine zC9 (a':=?_) ?_ ?_;rotate_left
 ·show Act.put _ (some 40) _=_;simp only[Act.put,kA0,List.set_cons_zero,List.set_cons_succ,zAc,zAd];rfl
 refine done_ kCU ?_;have M5:=M4d.below hb5;have x5:=zA9 hb5 x4d;clear M4 M4d x4 x4d t4 t4d k0 k1 z1 z2 hb5 hne' hk' Hrc Hpk;have hnn:now<now+2+1:=kCT
 generalize now+2=n2 at *;obtain⟨a1,f1,-,-,lt⟩:=M5.st.rdr.cells;have K:=Took.next M5.st.rdr (kA3 _ _)
 have M6:=M5.go E hRw K hlt2;have x6:=K.blk x5 hXR;have hp3:=Hpk3.out _ M6.st.rdr;clear K;by_cases h3:t3.f0=3
 ·have hne3:(t3.f0==3)=true:=by rw[kAx];exact h3
  have hres:=Hres.out;rw[kAa h3] at hres;have Hr:=kA1 hres;have Hkd:=kA1 (Hkd3.out h3);have hl3:=Hlt3.out h3;clear hres Hres Hkd3 Hlt3 h3;go_wp2_with fail;refine hp3.mono ?_;rintro e w7 ⟨rfl,hb7⟩;have M7:=M6.below hb7;have x7:=zA9 hb7 x6;have hk:=Hkd.out _ M7.st.rdr;clear hp3 hb7 M5 M6 x5 x6 a1 f1;go_wp2_with fail;refine hk.mono ?_;rintro e w8 ⟨rfl,k8⟩;have M8:=M7.go E hRw k8 hl3;have x8:=k8.blk x7 hXR;obtain⟨⟨c0,c1,c2,c3,c4,c5⟩,⟨y0,y1,y2,y3,y4,y5⟩,xl⟩:=zA6 x8;obtain⟨⟨b0,b1,b2,b3,b4,b5⟩,⟨f0,f1,f2,f3,f4,f5⟩,rl⟩:=zA6 M8.res;have M9:=M8.setX E hRw hXR hXw x8 3 (.string t3.f1);have hfin:=fin6 (.int .i64 0) (.string num) (.string t.f1) (.string t3.f1) (.int .i64 0) (.slice none 0 0) M9.res;have hdone:=M9.done hRw (Ex.leaf ⟨0,⟨num,t.f1⟩,t3.f1,0,[]⟩ rfl) (show now<n2+1+1 by omega) (.int .i64 0) (.string num) (.string t.f1) (.string t3.f1) (.int .i64 0) (.slice none 0 0);simp only[set6] at hfin hdone;have HF:=kA1 hfin;have HD:=kA1 hdone;have hd1:=kAq hXw;have hd2:=kB4 hXw;clear hfin hdone M9 hk k8 M7 x7;go_wp2;rw[← Hr.out];exact kAi (zAg Tryz.results278 _ _ w.heap.size 31 _ (0,0) _ rfl HF.out Tryz.underlying31 rfl zAV) rfl HD.out
 ·have hne3:(t3.f0==3)=false:=by rw[kAd];exact h3
  have hres:=Hres.out;rw[kA9 h3] at hres;have Hr:=kA1 hres;clear hres Hres Hkd3 Hlt3 h3;go_wp2_with fail;refine hp3.mono ?_;rintro e w7 ⟨rfl,hb7⟩;have M7:=M6.below hb7;have x7:=zA9 hb7 x6;obtain⟨⟨c0,c1,c2,c3,c4,c5⟩,⟨y0,y1,y2,y3,y4,y5⟩,xl⟩:=zA6 x7;obtain⟨⟨b0,b1,b2,b3,b4,b5⟩,⟨f0,f1,f2,f3,f4,f5⟩,rl⟩:=zA6 M7.res;have hfin:=fin6 (.int .i64 0) (.string num) (.string t.f1) (.string ⟨#[]⟩) (.int .i64 0) (.slice none 0 0) M7.res;have hdone:=M7.done hRw (Ex.leaf ⟨0,⟨num,t.f1⟩,⟨#[]⟩,0,[]⟩ rfl) hnn (.int .i64 0) (.string num) (.string t.f1) (.string ⟨#[]⟩) (.int .i64 0) (.slice none 0 0);simp only[set6] at hfin hdone;have HF:=kA1 hfin;have HD:=kA1 hdone;clear hfin hdone hp3 hb7 M5 M6 M7 x5 x6 x7;go_wp2;rw[← Hr.out];exact kAi (zAg Tryz.results278 _ _ w.heap.size 31 _ (0,0) _ rfl HF.out Tryz.underlying31 rfl zAV) rfl HD.out
end Go.Proofs.YtjaobihcdkjmbaaGreatDoor
end
section
namespace Go.Proofs.YtjaobihcdkjmbaaGreatDoor
open Go.RowKit Go.Proofs.YtjaobihcdkjmbaaGreatDoorW.PrintWords Go.Proofs.YtjaobihcdkjmbaaGreatDoor.PReadTokens
theorem lit_any (W0:World) (R B:Nat) (ts:List S47) (en now:Nat) (w:World) (E:Env W0 R B ts) (hS:Start W0) (h:St W0 R B ts en now w) (h2:(tokP ts en now).f0=2) :
  Calls Tryz.prog 278 #[.pointer (some ⟨R,0,none⟩)] w (zAj w R ts en now (litS ts en chkR now)):=by
 unfold litS
 cases hbar:sk ts en (now+1) ⟨#[124]⟩ with
 | false =>
  rw[kA9 kCW];exact lit_plain W0 R B ts en now w E h h2 hbar
 | true =>
  rw[kAa rfl];by_cases hk:(tokP ts en (now+2)).f0=2
  ·by_cases hne:(tokP ts en (now+2)).f1.toList=[49]
   ·rw[kA9 (fun h=>h.2.1 hne)];exact lit_badC W0 R B ts en now w E hS h h2 hbar hk hne
   ·by_cases hc:chkR ⟨(tokP ts en now).f1,(tokP ts en (now+2)).f1⟩=0
    ·rw[kAa ⟨hk,hne,hc⟩];exact lit_quot W0 R B ts en now w E hS h h2 hbar hk hne hc
    ·rw[kA9 (fun h=>hc h.2.2)];exact lit_badD W0 R B ts en now w E hS h h2 hbar hk hne hc
  ·rw[kA9 (fun h=>hk h.1)];exact lit_badB W0 R B ts en now w E hS h h2 hbar hk
theorem pars_all (W0:World) (R B:Nat) (ts:List S47) (en:Nat) (E:Env W0 R B ts) (hS:Start W0) :
  ∀k m,ts.length<m+k→Pars W0 R B ts en 134 (zCY ts en chkR k) m:=by
 intro k
 induction k with
 | zero=>intro m hm now w hmn h;have:=h.pos;omega
 | succ k ih =>
  intro m hm;have hex:=ih (m+1) kCT;have hatom:Pars W0 R B ts en 252 (atomS ts en chkR (zCY ts en chkR k)) m:=atom_walk W0 R B ts en chkR _ m E (fun now w hmn h h2=>lit_any W0 R B ts en now w E hS h h2) hex;have helem:Pars W0 R B ts en 217 (zCk ts en chkR (zCY ts en chkR k)) m:=fun now w hmn h=>zF8 W0 R B ts en chkR _ m now w E h hmn hatom hex
  have hpow:Pars W0 R B ts en 180 (zCv ts en chkR (zCY ts en chkR k)) m:=fun now w hmn h=>power_walk W0 R B ts en chkR _ m now w E h hmn helem
  have hprod:Pars W0 R B ts en 160 (zAO ts en chkR (zCY ts en chkR k)) m:=fun now w hmn h=>zF5 W0 R B ts en chkR _ m now w E h hmn hpow
  have hsums:Pars W0 R B ts en 135 (zCQ ts en chkR (zCY ts en chkR k)) m:=sums_walk W0 R B ts en chkR (zCY ts en chkR k) m E hprod;intro now w hmn h;show Calls _ _ _ _ (zAj w R ts en now (exprB ts en chkR (zCY ts en chkR k) now));unfold exprB
  cases h1:sk ts en now ⟨#[108,101,116]⟩ with
  | true =>
   rw[kAa rfl];exact expr_let W0 R B ts en _ (m+1) now w E h kCT hex h1
  | false =>
   rw[kA9 kCW]
   cases h2:sk ts en now ⟨#[105,102]⟩ with
   | true =>
    rw[kAa rfl];exact expr_if W0 R B ts en chkR _ (m+1) now w E h kCT hex (fun now w hm h=>hsums now w kCT h) h1 h2
   | false =>
    rw[kA9 kCW]
    cases h3:sk ts en now ⟨#[116,97,98]⟩ with
    | true =>
     rw[kAa rfl];exact expr_tab W0 R B ts en now w E h h1 h2 h3 _ (fun w' h'=>loop_walk W0 R B ts en _ 10 (m+1) (now+1) w' E h' kCT hex) |>.mono (fun _ _ h=>h)
    | false =>
     rw[kA9 kCW]
     cases h4:sk ts en now ⟨#[115,117,109]⟩ with
     | true =>
      rw[kAa rfl];exact expr_sum W0 R B ts en now w E h h1 h2 h3 h4 _ (fun w' h'=>loop_walk W0 R B ts en _ 11 (m+1) (now+1) w' E h' kCT hex)
     | false =>
      rw[kA9 kCW];exact expr_plain W0 R B ts en now w E h h1 h2 h3 h4 _ (fun w' h'=>hsums now w' hmn h')
end Go.Proofs.YtjaobihcdkjmbaaGreatDoor
end
