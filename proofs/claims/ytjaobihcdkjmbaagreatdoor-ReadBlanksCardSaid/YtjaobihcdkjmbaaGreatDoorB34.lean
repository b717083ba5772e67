/- The law ReadBlanks answers true for every argument; a part of its proof. -/
import Derived.Test.YtjaobihcdkjmbaaGreatDoorBa
import Derived.Test.YtjaobihcdkjmbaaGreatDoorBb
import Derived.Test.YtjaobihcdkjmbaaGreatDoorB0
import Derived.Test.YtjaobihcdkjmbaaGreatDoorB7
import Derived.Test.YtjaobihcdkjmbaaGreatDoorB11
import Derived.Test.YtjaobihcdkjmbaaGreatDoorB19
import Derived.Test.YtjaobihcdkjmbaaGreatDoorB29
set_option linter.unusedVariables false
set_option linter.unusedSimpArgs false
namespace Go.Proofs.YtjaobihcdkjmbaaGreatDoor.PReadTokens
end Go.Proofs.YtjaobihcdkjmbaaGreatDoor.PReadTokens
namespace Go.Proofs.YtjaobihcdkjmbaaGreatDoorW.PrintWords
end Go.Proofs.YtjaobihcdkjmbaaGreatDoorW.PrintWords
set_option maxRecDepth 100000
set_option maxHeartbeats 2000000
section
namespace Go.Proofs.YtjaobihcdkjmbaaGreatDoor
open Go.RowKit Go.Proofs.YtjaobihcdkjmbaaGreatDoorW.PrintWords Go.Proofs.YtjaobihcdkjmbaaGreatDoor.PReadTokens
def chk0 (r:S28):Int:=if r.f1=⟨#[49]⟩∧(r.f0=⟨#[49]⟩∨r.f0=⟨#[50]⟩) then 0 else 1
theorem expr_tab (W0:World) (R B:Nat) (ts:List S47) (en now:Nat) (w:World) (E:Env W0 R B ts) (h:St W0 R B ts en now w)
  (h1:sk ts en now ⟨#[108,101,116]⟩=false) (h2:sk ts en now ⟨#[105,102]⟩=false) (h3:sk ts en now ⟨#[116,97,98]⟩=true) (r:PR)
  (hs:∀w',St W0 R B ts en (now+1) w'→Calls Tryz.prog 159 #[.pointer (some ⟨R,0,none⟩),.int .i64 10] w' (zAj w' R ts en (now+1) r)) :
  Calls Tryz.prog 134 #[.pointer (some ⟨R,0,none⟩)] w (zAj w R ts en now r):=by
 have hRw:=h.rdr.lt;have M0:=Mid.start h;have hnow:=h.pos;have few:=E.few;have hlt:=zAs h3;have H1:=kA1 (fun w' hr=>zAQ R ts now en ⟨#[108,101,116]⟩ w' hr hnow h1);have H2:=kA1 (fun w' hr=>zAQ R ts now en ⟨#[105,102]⟩ w' hr hnow h2);have H3:=kA1 (fun w' hr=>zAE R ts now en ⟨#[116,97,98]⟩ w' hr few h3);have HS:=kA1 hs;clear h h1 h2 h3 hs;have s1:=H1.out _ M0.st.rdr;go_enter Tryz.func134,Tryz.ntmps134;go_wp2_with fail;refine s1.mono ?_;rintro e w1 ⟨rfl,k1⟩;have M1:=M0.go E hRw k1 hnow;have s2:=H2.out _ M1.st.rdr;go_wp2_with fail;refine s2.mono ?_;rintro e w2 ⟨rfl,k2⟩;have M2:=M1.go E hRw k2 hnow;have s3:=H3.out _ M2.st.rdr;go_wp2_with fail;refine s3.mono ?_;rintro e w3 ⟨rfl,k3⟩;have M4:=M2.go E hRw k3 hlt;have hl:=HS.out _ M4.st;clear s1 s2 s3 k1 k2 k3 M0 M1 M2
 cases r with
 | error p =>
  unfold zAj zAk at hl;go_wp2_with (go_at_call 159;refine hl.mono ?_;rintro e w2 ⟨rfl,hg⟩);exact⟨rfl,rfl,kA6 M4.took.grown hg⟩
 | ok r =>
  obtain⟨x,n⟩:=r;unfold zAj at hl;go_wp2_with fail;refine hl.mono ?_;rintro e w5 ⟨hn1,hn2,v,rfl,hx,hk⟩;obtain⟨v5,A5,n5,c5,rfl,rfl,_,_⟩:=hx.cells;unfold exV;have M5:=M4.go E hRw hk hn2;have hx2:=hx.mono (fun k hk=>kBa M4.lt hk);obtain⟨⟨q0,q1,q2,q3,q4,q5⟩,⟨f0,f1,f2,f3,f4,f5⟩,xl2⟩:=zA6 M5.res;go_wp2;refine kAi (zAg Tryz.results134 _ _ w.heap.size 31 _ (0,0) _ rfl (fin6 _ _ _ _ _ _ M5.res) Tryz.underlying31 rfl zAV) rfl (M5.done hRw hx2 kCT _ _ _ _ _ _)
theorem expr_sum (W0:World) (R B:Nat) (ts:List S47) (en now:Nat) (w:World) (E:Env W0 R B ts) (h:St W0 R B ts en now w)
  (h1:sk ts en now ⟨#[108,101,116]⟩=false) (h2:sk ts en now ⟨#[105,102]⟩=false) (h3:sk ts en now ⟨#[116,97,98]⟩=false) (h4:sk ts en now ⟨#[115,117,109]⟩=true) (r:PR)
  (hs:∀w',St W0 R B ts en (now+1) w'→Calls Tryz.prog 159 #[.pointer (some ⟨R,0,none⟩),.int .i64 11] w' (zAj w' R ts en (now+1) r)) :
  Calls Tryz.prog 134 #[.pointer (some ⟨R,0,none⟩)] w (zAj w R ts en now r):=by
 have hRw:=h.rdr.lt;have M0:=Mid.start h;have hnow:=h.pos;have few:=E.few;have hlt:=zAs h4;have H1:=kA1 (fun w' hr=>zAQ R ts now en ⟨#[108,101,116]⟩ w' hr hnow h1);have H2:=kA1 (fun w' hr=>zAQ R ts now en ⟨#[105,102]⟩ w' hr hnow h2);have H3:=kA1 (fun w' hr=>zAQ R ts now en ⟨#[116,97,98]⟩ w' hr hnow h3);have H4:=kA1 (fun w' hr=>zAE R ts now en ⟨#[115,117,109]⟩ w' hr few h4);have HS:=kA1 hs;clear h h1 h2 h3 h4 hs;have s1:=H1.out _ M0.st.rdr;go_enter Tryz.func134,Tryz.ntmps134;go_wp2_with fail;refine s1.mono ?_;rintro e w1 ⟨rfl,k1⟩;have M1:=M0.go E hRw k1 hnow;have s2:=H2.out _ M1.st.rdr;go_wp2_with fail;refine s2.mono ?_;rintro e w2 ⟨rfl,k2⟩;have M2:=M1.go E hRw k2 hnow;have s3:=H3.out _ M2.st.rdr;go_wp2_with fail;refine s3.mono ?_;rintro e w3 ⟨rfl,k3⟩;have M3:=M2.go E hRw k3 hnow;have s4:=H4.out _ M3.st.rdr;go_wp2_with fail;refine s4.mono ?_;rintro e w4 ⟨rfl,k4⟩;have M4:=M3.go E hRw k4 hlt;have hl:=HS.out _ M4.st;clear s1 s2 s3 s4 k1 k2 k3 k4 M0 M1 M2 M3
 cases r with
 | error p =>
  unfold zAj zAk at hl;go_wp2_with (go_at_call 159;refine hl.mono ?_;rintro e w2 ⟨rfl,hg⟩);exact⟨rfl,rfl,kA6 M4.took.grown hg⟩
 | ok r =>
  obtain⟨x,n⟩:=r;unfold zAj at hl;go_wp2_with fail;refine hl.mono ?_;rintro e w5 ⟨hn1,hn2,v,rfl,hx,hk⟩;obtain⟨v5,A5,n5,c5,rfl,rfl,_,_⟩:=hx.cells;unfold exV;have M5:=M4.go E hRw hk hn2;have hx2:=hx.mono (fun k hk=>kBa M4.lt hk);obtain⟨⟨q0,q1,q2,q3,q4,q5⟩,⟨f0,f1,f2,f3,f4,f5⟩,xl2⟩:=zA6 M5.res;go_wp2;refine kAi (zAg Tryz.results134 _ _ w.heap.size 31 _ (0,0) _ rfl (fin6 _ _ _ _ _ _ M5.res) Tryz.underlying31 rfl zAV) rfl (M5.done hRw hx2 kCT _ _ _ _ _ _)
end Go.Proofs.YtjaobihcdkjmbaaGreatDoor
end
