/- The law ReadBlanks answers true for every argument; a part of its proof. -/
import Derived.Test.YtjaobihcdkjmbaaGreatDoorBa
import Derived.Test.YtjaobihcdkjmbaaGreatDoorBb
import Derived.Test.YtjaobihcdkjmbaaGreatDoorB0
import Derived.Test.YtjaobihcdkjmbaaGreatDoorB7
import Derived.Test.YtjaobihcdkjmbaaGreatDoorB9
import Derived.Test.YtjaobihcdkjmbaaGreatDoorB11
import Derived.Test.YtjaobihcdkjmbaaGreatDoorB12
import Derived.Test.YtjaobihcdkjmbaaGreatDoorB19
import Derived.Test.YtjaobihcdkjmbaaGreatDoorB23
set_option linter.unusedVariables false
set_option linter.unusedSimpArgs false
namespace Go.Proofs.YtjaobihcdkjmbaaGreatDoor.PReadTokens
end Go.Proofs.YtjaobihcdkjmbaaGreatDoor.PReadTokens
namespace Go.Proofs.YtjaobihcdkjmbaaGreatDoorW.PrintWords
end Go.Proofs.YtjaobihcdkjmbaaGreatDoorW.PrintWords
set_option maxRecDepth 100000
set_option maxHeartbeats 4000000
section
namespace Go.Proofs.YtjaobihcdkjmbaaGreatDoor
open Go.RowKit Go.Proofs.YtjaobihcdkjmbaaGreatDoorW.PrintWords Go.Proofs.YtjaobihcdkjmbaaGreatDoor.PReadTokens
theorem wp_scope_again {P:Program} {a:Act} {w:World} {Q:Exit→Act→World→Prop} {x rest:Code} (l:Nat) (J:Nat→Act→World→Prop) (n0:Nat) (hf:findLabel (x.seq ((Code.label l).seq rest)) l=some (Code.skip.seq rest))
  (pass:∀k a w,J k a w→rest.wp P (Exit.jump l (fun a' w'=>∃k',k'<k∧J k' a' w') Q) a w)
  (first:x.wp P (Exit.then (fun a w=>J n0 a w) (Exit.jump l (fun _ _=>False) Q)) a w):(Code.scope (x.seq ((Code.label l).seq rest))).wp P Q a w:=by
 have all:(x.seq ((Code.label l).seq rest)).wp P (Exit.jump l (fun a w=>∃k,J k a w) Q) a w:=by
  refine wp_seq (Code.wp_mono ?_ first);intro e a w h
  cases e with
  | normal =>
   refine wp_seq (wp_label ?_);refine Code.wp_mono ?_ (pass n0 a w h);intro e a w h
   cases e with
   | goto l'=>exact⟨h.1,by obtain⟨_,k',_,hk⟩:=h;exact⟨k',hk⟩⟩
   | _=>exact h
  | goto l'=>exact (h.2:False).elim
  | _=>exact h
 intro b k cs;have hg:gotoIn l (.inScope (x.seq ((Code.label l).seq rest)) :: k)=some (.code (Code.skip.seq rest) :: .inScope (x.seq ((Code.label l).seq rest)) :: k):=by simp[gotoIn,hf]
 have key:∀n a w,J n a w→∃e a' w',Q e a' w'∧Arrives P (lone (b.at a (.code (Code.skip.seq rest) :: .inScope (x.seq ((Code.label l).seq rest)) :: k)) cs w) b k cs e a' w':=by
  intro n
  induction n using Nat.strongRecOn with
  | _ n ih =>
   intro a w hJ;have hw:(Code.skip.seq rest).wp P (Exit.jump l (fun a' w'=>∃k',k'<n∧J k' a' w') Q) a w:=wp_seq (wp_skip (pass n a w hJ));obtain⟨e,a₁,w₁,hq,harr⟩:=hw b (.inScope (x.seq ((Code.label l).seq rest)) :: k) cs
   cases e with
   | normal=>exact⟨.normal,a₁,w₁,hq,Steps.trans harr (.one step_inScope)⟩
   | exit id=>exact⟨.exit id,a₁,w₁,hq,fun k' hk=>harr k' (by simp[exitTo,hk])⟩
   | goto l' =>
    obtain⟨rfl,k',hlt,hJ'⟩:=hq;obtain⟨e₂,a₂,w₂,hq₂,harr₂⟩:=ih k' hlt a₁ w₁ hJ';exact⟨e₂,a₂,w₂,hq₂,.of_steps (harr _ hg) harr₂⟩
   | ret=>exact⟨_,a₁,w₁,hq,harr⟩
   | panic ch=>exact⟨_,a₁,w₁,hq,harr⟩
   | outgrown=>exact⟨_,a₁,w₁,hq,harr⟩
 obtain⟨e,a₁,w₁,hq,harr⟩:=all b (.inScope (x.seq ((Code.label l).seq rest)) :: k) cs
 cases e with
 | normal=>exact⟨.normal,a₁,w₁,hq,.head kCS (Steps.trans harr (.one step_inScope))⟩
 | exit id=>exact⟨.exit id,a₁,w₁,hq,fun k' hk=>.head kCS (harr k' (by simp[exitTo,hk]))⟩
 | goto l' =>
  obtain⟨rfl,k',hJ'⟩:=hq;obtain⟨e₂,a₂,w₂,hq₂,harr₂⟩:=key k' a₁ w₁ hJ';exact⟨e₂,a₂,w₂,hq₂,.of_steps (.head kCS (harr _ hg)) harr₂⟩
 | ret=>exact⟨_,a₁,w₁,hq,.of_steps (.one kCS) harr⟩
 | panic ch=>exact⟨_,a₁,w₁,hq,.of_steps (.one kCS) harr⟩
 | outgrown=>exact⟨_,a₁,w₁,hq,.of_steps (.one kCS) harr⟩
theorem zFC {w:World} {S:Nat→Prop} {v:Value} {xs:List S31} (h:k31.R 31 w 0 S v xs) :
  ∃ao cap inner,v=.slice ao xs.length cap∧xs.length≤cap∧(ao=none→xs.length=0∧cap=0)∧inner.length=xs.length*6∧(∀b,ao=some b→∀j u,inner[j]?=some u→w.cell? (b.add j)=some u)∧Reps (k31.M w 0 S) 6 xs inner:=by
 obtain⟨h0,inner,ho,hr⟩:=h;have hr':Reps (k31.M w 0 S) 6 xs inner:=hr.imp_ (fun _ _ hp=>k31.M_mono (fun k hk=>hk.1) hp);obtain⟨hlen,⟨rfl,hn⟩ | ⟨g,cap,cur,rfl,_,_,hcap,_,_,_⟩⟩:=id ho
 ·refine⟨none,0,inner,by rw[hn],kCT,fun _=>⟨hn,rfl⟩,hlen,fun b hb=>(by cases hb),hr'⟩
 ·refine⟨_,cap,inner,rfl,hcap,fun hb=>(by cases hb),hlen,fun b hb j u hu=>?_,hr'⟩;injection hb with hb;subst hb;exact World.ownsRow.cells ho (g:=g) rfl j u hu
theorem row_append {w w':World} {S:Nat→Prop} {v' v5:Value} {acc:List S31} {x:S31} {inner:List Value} (hr:Reps (k31.M w 0 S) 6 acc inner) (hx:Ex w S x (exV x v5)) (hS:∀k,w.heap.size≤k→S k)
  (ho:w'.ownsRow w.heap.size 31 6 v' (acc.length+1) (inner++[.int .i64 x.f0,.string x.f1.f0,.string x.f1.f1,.string x.f2,.int .i64 x.f3,v5])) (hg:w.grownBy w' none):k31.R 31 w' 0 S v' (acc++[x]):=by
 obtain⟨u,_,_,_,h1,_,_,hM⟩:=hx.cells;obtain rfl:=zCe h1;have hall:=hr.snoc hM rfl;refine⟨fun k hk=>hS k (zFm ho k hk),_,?_,hall.imp_ (fun y c hy=>?_)⟩
 ·rw[kAv,List.length_singleton];exact zDK ho (kAT _)
 ·have h1:=k31.M_bound hy;have h2:=k31.M_move (w1:=w') (fun k hk=>hg.block k hk.2.2.1 (fun e=>by cases e)) h1;exact k31.M_mono (fun k hk=>⟨hk.1,fun e=>by have:=zFm ho k e.symm;have:=hk.2.2.1;omega⟩) h2
theorem list_facts {w2:World} {S:Nat→Prop} {ao:Option Addr} {n cap:Nat} {acc:List S31} (h:k31.R 31 w2 0 S (.slice ao n cap) acc) (h8:acc.length<8) (x:S31) (v5:Value) (h1:v5.oneCell'=true) :
  ∃inner:List Value,inner.length=acc.length*6 ∧
   (∀b,ao=some b→∀j u,inner[j]?=some u→(w2.alloc (.cells #[.int .i64 x.f0,.string x.f1.f0,.string x.f1.f1,.string x.f2,.int .i64 x.f3,v5] 31)).cell? (b.add j)=some u) ∧
   (∀j u,[.int .i64 x.f0,.string x.f1.f0,.string x.f1.f1,.string x.f2,.int .i64 x.f3,v5][j]?=some u→(w2.alloc (.cells #[.int .i64 x.f0,.string x.f1.f0,.string x.f1.f1,.string x.f2,.int .i64 x.f3,v5] 31)).cell? ((⟨w2.heap.size,0,none⟩:Addr).add j)=some u) ∧
   (∀u ∈ [.int .i64 x.f0,.string x.f1.f0,.string x.f1.f1,.string x.f2,.int .i64 x.f3,v5],u.oneCell'=true) ∧
   (ao=none→acc.length=0∧acc.length=0)∧acc.length+1≤maxLen∧(acc.length+1)*88≤140737488355328∧Reps (k31.M (w2.alloc (.cells #[.int .i64 x.f0,.string x.f1.f0,.string x.f1.f1,.string x.f2,.int .i64 x.f3,v5] 31)) 0 S) 6 acc inner:=by
 obtain⟨ao',cap',inner,he,hcap,hao,hin,hol,hrep⟩:=zFC h;injection he with he1 he2 he3;subst he1;refine⟨inner,hin,fun b hb j u hu=>?_,fun j u hu=>?_,fun u hu=>?_,fun hb=>⟨(hao hb).1,(hao hb).1⟩,by simp only[maxLen];omega,kCT,hrep.imp_ (fun _ _ hp=>Kd.M_below hp ((kA3 _ _).alloc (kA2 _) _))⟩
 ·have:=hol b hb j u hu;rw[kBt _ _ _ (kAE w2 _ this)];exact this
 ·have hn:=zA4 w2 (.cells #[.int .i64 x.f0,.string x.f1.f0,.string x.f1.f1,.string x.f2,.int .i64 x.f3,v5] 31);have hj:j<6:=by
   have:=kAS.1 hu;obtain⟨h,_⟩:=this;exact h
  rw[zC7];have e:=zA1 hn j
  try simp only[kAH]
  rw[e];rw[← hu];simp
 ·simp only[kAI,kB9,kCi] at hu;rcases hu with rfl | rfl | rfl | rfl | rfl | rfl
  all_goals first | rfl | exact h1
def zDp (w:World) (R:Nat) (ts:List S47) (en now:Nat):Except Int (List S31×Nat)→Ending→World→Prop
 | .ok (xs,n),e,w'=>now<n∧n≤ts.length∧∃v,e=.returned v∧k31.R 31 w' 0 (From w.heap.size) v xs∧Took w R ts n en w'
 | .error p,e,w'=>e=zAk p∧w.grownBy w' (some R)
structure Gat (W0:World) (R B:Nat) (ts:List S47) (en:Nat) (w wr:World) (acc:List S31) (n:Nat) (v:Value):Prop where
 st:St W0 R B ts en n wr
 took:Took w R ts n en wr
 val:k31.R 31 wr 0 (From w.heap.size) v acc
theorem Gat.below {W0:World} {R B:Nat} {ts:List S47} {en:Nat} {w wr w1:World} {acc:List S31} {n:Nat} {v:Value} (G:Gat W0 R B ts en w wr acc n v) (hb:Below wr.heap.size wr w1):Gat W0 R B ts en w w1 acc n v :=
 ⟨G.st.below hb,G.took.below hb,Kd.R_below G.val hb⟩
theorem Gat.go {W0:World} {R B:Nat} {ts:List S47} {en:Nat} {w wr w1:World} {acc:List S31} {n n1:Nat} {v:Value} (E:Env W0 R B ts) (hR:R<w.heap.size) (G:Gat W0 R B ts en w wr acc n v) (k:Took wr R ts n1 en w1) (hn:n1≤ts.length):Gat W0 R B ts en w w1 acc n1 v :=
 ⟨G.st.took E k hn,G.took.trans k,Kd.R_grown G.val k.grown (fun j hj e=>by injection e with e;simp only[From] at hj;omega)⟩
theorem info31:(Tryz.prog.info? 31).map (fun i=>(i.zero,i.size,i.bytes))=some (some (.agg #[.int .i64 0,.string ⟨#[]⟩,.string ⟨#[]⟩,.string ⟨#[]⟩,.int .i64 0,.slice none 0 0]),6,88):=kCU
theorem list_walk (W0:World) (R B:Nat) (ts:List S47) (en:Nat) (ex:Nat→PR) (cl:ByteArray) (m now:Nat) (w:World) (E:Env W0 R B ts) (h:St W0 R B ts en now w) (hm:m+1≤now)
  (hex:Pars W0 R B ts en 134 ex (m+1)) :
  Calls Tryz.prog 279 #[.pointer (some ⟨R,0,none⟩),.string cl] w (zDp w R ts en now (zEQ ts en ex cl 8 [] now)):=by
 have few:=E.few;have hRw:=h.rdr.lt;have HX:=kA1 hex;have H:=kA1 h;generalize hresL:zEQ ts en ex cl 8 [] now=res;have HresL:=kA1 hresL;clear hex h hresL;go_enter Tryz.func279,Tryz.ntmps279;go_wp2_with fail;refine wp_scope_again 0 (fun k a' w'=>∃(acc:List S31) (n:Nat) (vl:Value) (u6 u7 u8 u9 u10 u11 u12 u13 u14 u15 u16 u17 u18 u19 u20 u21 u22 u23 u24 u25 u26 u27 u28 u29 u30 u31 u32 u33 u34:Value),a'={ tmps:=#[.pointer (some ⟨R,0,none⟩),.string cl,undef,undef,.slice none 0 0,vl,u6,u7,u8,u9,u10,u11,u12,u13,u14,u15,u16,u17,u18,u19,u20,u21,u22,u23,u24,u25,u26,u27,u28,u29,u30,u31,u32,u33,u34],defers:=[] } ∧
  k+acc.length=8∧0<k∧now≤n∧Gat W0 R B ts en w w' acc n vl∧Hid (zEQ ts en ex cl k acc n=res)) 8 rfl ?pass ?first
 case first =>
  go_wp2_with fail;refine⟨[],now,_,_,_,_,_,_,_,_,_,_,_,_,_,_,_,_,_,_,_,_,_,_,_,_,_,_,_,_,_,_,rfl,rfl,kCT,kCT,⟨H.out,Took.refl H.out.rdr,Kd.R_nil _ _ _ _ _⟩,HresL⟩
 case pass =>
  rintro k a' wr⟨acc,n,vl,u6,u7,u8,u9,u10,u11,u12,u13,u14,u15,u16,u17,u18,u19,u20,u21,u22,u23,u24,u25,u26,u27,u28,u29,u30,u31,u32,u33,u34,rfl,hk8,hk0,hnn,G,Hres⟩;clear HresL;obtain⟨ao,cap,inner,rfl,hcap,hao,hin,hol,hrep⟩:=zFC G.val;obtain⟨k,rfl⟩:∃j,k=j+1:=⟨k-1,kCT⟩;have Gd:=G.below ((kA3 _ wr).drew);have hp1:=HX.out n _ kCT Gd.st;obtain⟨-,-,hR3,-,hRl⟩:=Gd.st.rdr.cells
  cases hc:ex n with
  | error p =>
   rw[hc] at hp1;unfold zAj zAk at hp1;have Hres':Hid (res=.error p):=by
    have:=Hres.out;unfold zEQ at this;rw[hc] at this;exact kA1 this.symm
   clear hc;go_wp2_with fail;refine kB2 (S:=(fun w'=>w'.cell? ⟨R,3,none⟩=some (.func (.func 134) #[] #[]))) kCU hR3 (fun hHeld=>?_);refine kAu (i:=0) (v:=?v0c1) rfl kCU kCU kCU (fun _ _ _ h=>h) (Or.inl ⟨kCY,?hy0c1⟩) kD0 ?rest0c1
   case hy0c1=>(intro w hSw;(try dsimp only at hSw);go_simp;try (with_reducible rfl))
   try simp only[Act.put,kA0,List.set_cons_zero,List.set_cons_succ]
   refine kAu (i:=1) (v:=?v1c2) rfl kCU kCU kCU (fun _ _ _ h=>h) (Or.inl ⟨kCY,?hy1c2⟩) kD0 ?rest1c2
   case hy1c2=>(intro w hSw;(try dsimp only at hSw);go_simp;try (with_reducible rfl))
   try simp only[Act.put,kA0,List.set_cons_zero,List.set_cons_succ]
   refine kAu (i:=2) (v:=?v2c3) rfl kCU kCU kCU (fun _ _ _ h=>h) (Or.inl ⟨kCY,?hy2c3⟩) kD0 ?rest2c3
   case hy2c3=>(intro w hSw;(try dsimp only at hSw);go_simp;try (with_reducible rfl))
   try simp only[Act.put,kA0,List.set_cons_zero,List.set_cons_succ]
   refine kAu (i:=3) (v:=?v3c4) rfl kCU kCU kCU (fun _ _ _ h=>h) (Or.inl ⟨kCY,?hy3c4⟩) kD0 ?rest3c4
   case hy3c4=>(intro w hSw;(try dsimp only at hSw);go_simp;try (with_reducible rfl))
   try simp only[Act.put,kA0,List.set_cons_zero,List.set_cons_succ]
   refine kAu (i:=4) (v:=?v4c5) rfl kCU kCU kCU (fun _ _ _ h=>h) (Or.inl ⟨kCY,?hy4c5⟩) kD0 ?rest4c5
   case hy4c5=>(intro w hSw;(try dsimp only at hSw);go_simp;try (with_reducible rfl))
   try simp only[Act.put,kA0,List.set_cons_zero,List.set_cons_succ]
   refine kAu (i:=5) (v:=?v5c6) rfl kCU kCU kCU (fun _ _ _ h=>h) (Or.inl ⟨kCY,?hy5c6⟩) kD0 ?rest5c6
   case hy5c6=>(intro w hSw;(try dsimp only at hSw);go_simp;try (with_reducible rfl))
   try simp only[Act.put,kA0,List.set_cons_zero,List.set_cons_succ]
   refine kAu (i:=6) (v:=?v6c7) rfl kCU kCU kCU (fun _ _ _ h=>h) (Or.inl ⟨kCY,?hy6c7⟩) kD0 ?rest6c7
   case hy6c7=>(intro w hSw;(try dsimp only at hSw);go_simp;try (with_reducible rfl))
   try simp only[Act.put,kA0,List.set_cons_zero,List.set_cons_succ]
   refine kAu (i:=7) (v:=?v7c8) rfl kCU kCU kCU (fun _ _ _ h=>h) (Or.inl ⟨kCY,?hy7c8⟩) kD0 ?rest7c8
   case hy7c8=>(intro w hSw;(try dsimp only at hSw);go_simp;try (with_reducible rfl))
   try simp only[Act.put,kA0,List.set_cons_zero,List.set_cons_succ]
   refine kAu (i:=8) (v:=?v8c9) rfl kCU kCU kCU (fun _ _ _ h=>h) (Or.inl ⟨kCY,?hy8c9⟩) kD0 ?rest8c9
   case hy8c9=>(intro w hSw;(try dsimp only at hSw);go_simp;try (with_reducible rfl))
   try simp only[Act.put,kA0,List.set_cons_zero,List.set_cons_succ]
   refine kAu (i:=9) (v:=?v9c10) rfl kCU kCU kCU (fun _ _ _ h=>h) (Or.inl ⟨kCY,?hy9c10⟩) kD0 ?rest9c10
   case hy9c10=>(intro w hSw;(try dsimp only at hSw);go_simp;try (with_reducible rfl))
   try simp only[Act.put,kA0,List.set_cons_zero,List.set_cons_succ]
   refine kAu (i:=10) (v:=?v10c11) rfl kCU kCU kCU (fun _ _ _ h=>h) (Or.inl ⟨kCY,?hy10c11⟩) kD0 ?rest10c11
   case hy10c11=>(intro w hSw;(try dsimp only at hSw);go_simp;try (with_reducible rfl))
   try simp only[Act.put,kA0,List.set_cons_zero,List.set_cons_succ]
   refine kBJ (rs:=[11]) kCU kCV ?_;refine kBz rfl (fun K hK=>?_) kBF;go_simp;go_wp2_with (go_at_call 134;refine hp1.mono ?_;rintro e w2 ⟨rfl,hg2⟩);rw[Hres'.out];exact⟨rfl,rfl,kA6 Gd.took.grown hg2⟩
  | ok r =>
   obtain⟨x,n1⟩:=r;rw[hc] at hp1;unfold zAj at hp1;have Hres1:Hid ((if (acc++[x]).length<8∧sk ts en n1 ⟨#[44]⟩=true then zEQ ts en ex cl k (acc++[x]) (n1+1) else if sk ts en n1 cl=true then .ok (acc++[x],n1+1) else .error (atP ts en n1))=res):=by
    have:=Hres.out;unfold zEQ at this;rw[hc] at this;exact kA1 this
   clear hc Hres;obtain⟨i0,hi,hzz⟩:=kBS.1 info31;simp only[Prod.mk.injEq] at hzz;obtain⟨hz0,hz1,hz2⟩:=hzz;have hacc8:acc.length<8:=kCT
   go_wp2_with fail
   go_region_law ((first
    | (refine step_append_grows rfl (.tmp 11) (.tmp 18) 29 rfl 31 i0 _ 6 88 Tryz.underlying29 hi hz0 hz1 hz2 rfl ?_ ao acc.length acc.length inner3 rfl ?_ hin3 hol3 ⟨w2.heap.size,0,none⟩ 1 1 [.int .i64 x.f0,.string x.f1.f0,.string x.f1.f1,.string x.f2,.int .i64 x.f3,.slice A5 n5 c5] rfl rfl hnew3 hone3 ?_ ?_ ?_ ?_;(· decide);(· exact hao3);(· omega);(· exact hsm1);(· exact hsm2);intro v4 w4 ho4 hg4)
    | (go_simp;go_at_call 134;refine hp1.mono ?_;rintro e w2 ⟨hn1,hn2,vy,rfl,hy,hk2⟩;obtain⟨v5,A5,n5,c5,rfl,rfl,_,_⟩:=hy.cells;obtain⟨inner3,hin3,hol3,hnew3,hone3,hao3,hsm1,hsm2,hr3⟩:=list_facts (Gd.go E hRw hk2 hn2).val kCT x (.slice A5 n5 c5) rfl;unfold exV)))
   all_goals
    have hb4:=(kA3 _ _).grown hg4 (kA2 _) (fun j e=>by cases e);have G2:=Gd.go E hRw hk2 hn2;have G3:=G2.below ((kA3 _ w2).alloc (kA2 _) (.cells #[.int .i64 x.f0,.string x.f1.f0,.string x.f1.f1,.string x.f2,.int .i64 x.f3,.slice A5 n5 c5] 31));have hws:=Gd.took.grown.size;have hws2:=G3.took.grown.size;have val4:=row_append hr3 ((hy.mono (fun j hj=>kAB hws hj)).below ((kA3 _ w2).alloc (kA2 _) _)) (fun j hj=>kAB hws2 hj) ho4 hg4;have G4:Gat W0 R B ts en w w4 (acc++[x]) n1 v4:=⟨G3.st.below hb4,G3.took.below hb4,val4⟩;obtain⟨ao4,cap4,inner4,rfl,-,-,-,-,-⟩:=zFC val4;have hlen:(acc++[x]).length=acc.length+1:=kCV
    rw[hlen] at G4;have hn1l:=hn2;have hnn1:now<n1:=kCT
    clear G3 G2 hb4 val4 ho4 hg4 hr3 hin3 hol3 hnew3 hone3 hao3 hsm1 hsm2 hws hws2 hp1 hrep hol hao hin hcap hy hk2 Gd G;generalize acc++[x]=acc1 at *;by_cases h8:acc1.length<8
    ·have h8i:(acc1.length:Int)<8:=kCT
     cases hs:sk ts en n1 ⟨#[44]⟩ with
     | true =>
      have hlt:=zAs hs;have hsk:=zAE R ts n1 en ⟨#[44]⟩ w4 G4.st.rdr few hs;have Hr:=Hres1.out;rw[kAa ⟨h8,hs⟩] at Hr;have Hr:=kA1 Hr;clear Hres1;go_wp2_with (go_at_call 156;refine hsk.mono ?_;rintro e w6 ⟨rfl,hk6⟩);have G6:=G4.go E hRw hk6 hlt
      go_step3
      refine⟨rfl,k,kCT,acc1,n1+1,_,_,_,_,_,_,_,_,_,_,_,_,_,_,_,_,_,_,_,_,_,_,_,_,_,_,_,_,_,_,rfl,kCT,kCT,kCT,G6,Hr⟩
     | false =>
      have hsk:=zAQ R ts n1 en ⟨#[44]⟩ w4 G4.st.rdr hn1l hs;have Hr:=Hres1.out;rw[kA9 (fun h=>by rw[hs] at h;cases h.2)] at Hr;clear Hres1
      cases hcl:sk ts en n1 cl with
      | true =>
       rw[hcl,kAa rfl] at Hr;have Hr:=kA1 Hr;have hltc:=zAs hcl;go_wp2_with (first
        | (go_at_call 156;refine hsk.mono ?_;rintro e w6 ⟨rfl,hk6⟩;have G6:=G4.go E hRw hk6 hn1l)
        | (go_at_call 158;refine (zBO R ts n1 en cl _ G6.st.rdr few hcl).mono ?_;rintro e w7 ⟨rfl,hk7⟩))
       have G7:=G6.go E hRw hk7 hltc
       try simp only[Exit.jump]
       go_ret;rw[← Hr.out];exact⟨kCT,hltc,_,rfl,G7.val,G7.took⟩
      | false =>
       rw[hcl,kA9 kCW] at Hr;have Hr:=kA1 Hr;have htn:=fun w' hr=>zCt R ts n1 en cl w' hr hn1l hcl
       unfold zAk at htn;have Htn:=kA1 htn;clear htn;go_wp2_with (first
        | (go_at_call 156;refine hsk.mono ?_;rintro e w6 ⟨rfl,hk6⟩;have G6:=G4.go E hRw hk6 hn1l)
        | (go_at_call 158;refine (Htn.out _ G6.st.rdr).mono ?_;rintro e w7 ⟨rfl,hb7⟩))
       try simp only[Exit.jump]
       rw[← Hr.out];exact⟨rfl,rfl,kAe G6.took.grown hb7⟩
    ·have h8i:¬(acc1.length:Int)<8:=kCT
     have Hr:=Hres1.out;rw[kA9 (fun h=>h8 h.1)] at Hr;clear Hres1;have G6:=G4
     cases hcl:sk ts en n1 cl with
     | true =>
      rw[hcl,kAa rfl] at Hr;have Hr:=kA1 Hr;have hltc:=zAs hcl;go_wp2_with (first
       | (go_at_call 158;refine (zBO R ts n1 en cl _ G6.st.rdr few hcl).mono ?_;rintro e w7 ⟨rfl,hk7⟩))
      have G7:=G6.go E hRw hk7 hltc
      try simp only[Exit.jump]
      go_ret;rw[← Hr.out];exact⟨kCT,hltc,_,rfl,G7.val,G7.took⟩
     | false =>
      rw[hcl,kA9 kCW] at Hr;have Hr:=kA1 Hr;have htn:=fun w' hr=>zCt R ts n1 en cl w' hr hn1l hcl
      unfold zAk at htn;have Htn:=kA1 htn;clear htn;go_wp2_with (first
       | (go_at_call 158;refine (Htn.out _ G6.st.rdr).mono ?_;rintro e w7 ⟨rfl,hb7⟩))
      try simp only[Exit.jump]
      rw[← Hr.out];exact⟨rfl,rfl,kAe G6.took.grown hb7⟩
structure Mid (W0:World) (R B:Nat) (ts:List S47) (en:Nat) (w wr:World) (n:Nat):Prop where
 st:St W0 R B ts en n wr
 took:Took w R ts n en wr
 res:wr.heap[w.heap.size]?=some zO
theorem Mid.below {W0:World} {R B:Nat} {ts:List S47} {en:Nat} {w wr w1:World} {n:Nat} (G:Mid W0 R B ts en w wr n) (hb:Below wr.heap.size wr w1):Mid W0 R B ts en w w1 n :=
 ⟨G.st.below hb,G.took.below hb,zA9 hb G.res⟩
theorem Mid.alloc {W0:World} {R B:Nat} {ts:List S47} {en:Nat} {w wr:World} {n:Nat} (G:Mid W0 R B ts en w wr n) (o:Obj):Mid W0 R B ts en w (wr.alloc o) n:=G.below ((kA3 _ _).alloc (kA2 _) _)
theorem Mid.go {W0:World} {R B:Nat} {ts:List S47} {en:Nat} {w wr w1:World} {n n1:Nat} (E:Env W0 R B ts) (hR:R<w.heap.size) (G:Mid W0 R B ts en w wr n) (k:Took wr R ts n1 en w1) (hn:n1≤ts.length):Mid W0 R B ts en w w1 n1 :=
 ⟨G.st.took E k hn,G.took.trans k,k.blk G.res (kAq hR)⟩
theorem Mid.start {W0:World} {R B:Nat} {ts:List S47} {en:Nat} {w:World} {n:Nat} (h:St W0 R B ts en n w):Mid W0 R B ts en w (w.alloc zO) n :=
 ⟨h.below ((kA3 _ _).alloc (kA2 _) _),(Took.refl h.rdr).alloc _,zA4 _ _⟩
theorem Mid.done {W0:World} {R B:Nat} {ts:List S47} {en:Nat} {w wr:World} {now n:Nat} {x:S31} {v:Value} (G:Mid W0 R B ts en w wr n) (hR:R<w.heap.size) (hx:Ex wr (fun k=>w.heap.size<k) x (exV x v)) (hn:now<n) (v0 v1 v2 v3 v4 v5:Value) :
  zAj w R ts en now (.ok (x,n)) (.returned (exV x v)) (set6 wr w.heap.size v0 v1 v2 v3 v4 v5) :=
 ⟨hn,G.st.pos,_,rfl,(hx.set6 (fun _ hk=>kAq hk) _ _ _ _ _ _).mono (fun _ hk=>kAX hk),G.took.set6 G.res (kAq hR) (kA2 _) _ _ _ _ _ _⟩
theorem Mid.lt {W0:World} {R B:Nat} {ts:List S47} {en:Nat} {w wr:World} {n:Nat} (G:Mid W0 R B ts en w wr n):w.heap.size<wr.heap.size:=zA5 G.res
theorem Mid.set5 {W0:World} {R B:Nat} {ts:List S47} {en:Nat} {w wr:World} {n:Nat} {X:Nat} {cs:Array Value} (E:Env W0 R B ts) (hR:R<w.heap.size) (G:Mid W0 R B ts en w wr n) (hXR:X≠R) (hX:w.heap.size<X) (hb:wr.heap[X]?=some (.cells cs 31 (0,0))) (u:Value) :
  Mid W0 R B ts en w (wr.setCell ⟨X,5,none⟩ u) n:=by
 have hlow:=G.st.low.size;have hk:=G.took.far hb hXR (kAX hX) 5 u;exact⟨⟨hk.rdr,G.st.low.setCell (p:=⟨X,5,none⟩) (by have:=E.own;simp only;omega) _,by rw[kAL];exact G.st.base,G.st.pos⟩,hk,(kA5 _ _ _ _ kDf).trans G.res⟩
theorem atom_lit (W0:World) (R B:Nat) (ts:List S47) (en now:Nat) (w:World) (E:Env W0 R B ts) (h:St W0 R B ts en now w) (h2:(tokP ts en now).f0=2) (r:PR) (hlit:∀w,St W0 R B ts en now w→Calls Tryz.prog 278 #[.pointer (some ⟨R,0,none⟩)] w (zAj w R ts en now r)) :
  Calls Tryz.prog 252 #[.pointer (some ⟨R,0,none⟩)] w (zAj w R ts en now (r)):=by
 have few:=E.few;have hRw:=h.rdr.lt;have M0:=Mid.start h;have hpk:=zAZ R ts now en (w.alloc zO) M0.st.rdr h.pos;unfold tokV at hpk;have HL:=kA1 hlit;have h2':((tokP ts en now).f0==2)=true:=kDo
 generalize tokP ts en now=t at *;clear hlit h h2;have hfd:=zBI t.f0 t.f2 t.f1;go_enter Tryz.func252,Tryz.ntmps252;go_wp2_with fail;refine hpk.mono ?_;rintro e w1 ⟨rfl,hb1⟩;have M1:=(M0.below hb1).alloc (tokO t);have T1:=zA4 w1 (tokO t);have hl:=HL.out _ M1.st
 cases r with
 | error p =>
  unfold zAj zAk at hl;go_wp2_with (go_at_call 278;refine hl.mono ?_;rintro e w2 ⟨rfl,hg⟩);exact⟨rfl,rfl,kA6 M1.took.grown hg⟩
 | ok r =>
  obtain⟨x,n⟩:=r;unfold zAj at hl;go_wp2_with fail;refine hl.mono ?_;rintro e w2 ⟨hn1,hn2,v,rfl,hx,hk⟩;obtain⟨v5,A5,n5,c5,rfl,rfl,_,_⟩:=hx.cells;unfold exV;have M2:=M1.go E hRw hk hn2;have hx2:=hx.mono (fun k hk=>kBa M1.lt hk);obtain⟨⟨q0,q1,q2,q3,q4,q5⟩,⟨f0,f1,f2,f3,f4,f5⟩,xl2⟩:=zA6 M2.res;go_wp2;refine kAi (zAg Tryz.results252 _ _ w.heap.size 31 _ (0,0) _ rfl (fin6 _ _ _ _ _ _ M2.res) Tryz.underlying31 rfl zAV) rfl (M2.done hRw hx2 kCT _ _ _ _ _ _)
theorem atom_ref (W0:World) (R B:Nat) (ts:List S47) (en now:Nat) (w:World) (E:Env W0 R B ts) (h:St W0 R B ts en now w) (h0:(tokP ts en now).f0=0) (hsk:sk ts en (now+1) ⟨#[40]⟩=false) :
  Calls Tryz.prog 252 #[.pointer (some ⟨R,0,none⟩)] w (zAj w R ts en now (.ok (⟨1,z28,(tokP ts en now).f1,0,[]⟩,now+1))):=by
 have few:=E.few;have hRw:=h.rdr.lt;have M0:=Mid.start h;have hpk:=zAZ R ts now en (w.alloc zO) M0.st.rdr h.pos;unfold tokV at hpk;have Hs:=kA1 (fun w' hr=>zAQ R ts (now+1) en ⟨#[40]⟩ w' hr (zBG h0 kCW) hsk);clear hsk;have hlt:=zBG h0 kCW;have h0':((tokP ts en now).f0==0)=true:=by rw[kAx];exact h0
 have h2':((tokP ts en now).f0==2)=false:=by rw[kAd,h0];decide
 generalize tokP ts en now=t at *;clear h h0;have hfd:=zBI t.f0 t.f2 t.f1;go_enter Tryz.func252,Tryz.ntmps252;go_wp2_with fail;refine hpk.mono ?_;rintro e w1 ⟨rfl,hb1⟩;have M1:=(M0.below hb1).alloc (tokO t);have T1:=zA4 w1 (tokO t);obtain⟨c1,f1,c3,c4,lt⟩:=(M0.below hb1).st.rdr.cells;have hb1R:R<w1.heap.size:=kBa M0.st.rdr.lt hb1.size;have K:=Took.next M1.st.rdr (kA3 _ _)
 have M2:=M1.go E hRw K hlt;have T2:=K.blk T1 (kAq hb1R);simp only[kB5,hb1R] at M2 T2;clear K;have hs:=Hs.out _ M2.st.rdr;go_wp2_with fail;refine hs.mono ?_;rintro e w3 ⟨rfl,hk3⟩;have M3:=M2.go E hRw hk3 hlt;have T3:=hk3.blk T2 (kAq hb1R);have d1:=zA1 T3 1;obtain⟨⟨q0,q1,q2,q3,q4,q5⟩,⟨y0,y1,y2,y3,y4,y5⟩,xl2⟩:=zA6 M3.res;go_wp2;refine kAi (zAg Tryz.results252 _ _ w.heap.size 31 _ (0,0) _ rfl (fin6 _ _ _ _ _ _ M3.res) Tryz.underlying31 rfl zAV) rfl (M3.done hRw (Ex.leaf ⟨1,z28,t.f1,0,[]⟩ rfl) kCT _ _ _ _ _ _)
theorem atom_call0 (W0:World) (R B:Nat) (ts:List S47) (en now:Nat) (w:World) (E:Env W0 R B ts) (h:St W0 R B ts en now w) (h0:(tokP ts en now).f0=0) (hsk:sk ts en (now+1) ⟨#[40]⟩=true) (hs2:sk ts en (now+2) ⟨#[41]⟩=true) :
  Calls Tryz.prog 252 #[.pointer (some ⟨R,0,none⟩)] w (zAj w R ts en now (.ok (⟨14,z28,(tokP ts en now).f1,0,[]⟩,now+3))):=by
 have few:=E.few;have hRw:=h.rdr.lt;have M0:=Mid.start h;have hpk:=zAZ R ts now en (w.alloc zO) M0.st.rdr h.pos;unfold tokV at hpk;have hlt1:=zAs hsk;have hlt2:=zAs hs2;have Hs:=kA1 (fun w' hr=>zAE R ts (now+1) en ⟨#[40]⟩ w' hr few hsk);have Hs2:=kA1 (fun w' hr=>zAE R ts (now+1+1) en ⟨#[41]⟩ w' hr few hs2);clear hsk hs2;have hlt:=zBG h0 kCW;have h0':((tokP ts en now).f0==0)=true:=by rw[kAx];exact h0
 have h2':((tokP ts en now).f0==2)=false:=by rw[kAd,h0];decide
 generalize tokP ts en now=t at *;clear h h0;have hfd:=zBI t.f0 t.f2 t.f1;go_enter Tryz.func252,Tryz.ntmps252;go_wp2_with fail;refine hpk.mono ?_;rintro e w1 ⟨rfl,hb1⟩;have M1:=(M0.below hb1).alloc (tokO t);have T1:=zA4 w1 (tokO t);obtain⟨c1,f1,c3,c4,lt⟩:=(M0.below hb1).st.rdr.cells;have hb1R:R<w1.heap.size:=kBa M0.st.rdr.lt hb1.size;have K:=Took.next M1.st.rdr (kA3 _ _)
 have M2:=M1.go E hRw K hlt;have T2:=K.blk T1 (kAq hb1R);simp only[kB5,hb1R] at M2 T2;clear K;have hs:=Hs.out _ M2.st.rdr;go_wp2_with fail;refine hs.mono ?_;rintro e w3 ⟨rfl,hk3⟩;have M3:=M2.go E hRw hk3 hlt1;have T3:=hk3.blk T2 (kAq hb1R);have d1:=zA1 T3 1;have M4:=M3.alloc (.cells #[.int .i64 14,.string ⟨#[]⟩,.string ⟨#[]⟩,.string t.f1,.int .i64 0,.slice none 0 0] 31);have X4:=zA4 w3 (.cells #[.int .i64 14,.string ⟨#[]⟩,.string ⟨#[]⟩,.string t.f1,.int .i64 0,.slice none 0 0] 31);have hs2:=Hs2.out _ M4.st.rdr;go_wp2_with fail;refine hs2.mono ?_;rintro e w5 ⟨rfl,hk5⟩;have M5:=M4.go E hRw hk5 hlt2;have X5:=hk5.blk X4 (kAq M3.st.rdr.lt);obtain⟨⟨p0,p1,p2,p3,p4,p5⟩,-,xl⟩:=zA6 X5;obtain⟨⟨q0,q1,q2,q3,q4,q5⟩,⟨y0,y1,y2,y3,y4,y5⟩,xl2⟩:=zA6 M5.res;go_wp2;refine kAi (zAg Tryz.results252 _ _ w.heap.size 31 _ (0,0) _ rfl (fin6 _ _ _ _ _ _ M5.res) Tryz.underlying31 rfl zAV) rfl (M5.done hRw (Ex.leaf ⟨14,z28,t.f1,0,[]⟩ rfl) kCT _ _ _ _ _ _)
theorem atom_call (W0:World) (R B:Nat) (ts:List S47) (en now:Nat) (w:World) (E:Env W0 R B ts) (h:St W0 R B ts en now w) (h0:(tokP ts en now).f0=0) (hsk:sk ts en (now+1) ⟨#[40]⟩=true) (hs2:sk ts en (now+2) ⟨#[41]⟩=false) (r:Except Int (List S31×Nat)) (hlist:∀w',St W0 R B ts en (now+2) w'→Calls Tryz.prog 279 #[.pointer (some ⟨R,0,none⟩),.string ⟨#[41]⟩] w' (zDp w' R ts en (now+2) r)) :
  Calls Tryz.prog 252 #[.pointer (some ⟨R,0,none⟩)] w (zAj w R ts en now (match (generalizing:=false) r with | .error p=>.error p | .ok (xs,n)=>.ok (⟨14,z28,(tokP ts en now).f1,0,xs⟩,n))):=by
 have few:=E.few;have hRw:=h.rdr.lt;have M0:=Mid.start h;have hpk:=zAZ R ts now en (w.alloc zO) M0.st.rdr h.pos;unfold tokV at hpk;have hlt1:=zAs hsk;have Hs:=kA1 (fun w' hr=>zAE R ts (now+1) en ⟨#[40]⟩ w' hr few hsk);have Hs2:=kA1 (fun w' hr=>zAQ R ts (now+1+1) en ⟨#[41]⟩ w' hr hlt1 hs2);have HL:=kA1 hlist;clear hsk hs2 hlist;have hlt:=zBG h0 kCW;have h0':((tokP ts en now).f0==0)=true:=by rw[kAx];exact h0
 have h2':((tokP ts en now).f0==2)=false:=by rw[kAd,h0];decide
 generalize tokP ts en now=t at *;clear h h0;have hfd:=zBI t.f0 t.f2 t.f1;have body:∀(Q:Ending→World→Prop),(∀w5:World,True→True)→True:=fun _ _=>trivial
 clear body;go_enter Tryz.func252,Tryz.ntmps252;go_wp2_with fail;refine hpk.mono ?_;rintro e w1 ⟨rfl,hb1⟩;have M1:=(M0.below hb1).alloc (tokO t);have T1:=zA4 w1 (tokO t);obtain⟨c1,f1,c3,c4,lt⟩:=(M0.below hb1).st.rdr.cells;have hb1R:R<w1.heap.size:=kBa M0.st.rdr.lt hb1.size;have K:=Took.next M1.st.rdr (kA3 _ _)
 have M2:=M1.go E hRw K hlt;have T2:=K.blk T1 (kAq hb1R);simp only[kB5,hb1R] at M2 T2;clear K;have hs:=Hs.out _ M2.st.rdr;go_wp2_with fail;refine hs.mono ?_;rintro e w3 ⟨rfl,hk3⟩;have M3:=M2.go E hRw hk3 hlt1;have T3:=hk3.blk T2 (kAq hb1R);have d1:=zA1 T3 1;have M4:=M3.alloc (.cells #[.int .i64 14,.string ⟨#[]⟩,.string ⟨#[]⟩,.string t.f1,.int .i64 0,.slice none 0 0] 31);have X4:=zA4 w3 (.cells #[.int .i64 14,.string ⟨#[]⟩,.string ⟨#[]⟩,.string t.f1,.int .i64 0,.slice none 0 0] 31);have hs2:=Hs2.out _ M4.st.rdr;go_wp2_with fail;refine hs2.mono ?_;rintro e w5 ⟨rfl,hk5⟩;have M5:=M4.go E hRw hk5 hlt1;have hX3R:=kAq M3.st.rdr.lt;have X5:=hk5.blk X4 hX3R;have hl:=HL.out w5 M5.st
 cases r with
 | error p =>
  unfold zDp zAk at hl;go_wp2_with (go_at_call 279;refine hl.mono ?_;rintro e w6 ⟨rfl,hg⟩);exact⟨rfl,rfl,kA6 M5.took.grown hg⟩
 | ok r =>
  obtain⟨xs,n⟩:=r;unfold zDp at hl;have hX5:=zA5 X5;have hw3:=M3.lt;go_wp2_with fail;refine hl.mono ?_;rintro e w6 ⟨hn1,hn2,v,rfl,hx,hk⟩;have M6:=M5.go E hRw hk hn2;have X6:=hk.blk X5 hX3R;obtain⟨ao,n5,c5,rfl⟩:∃ao n5 c5,v=.slice ao n5 c5:=by obtain⟨A,c,h⟩:=Kd.R_slice hx;exact⟨A,_,c,h⟩
  obtain⟨⟨p0,p1,p2,p3,p4,p5⟩,⟨z0,z1,z2,z3,z4,z5⟩,xl⟩:=zA6 X6;have M7:=M6.set5 E hRw hX3R hw3 X6 (.slice ao n5 c5);have hx7:Ex (w6.setCell ⟨w3.heap.size,5,none⟩ (.slice ao n5 c5)) (fun k=>w.heap.size<k) ⟨14,z28,t.f1,0,xs⟩ (exV ⟨14,z28,t.f1,0,xs⟩ (.slice ao n5 c5)) :=
   ⟨_,rfl,Kd.R_mono (Kd.R_step hx (fun k hk _=>kA5 _ _ _ _ (by simp only[From] at hk;simp only;omega))) (fun k hk=>by simp only[From] at hk;omega)⟩
  have X7:=zA7 X6 5 (.slice ao n5 c5);obtain⟨⟨s0,s1,s2,s3,s4,s5⟩,-,-⟩:=zA6 X7;obtain⟨⟨q0,q1,q2,q3,q4,q5⟩,⟨y0,y1,y2,y3,y4,y5⟩,xl2⟩:=zA6 M7.res;go_wp2;refine kAi (zAg Tryz.results252 _ _ w.heap.size 31 _ (0,0) _ rfl (fin6 _ _ _ _ _ _ M7.res) Tryz.underlying31 rfl zAV) rfl (M7.done hRw hx7 kCT _ _ _ _ _ _)
theorem atom_par (W0:World) (R B:Nat) (ts:List S47) (en now:Nat) (w:World) (E:Env W0 R B ts) (h:St W0 R B ts en now w) (h2:(tokP ts en now).f0≠2) (h0:(tokP ts en now).f0≠0) (hsk:sk ts en now ⟨#[40]⟩=true) (r:PR) (hex:∀w',St W0 R B ts en (now+1) w'→Calls Tryz.prog 134 #[.pointer (some ⟨R,0,none⟩)] w' (zAj w' R ts en (now+1) r)) :
  Calls Tryz.prog 252 #[.pointer (some ⟨R,0,none⟩)] w (zAj w R ts en now (match (generalizing:=false) r with | .error p=>.error p | .ok (x,n)=>if sk ts en n ⟨#[41]⟩=true then .ok (x,n+1) else .error (atP ts en n))):=by
 have few:=E.few;have hRw:=h.rdr.lt;have M0:=Mid.start h;have hpk:=zAZ R ts now en (w.alloc zO) M0.st.rdr h.pos;unfold tokV at hpk;have hlt:=zAs hsk;have Hs:=kA1 (fun w' hr=>zAE R ts now en ⟨#[40]⟩ w' hr few hsk);have HX:=kA1 hex;generalize hres:(match (generalizing:=false) r with | .error p=>.error p | .ok (x,n)=>if sk ts en n ⟨#[41]⟩=true then .ok (x,n+1) else .error (atP ts en n):PR)=res;have Hres:=kA1 hres;clear hsk hex hres;have h0':((tokP ts en now).f0==0)=false:=by rw[kAd];exact h0
 have h2':((tokP ts en now).f0==2)=false:=by rw[kAd];exact h2
 have hnow:=h.pos;generalize tokP ts en now=t at *;clear h h0 h2;have hfd:=zBI t.f0 t.f2 t.f1;go_enter Tryz.func252,Tryz.ntmps252;go_wp2_with fail;refine hpk.mono ?_;rintro e w1 ⟨rfl,hb1⟩;have M1:=(M0.below hb1).alloc (tokO t);have T1:=zA4 w1 (tokO t);have hs:=Hs.out _ M1.st.rdr;go_wp2_with fail;refine hs.mono ?_;rintro e w3 ⟨rfl,hk3⟩;have M3:=M1.go E hRw hk3 hlt;have hx:=HX.out _ M3.st;obtain⟨c1,f1,c3,c4,lt⟩:=M3.st.rdr.cells
 cases r with
 | error p =>
  unfold zAj zAk at hx;go_wp2_with (go_at_call 134;refine hx.mono ?_;rintro e w4 ⟨rfl,hg⟩);rw[← Hres.out];exact⟨rfl,rfl,kA6 M3.took.grown hg⟩
 | ok r =>
  obtain⟨x,n⟩:=r;unfold zAj at hx
  cases hcl:sk ts en n ⟨#[41]⟩ with
  | true =>
   have Hr:Hid (res=.ok (x,n+1)):=by
    show _=_;rw[← Hres.out];simp only[hcl,if_true]
   have hltc:=zAs hcl;have Hcl:=kA1 (fun w' hr=>zBO R ts n en ⟨#[41]⟩ w' hr few hcl);clear hcl;go_wp2_with fail;refine hx.mono ?_;rintro e w4 ⟨hn1,hn2,v,rfl,hv,hk4⟩;obtain⟨v5,A5,n5,c5,rfl,rfl,_,_⟩:=hv.cells;unfold exV;have M4:=M3.go E hRw hk4 hn2;have hw3:=M3.lt;have M5:=M4.alloc (.cells #[.int .i64 x.f0,.string x.f1.f0,.string x.f1.f1,.string x.f2,.int .i64 x.f3,.slice A5 n5 c5] 31);have X5:=zA4 w4 (.cells #[.int .i64 x.f0,.string x.f1.f0,.string x.f1.f1,.string x.f2,.int .i64 x.f3,.slice A5 n5 c5] 31);have hv5:=hv.below ((kA3 _ w4).alloc (kA2 _) (.cells #[.int .i64 x.f0,.string x.f1.f0,.string x.f1.f1,.string x.f2,.int .i64 x.f3,.slice A5 n5 c5] 31));have hcl:=Hcl.out _ M5.st.rdr;go_wp2_with fail;refine hcl.mono ?_;rintro e w6 ⟨rfl,hk6⟩;have M6:=M5.go E hRw hk6 hltc;have X6:=hk6.blk X5 (kAq M4.st.rdr.lt);have hv6:=(hv5.grown hk6.grown (fun k hk=>by simp only[From] at hk;omega)).mono (S':=fun k=>w.heap.size<k) (fun k hk=>by simp only[From] at hk;omega);obtain⟨⟨s0,s1,s2,s3,s4,s5⟩,-,-⟩:=zA6 X6;obtain⟨⟨q0,q1,q2,q3,q4,q5⟩,⟨y0,y1,y2,y3,y4,y5⟩,xl2⟩:=zA6 M6.res;go_wp2;rw[Hr.out];refine kAi (zAg Tryz.results252 _ _ w.heap.size 31 _ (0,0) _ rfl (fin6 _ _ _ _ _ _ M6.res) Tryz.underlying31 rfl zAV) rfl (M6.done hRw hv6 kCT _ _ _ _ _ _)
  | false =>
   have Hr:Hid (res=.error (atP ts en n)):=by
    show _=_;rw[← Hres.out];simp only[hcl,kBY,if_false]
   have htn:=fun n0 w' hr=>zCt R ts n en ⟨#[41]⟩ w' hr n0 hcl
   unfold zAk at htn;have Hcl:=kA1 htn;clear hcl htn;go_wp2_with fail;refine hx.mono ?_;rintro e w4 ⟨hn1,hn2,v,rfl,hv,hk4⟩;obtain⟨v5,A5,n5,c5,rfl,rfl,_,_⟩:=hv.cells;unfold exV;have M4:=M3.go E hRw hk4 hn2;have M5:=M4.alloc (.cells #[.int .i64 x.f0,.string x.f1.f0,.string x.f1.f1,.string x.f2,.int .i64 x.f3,.slice A5 n5 c5] 31);have hcl:=Hcl.out hn2 _ M5.st.rdr;go_wp2_with fail;refine hcl.mono ?_;rintro e w6 ⟨rfl,hb6⟩;go_wp2;rw[Hr.out];exact⟨rfl,rfl,kAe M5.took.grown hb6⟩
theorem atom_list (W0:World) (R B:Nat) (ts:List S47) (en now:Nat) (w:World) (E:Env W0 R B ts) (h:St W0 R B ts en now w) (h2:(tokP ts en now).f0≠2) (h0:(tokP ts en now).f0≠0) (hsk:sk ts en now ⟨#[40]⟩=false) (hs2:sk ts en now ⟨#[91]⟩=true) (r:Except Int (List S31×Nat)) (hlist:∀w',St W0 R B ts en (now+1) w'→Calls Tryz.prog 279 #[.pointer (some ⟨R,0,none⟩),.string ⟨#[93]⟩] w' (zDp w' R ts en (now+1) r)) :
  Calls Tryz.prog 252 #[.pointer (some ⟨R,0,none⟩)] w (zAj w R ts en now (match (generalizing:=false) r with | .error p=>.error p | .ok (xs,n)=>.ok (⟨8,z28,⟨#[]⟩,0,xs⟩,n))):=by
 have few:=E.few;have hRw:=h.rdr.lt;have M0:=Mid.start h;have hpk:=zAZ R ts now en (w.alloc zO) M0.st.rdr h.pos;unfold tokV at hpk;have hlt:=zAs hs2;have Hs:=kA1 (fun w' hr=>zAQ R ts now en ⟨#[40]⟩ w' hr (kAX hlt) hsk);have Hs2:=kA1 (fun w' hr=>zBO R ts now en ⟨#[91]⟩ w' hr few hs2);have HL:=kA1 hlist;clear hsk hs2 hlist;have h0':((tokP ts en now).f0==0)=false:=by rw[kAd];exact h0
 have h2':((tokP ts en now).f0==2)=false:=by rw[kAd];exact h2
 have hnow:=h.pos;generalize tokP ts en now=t at *;clear h h0 h2;have hfd:=zBI t.f0 t.f2 t.f1;go_enter Tryz.func252,Tryz.ntmps252;go_wp2_with fail;refine hpk.mono ?_;rintro e w1 ⟨rfl,hb1⟩;have M1:=(M0.below hb1).alloc (tokO t);have T1:=zA4 w1 (tokO t);have hs:=Hs.out _ M1.st.rdr;go_wp2_with fail;refine hs.mono ?_;rintro e w3 ⟨rfl,hk3⟩;have M3:=M1.go E hRw hk3 hnow;have hs2:=Hs2.out _ M3.st.rdr;go_wp2_with fail;refine hs2.mono ?_;rintro e w4 ⟨rfl,hk4⟩;have M4:=M3.go E hRw hk4 hlt;have hl:=HL.out w4 M4.st
 cases r with
 | error p =>
  unfold zDp zAk at hl;go_wp2_with (go_at_call 279;refine hl.mono ?_;rintro e w6 ⟨rfl,hg⟩);exact⟨rfl,rfl,kA6 M4.took.grown hg⟩
 | ok r =>
  obtain⟨xs,n⟩:=r;unfold zDp at hl;have hw4:=M4.lt;go_wp2_with fail;refine hl.mono ?_;rintro e w6 ⟨hn1,hn2,v,rfl,hx,hk⟩;have M6:=M4.go E hRw hk hn2;obtain⟨ao,n5,c5,rfl⟩:∃ao n5 c5,v=.slice ao n5 c5:=by obtain⟨A,c,h⟩:=Kd.R_slice hx;exact⟨A,_,c,h⟩
  have hx7:Ex w6 (fun k=>w.heap.size<k) ⟨8,z28,⟨#[]⟩,0,xs⟩ (exV ⟨8,z28,⟨#[]⟩,0,xs⟩ (.slice ao n5 c5)) :=
   ⟨_,rfl,Kd.R_mono hx (fun k hk=>by simp only[From] at hk;omega)⟩
  obtain⟨⟨q0,q1,q2,q3,q4,q5⟩,⟨y0,y1,y2,y3,y4,y5⟩,xl2⟩:=zA6 M6.res;go_wp2;refine kAi (zAg Tryz.results252 _ _ w.heap.size 31 _ (0,0) _ rfl (fin6 _ _ _ _ _ _ M6.res) Tryz.underlying31 rfl zAV) rfl (M6.done hRw hx7 kCT _ _ _ _ _ _)
theorem atom_no (W0:World) (R B:Nat) (ts:List S47) (en now:Nat) (w:World) (E:Env W0 R B ts) (h:St W0 R B ts en now w) (h2:(tokP ts en now).f0≠2) (h0:(tokP ts en now).f0≠0) (hsk:sk ts en now ⟨#[40]⟩=false) (hs2:sk ts en now ⟨#[91]⟩=false) :
  Calls Tryz.prog 252 #[.pointer (some ⟨R,0,none⟩)] w (zAj w R ts en now (.error (atP ts en now))):=by
 have few:=E.few;have hRw:=h.rdr.lt;have M0:=Mid.start h;have hpk:=zAZ R ts now en (w.alloc zO) M0.st.rdr h.pos;unfold tokV at hpk;have hnow':=h.pos;have Hs:=kA1 (fun w' hr=>zAQ R ts now en ⟨#[40]⟩ w' hr hnow' hsk);have htn:=(fun w' hr=>zCt R ts now en ⟨#[91]⟩ w' hr hnow' hs2);unfold zAk at htn;have Hs2:=kA1 htn;generalize hat:atP ts en now=at_;have Hat:=kA1 hat;clear hsk hs2 htn hat;unfold atP at Hat;have h0':((tokP ts en now).f0==0)=false:=by rw[kAd];exact h0
 have h2':((tokP ts en now).f0==2)=false:=by rw[kAd];exact h2
 have hnow:=h.pos;generalize tokP ts en now=t at *;clear h h0 h2;have hfd:=zBI t.f0 t.f2 t.f1;go_enter Tryz.func252,Tryz.ntmps252;go_wp2_with fail;refine hpk.mono ?_;rintro e w1 ⟨rfl,hb1⟩;have M1:=(M0.below hb1).alloc (tokO t);have T1:=zA4 w1 (tokO t);have hs:=Hs.out _ M1.st.rdr;go_wp2_with fail;refine hs.mono ?_;rintro e w3 ⟨rfl,hk3⟩;have M3:=M1.go E hRw hk3 hnow;have hs2:=Hs2.out _ M3.st.rdr;go_wp2_with fail;refine hs2.mono ?_;rintro e w4 ⟨rfl,hb⟩;go_wp2;rw[← Hat.out];exact⟨rfl,rfl,kAe M3.took.grown hb⟩
theorem atom_walk (W0:World) (R B:Nat) (ts:List S47) (en:Nat) (chk:S28→Int) (ex:Nat→PR) (m:Nat) (E:Env W0 R B ts)
  (hlit:∀now w,m≤now→St W0 R B ts en now w→(tokP ts en now).f0=2→Calls Tryz.prog 278 #[.pointer (some ⟨R,0,none⟩)] w (zAj w R ts en now (litS ts en chk now)))
  (hex:Pars W0 R B ts en 134 ex (m+1)):Pars W0 R B ts en 252 (atomS ts en chk ex) m:=fun now w hm h=>by
 unfold atomS;by_cases h2:(tokP ts en now).f0=2
 ·rw[kAa h2];exact atom_lit W0 R B ts en now w E h h2 _ (fun w' h'=>hlit now w' hm h' h2)
 ·rw[kA9 h2];by_cases h0:(tokP ts en now).f0=0
  ·rw[kAa h0]
   cases hsk:sk ts en (now+1) ⟨#[40]⟩ with
   | false=>rw[kA9 kCW];exact atom_ref W0 R B ts en now w E h h0 hsk
   | true =>
    rw[kAa rfl]
    cases hs2:sk ts en (now+2) ⟨#[41]⟩ with
    | true=>rw[kAa rfl];exact atom_call0 W0 R B ts en now w E h h0 hsk hs2
    | false =>
     rw[kA9 kCW];exact atom_call W0 R B ts en now w E h h0 hsk hs2 _ (fun w' h'=>list_walk W0 R B ts en ex ⟨#[41]⟩ m (now+2) w' E h' kCT hex)
  ·rw[kA9 h0]
   cases hsk:sk ts en now ⟨#[40]⟩ with
   | true=>rw[kAa rfl];exact atom_par W0 R B ts en now w E h h2 h0 hsk _ (fun w' h'=>hex (now+1) w' kCT h')
   | false =>
    rw[kA9 kCW]
    cases hs2:sk ts en now ⟨#[91]⟩ with
    | true=>rw[kAa rfl];exact atom_list W0 R B ts en now w E h h2 h0 hsk hs2 _ (fun w' h'=>list_walk W0 R B ts en ex ⟨#[93]⟩ m (now+1) w' E h' kCT hex)
    | false=>rw[kA9 kCW];exact atom_no W0 R B ts en now w E h h2 h0 hsk hs2
end Go.Proofs.YtjaobihcdkjmbaaGreatDoor
end
