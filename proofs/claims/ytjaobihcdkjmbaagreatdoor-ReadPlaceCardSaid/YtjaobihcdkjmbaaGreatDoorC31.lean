/- The law ReadPlace answers true for every argument; a part of its proof. -/
import Derived.Test.YtjaobihcdkjmbaaGreatDoorCa
import Derived.Test.YtjaobihcdkjmbaaGreatDoorCb
import Derived.Test.YtjaobihcdkjmbaaGreatDoorC0
import Derived.Test.YtjaobihcdkjmbaaGreatDoorC7
import Derived.Test.YtjaobihcdkjmbaaGreatDoorC8
import Derived.Test.YtjaobihcdkjmbaaGreatDoorC9
import Derived.Test.YtjaobihcdkjmbaaGreatDoorC12
import Derived.Test.YtjaobihcdkjmbaaGreatDoorC14
import Derived.Test.YtjaobihcdkjmbaaGreatDoorC15
import Derived.Test.YtjaobihcdkjmbaaGreatDoorC16
import Derived.Test.YtjaobihcdkjmbaaGreatDoorC17
import Derived.Test.YtjaobihcdkjmbaaGreatDoorC18
import Derived.Test.YtjaobihcdkjmbaaGreatDoorC23
import Derived.Test.YtjaobihcdkjmbaaGreatDoorC29
set_option linter.unusedVariables false
set_option linter.unusedSimpArgs false
namespace Go.Proofs.YtjaobihcdkjmbaaGreatDoor.PReadTokens
end Go.Proofs.YtjaobihcdkjmbaaGreatDoor.PReadTokens
namespace Go.Proofs.YtjaobihcdkjmbaaGreatDoorW.PrintLast
end Go.Proofs.YtjaobihcdkjmbaaGreatDoorW.PrintLast
namespace Go.Proofs.YtjaobihcdkjmbaaGreatDoorW.PrintMore
end Go.Proofs.YtjaobihcdkjmbaaGreatDoorW.PrintMore
namespace Go.Proofs.YtjaobihcdkjmbaaGreatDoorW.PrintWords
end Go.Proofs.YtjaobihcdkjmbaaGreatDoorW.PrintWords
set_option maxRecDepth 100000
set_option maxHeartbeats 8000000
section
namespace Go.Proofs.YtjaobihcdkjmbaaGreatDoor
open Go.RowKit Go.Proofs.YtjaobihcdkjmbaaGreatDoorW.PrintWords Go.Proofs.YtjaobihcdkjmbaaGreatDoor.PReadTokens
structure Plain (ts:List S47) (en:Nat):Prop where
 bar:∀i,sk ts en i ⟨#[124]⟩=false
 let_:∀i,sk ts en i ⟨#[108,101,116]⟩=false
 if_:∀i,sk ts en i ⟨#[105,102]⟩=false
 tab:∀i,sk ts en i ⟨#[116,97,98]⟩=false
 sum:∀i,sk ts en i ⟨#[115,117,109]⟩=false
theorem expr_plain (W0:World) (R B:Nat) (ts:List S47) (en now:Nat) (w:World) (E:Env W0 R B ts) (h:St W0 R B ts en now w)
  (h1:sk ts en now ⟨#[108,101,116]⟩=false) (h2:sk ts en now ⟨#[105,102]⟩=false) (h3:sk ts en now ⟨#[116,97,98]⟩=false) (h4:sk ts en now ⟨#[115,117,109]⟩=false) (r:PR)
  (hs:∀w',St W0 R B ts en now w'→Calls Tryz.prog 135 #[.pointer (some ⟨R,0,none⟩)] w' (zAi w' R ts en now r)) :
  Calls Tryz.prog 134 #[.pointer (some ⟨R,0,none⟩)] w (zAi w R ts en now r):=by
 have hRw:=h.rdr.lt;have M0:=Mid.start h;have hnow:=h.pos;have H1:=kA1 (fun w' hr=>zB1 R ts now en ⟨#[108,101,116]⟩ w' hr hnow h1);have H2:=kA1 (fun w' hr=>zB1 R ts now en ⟨#[105,102]⟩ w' hr hnow h2);have H3:=kA1 (fun w' hr=>zB1 R ts now en ⟨#[116,97,98]⟩ w' hr hnow h3);have H4:=kA1 (fun w' hr=>zB1 R ts now en ⟨#[115,117,109]⟩ w' hr hnow h4);have HS:=kA1 hs;clear h h1 h2 h3 h4 hs;have s1:=H1.out _ M0.st.rdr;go_enter Tryz.func134,Tryz.ntmps134;go_wp2_with fail;refine s1.mono ?_;rintro e w1 ⟨rfl,k1⟩;have M1:=M0.go E hRw k1 hnow;have s2:=H2.out _ M1.st.rdr;go_wp2_with fail;refine s2.mono ?_;rintro e w2 ⟨rfl,k2⟩;have M2:=M1.go E hRw k2 hnow;have s3:=H3.out _ M2.st.rdr;go_wp2_with fail;refine s3.mono ?_;rintro e w3 ⟨rfl,k3⟩;have M3:=M2.go E hRw k3 hnow;have s4:=H4.out _ M3.st.rdr;go_wp2_with fail;refine s4.mono ?_;rintro e w4 ⟨rfl,k4⟩;have M4:=M3.go E hRw k4 hnow;have hl:=HS.out _ M4.st;obtain⟨c1,f1,c3,c4,lt⟩:=M4.st.rdr.cells
 cases r with
 | error p =>
  unfold zAi zAk at hl;go_wp2_with (go_at_call 135;refine hl.mono ?_;rintro e w2 ⟨rfl,hg⟩);exact⟨rfl,rfl,kA9 M4.took.grown hg⟩
 | ok r =>
  obtain⟨x,n⟩:=r;unfold zAi at hl;go_wp2_with fail;refine hl.mono ?_;rintro e w5 ⟨hn1,hn2,v,rfl,hx,hk⟩;obtain⟨v5,A5,n5,c5,rfl,rfl,_,_⟩:=hx.cells;unfold exV;have M5:=M4.go E hRw hk hn2;have hx2:=hx.mono (fun k hk=>kBi M4.lt hk);obtain⟨⟨q0,q1,q2,q3,q4,q5⟩,⟨f0,f1,f2,f3,f4,f5⟩,xl2⟩:=zA9 M5.res;go_wp2;refine kAg (zAe Tryz.results134 _ _ w.heap.size 31 _ (0,0) _ rfl (fin6 _ _ _ _ _ _ M5.res) Tryz.underlying31 rfl zB6) rfl (M5.done hRw hx2 kCW _ _ _ _ _ _)
theorem pars_plain (W0:World) (R B:Nat) (ts:List S47) (en:Nat) (chk:S28→Int) (E:Env W0 R B ts) (hpl:Plain ts en) :
  ∀k m,ts.length<m+k→Pars W0 R B ts en 134 (zD8 ts en chk k) m:=by
 intro k
 induction k with
 | zero=>intro m hm now w hmn h;have:=h.pos;omega
 | succ k ih =>
  intro m hm;have hex:=ih (m+1) kCW;have hatom:Pars W0 R B ts en 252 (atomS ts en chk (zD8 ts en chk k)) m:=atom_walk W0 R B ts en chk _ m E (fun now w hmn h h2=>by
   unfold litS;rw[kAa (by rw[hpl.bar];decide)];exact lit_plain W0 R B ts en now w E h h2 (hpl.bar _)) hex
  have helem:Pars W0 R B ts en 217 (zCl ts en chk (zD8 ts en chk k)) m:=fun now w hmn h=>zFn W0 R B ts en chk _ m now w E h hmn hatom hex
  have hpow:Pars W0 R B ts en 180 (zCz ts en chk (zD8 ts en chk k)) m:=fun now w hmn h=>power_walk W0 R B ts en chk _ m now w E h hmn helem
  have hprod:Pars W0 R B ts en 160 (zAZ ts en chk (zD8 ts en chk k)) m:=fun now w hmn h=>zFm W0 R B ts en chk _ m now w E h hmn hpow
  have hsums:=sums_walk W0 R B ts en chk (zD8 ts en chk k) m E hprod;intro now w hmn h;unfold zD8 exprB;rw[kAa (by rw[hpl.let_];decide),kAa (by rw[hpl.if_];decide),kAa (by rw[hpl.tab];decide),kAa (by rw[hpl.sum];decide)];exact expr_plain W0 R B ts en now w E h (hpl.let_ _) (hpl.if_ _) (hpl.tab _) (hpl.sum _) _ (fun w' h'=>hsums now w' hmn h')
def zFy (t:S47):Bool:=!zD7 t ⟨#[124]⟩ && !zD7 t ⟨#[108,101,116]⟩ && !zD7 t ⟨#[105,102]⟩ && !zD7 t ⟨#[116,97,98]⟩ && !zD7 t ⟨#[115,117,109]⟩
theorem plain_of {ts:List S47} (en:Nat) (h:ts.all zFy=true):Plain ts en:=by
 have key:∀i,zFy (tokP ts en i)=true:=by
  intro i;unfold tokP;split
  ·rename_i hi;exact kCb.1 h _ (kAR _)
  ·rfl
 have k2:∀i,zD7 (tokP ts en i) ⟨#[124]⟩=false∧zD7 (tokP ts en i) ⟨#[108,101,116]⟩=false∧zD7 (tokP ts en i) ⟨#[105,102]⟩=false∧zD7 (tokP ts en i) ⟨#[116,97,98]⟩=false∧zD7 (tokP ts en i) ⟨#[115,117,109]⟩=false:=by
  intro i;have:=key i;unfold zFy at this;simpa[kAx,and_assoc] using this
 exact⟨fun i=>(k2 i).1,fun i=>(k2 i).2.1,fun i=>(k2 i).2.2.1,fun i=>(k2 i).2.2.2.1,fun i=>(k2 i).2.2.2.2⟩
def zCp (s:ByteArray):Bool:=decide (s.size≤2000)&&decide ((zA6 s).length≤100000)&&(zA6 s).all (fun t=>decide (t.f1.size≤2000))&&(zA6 s).all zFy
theorem zCi (chk:S28→Int) (s:ByteArray) (h:zCp s=true):Readable chk s:=by
 unfold zCp at h;simp only[kAx,kB6] at h;obtain⟨⟨⟨h1,h2⟩,h3⟩,h4⟩:=h;refine⟨h1,h2,fun t ht=>kA8 (kCb.1 h3 t ht),fun W0 R B E=>?_⟩;exact pars_plain W0 R B (zA6 s) s.size chk E (plain_of _ h4) _ 0 kCW
abbrev tA:ByteArray:=⟨#[49,32,43,32,120,32,42,32,50]⟩
abbrev tB:ByteArray:=⟨#[102,40,97,41,91,105,93]⟩
abbrev tC:ByteArray:=⟨#[45,97,42,98,94,45,50]⟩
abbrev tD:ByteArray:=⟨#[97,45,40,98,45,99,41]⟩
abbrev tE:ByteArray:=⟨#[49,32,50]⟩
def lit1:S31:=⟨0,⟨⟨#[49]⟩,⟨#[49]⟩⟩,⟨#[]⟩,0,[]⟩
def lit2:S31:=⟨0,⟨⟨#[50]⟩,⟨#[49]⟩⟩,⟨#[]⟩,0,[]⟩
def refX (n:ByteArray):S31:=⟨1,z28,n,0,[]⟩
def xA:S31:=twoX 3 lit1 (twoX 5 (refX ⟨#[120]⟩) lit2)
def xB:S31:=twoX 9 ⟨14,z28,⟨#[102]⟩,0,[refX ⟨#[97]⟩]⟩ (refX ⟨#[105]⟩)
def xC:S31:=⟨2,z28,⟨#[]⟩,0,[twoX 5 (refX ⟨#[97]⟩) ⟨7,z28,⟨#[]⟩,-2,[refX ⟨#[98]⟩]⟩]⟩
def xD:S31:=twoX 4 (refX ⟨#[97]⟩) (twoX 4 (refX ⟨#[98]⟩) (refX ⟨#[99]⟩))
theorem plainA:zCp tA=true:=kCX
theorem plainB:zCp tB=true:=kCX
theorem plainC:zCp tC=true:=kCX
theorem plainD:zCp tD=true:=kCX
theorem plainE:zCp tE=true:=kCX
theorem parseA (chk:S28→Int):zBK chk tA=.ok (xA,5):=kCX
theorem parseB (chk:S28→Int):zBK chk tB=.ok (xB,7):=kCX
theorem parseC (chk:S28→Int):zBK chk tC=.ok (xC,7):=kCX
theorem parseD (chk:S28→Int):zBK chk tD=.ok (xD,7):=kCX
end Go.Proofs.YtjaobihcdkjmbaaGreatDoor
end
section
namespace Go.Proofs.YtjaobihcdkjmbaaGreatDoor
open Go.RowKit Go.Maps Go.Proofs.YtjaobihcdkjmbaaGreatDoorW.PrintWords Go.Proofs.YtjaobihcdkjmbaaGreatDoor.PReadTokens
def zEP (op:Int):Int:=if op=13 then 1 else 0
def zGg (op:Int):Bool:=decide (op=10)||decide (op=11)||decide (op=13)
theorem binds_calls (x:S31) (A:Option Addr) (n c:Nat) (w:World) :
  Calls Tryz.prog 109 #[exV x (.slice A n c)] w fun e w'=>e=.returned (.tuple #[.int .i64 (zEP x.f0),.bool (zGg x.f0)])∧Below w.heap.size w w':=by
 by_cases h:x.f0≠10∧x.f0≠11∧x.f0≠12∧x.f0≠13
 ·refine (binds_no x A n c h w).mono ?_;rintro e w' ⟨rfl,hb⟩;refine⟨?_,hb⟩;have e1:zEP x.f0=0:=by unfold zEP;rw[kAa h.2.2.2]
  have e2:zGg x.f0=false:=by unfold zGg;simp[h.1,h.2.1,h.2.2.2]
  rw[e1,e2]
 ·have hk:=zBo x A n c;obtain⟨f0,f1,f2,f3,xs⟩:=x;simp only at *;have hta:=ta150_150;have h4:f0=10∨f0=11∨f0=12∨f0=13:=kCW
  clear h;unfold exV at *;simp only at *;have k10:zDm 10=150:=rfl;have k11:zDm 11=150:=rfl;have k12:zDm 12=150:=rfl;have k13:zDm 13=150:=rfl;rcases h4 with rfl | rfl | rfl | rfl
  all_goals
   go_enter Tryz.func109,Tryz.ntmps109;go_wp2_with (go_at_call 96;refine (hk _).mono ?_;rintro e w1 ⟨rfl,hb1⟩);have h1:=((kA3 _ w).alloc (kA2 _) (.cells #[.int .i64 _,.string f1.f0,.string f1.f1,.string f2,.int .i64 f3,.slice A n c] 31)).trans (hb1.mono kCY);refine kAg (results_tmp2 rfl _ _ _) rfl ⟨rfl,?_⟩;exact h1.alloc h1.size _
def zCY (op:Int) (i:Nat):Bool:=zGg op&&decide (zEP op≤(i:Int))
def ownDel (op:Int) (name:ByteArray) (i:Nat) (D:DataW Unit):DataW Unit:=if zCY op i then D.del (.string name.data.toList) else D
mutual
/-- The names that an expression's map of free names holds. -/
def zEK:S31→DataW Unit
 | ⟨op,num,name,size,l⟩=>zCU op name 0 (ownD ⟨op,num,name,size,[]⟩) l
def zCU (op:Int) (name:ByteArray):Nat→DataW Unit→List S31→DataW Unit
 | _,D,[]=>D
 | i,D,x :: l=>zCU op name (i+1) (Lib.mergeD D (ownDel op name i (zEK x))) l
end
theorem freeG_eq (x:S31):zEK x=zCU x.f0 x.f2 0 (ownD x) x.f4:=by cases x;rfl
theorem mergeG_append (op:Int) (name:ByteArray) (l m:List S31):∀i D,zCU op name i D (l++m)=zCU op name (i+l.length) (zCU op name i D l) m:=by
 induction l with
 | nil=>intro i D;rfl
 | cons x l ih =>
  intro i D;have:=ih (i+1) (Lib.mergeD D (ownDel op name i (zEK x)));simp only[List.cons_append,zCU,List.length_cons];rw[this,show i+1+l.length=i+(l.length+1) by omega]
theorem mergeG_take (op:Int) (name:ByteArray) (D:DataW Unit) (l:List S31) (j:Nat) (h:j<l.length) :
  zCU op name 0 D (l.take (j+1))=Lib.mergeD (zCU op name 0 D (l.take j)) (ownDel op name j (zEK l[j])):=by
 rw[zCK l j h,mergeG_append,kAe,kAT (kAN h),kAL];rfl
mutual
/-- Names that are no great strings. -/
def smallB:S31→Bool
 | ⟨_,_,c,_,l⟩=>decide (c.size≤4611686018427387904)&&smallL l
def smallL:List S31→Bool
 | []=>true
 | x :: l=>smallB x&&smallL l
end
theorem smallB_eq (x:S31):smallB x=(decide (x.f2.size≤4611686018427387904)&&smallL x.f4):=by cases x;rfl
theorem smallL_mem {l:List S31} (h:smallL l=true) {x:S31} (hx:x∈l):smallB x=true:=by
 induction l with
 | nil=>simp at hx
 | cons y l ih =>
  simp only[smallL,kAx] at h;rcases kAU.1 hx with rfl | hx
  ·exact h.1
  ·exact ih h.2 hx
structure FreeGt (w:World) (op:Int) (name:ByteArray) (D:DataW Unit) (xs:List S31) (B j:Nat) (wr:World):Prop where
 map:MapAt wr B (1+zAK (xs.take j)) (zCU op name 0 D (xs.take j))
 below:Below w.heap.size w wr
theorem freeG_calls:∀(n:Nat) (x:S31),zAI x≤n→zAm x≤4611686018427387904→smallB x=true→∀(v:Value) (w:World),Vw w x v →
  Calls Tryz.prog 73 #[v] w fun e w'=>∃b,e=.returned (.map (some b))∧w.heap.size≤b∧MapAt w' b (zAm x) (zEK x)∧Below w.heap.size w w':=by
 intro n
 induction n with
 | zero=>intro x h;rw[zB3] at h;omega
 | succ n ih =>
  intro x hd hn hb v w hv;obtain⟨A,c,rfl,hc1,hc2⟩:=hv.out;rw[smallB_eq,kAx,kB6] at hb;obtain⟨hns,hb2⟩:=hb;rw[zB3] at hd;rw[zBv] at hn;have hrec:∀(j:Nat) (hj:j<x.f4.length) v w,Vw w x.f4[j] v→Calls Tryz.prog 73 #[v] w fun e w'=>∃b,e=.returned (.map (some b))∧w.heap.size≤b∧MapAt w' b (zAm x.f4[j]) (zEK x.f4[j])∧Below w.heap.size w w':=by
   intro j hj;have h1:=zCg (kAR hj);have h2:=zF3 (kAR hj);exact ih _ kCW kCW (smallL_mem hb2 (kAR hj))
  have hbn:=fun w'=>binds_calls x A x.f4.length c w'
  have hkey:keyOf Tryz.prog 9 (.string x.f2)=some (.string x.f2.data.toList):=Go.WideMaps.keyOf_string_mk Tryz.underlying9 kDf;have hD:∃D,D=ownD x:=⟨_,rfl⟩;obtain⟨D,hD⟩:=hD;have hDe:=hD;unfold ownD at hDe;have hmt:=mergeG_take x.f0 x.f2 D x.f4;have hnt:=zFU x.f4;have hnl:=zEd x.f4;have hlen:=zDy x.f4;have htk:x.f4.take x.f4.length=x.f4:=kB5;have hfe:zEK x=zCU x.f0 x.f2 0 D x.f4:=by rw[freeG_eq,← hD]
  rw[hfe,zBv];have hmm:=@run_makeMap Tryz.prog;obtain⟨f0,f1,f2,f3,xs⟩:=x;simp only at *;clear ih hv hb2 hfe hD hns;unfold exV at *;simp only at *;have HR:=kA1 hrec;have HN:=kA1 hnt;have HM:=kA1 hmt;have HNL:=kA1 hnl;have HT:=kA1 htk;have HC:=kA1 hc2;obtain⟨bf,hbf⟩:∃k,k=zEP f0:=⟨_,rfl⟩;obtain⟨bY,hbY⟩:∃k,k=zGg f0:=⟨_,rfl⟩;rw[← hbf,← hbY] at hbn;have hba:∀i:Nat,zCY f0 i=(bY&&decide (bf≤(i:Int))):=fun i=>by rw[hbf,hbY];rfl
  have HBA:=kA1 hba;have HB:=kA1 hbn;have HK:=kA1 hkey;clear hrec hnt hmt hnl htk hc2 hbn hkey hbf hbY hba;by_cases hop:f0=1
  ·rw[kAb hop] at hDe;have HD:=kA1 hDe;clear hDe;have hop':(f0==1)=true:=by rw[hop];rfl
   clear hop;go_enter Tryz.func73,Tryz.ntmps73;go_wp2_with (first
    | (at_mapUpdate;refine wpList_mapUpdate_own _ rfl _ _ _ 116 rfl 9 4 law9 Tryz.underlying116 (plainElem Tryz.prog 4) (w.heap.size+1) 0 (.map []) rfl (by have:=World.ownsMap_made (H:=Unit) (w.alloc (.cells #[.int .i64 f0,.string f1.f0,.string f1.f1,.string f2,.int .i64 f3,.slice A xs.length c] 31)) Tryz.prog 9 (plainElem Tryz.prog 4);rwa [kAC] at this) kDf _ _ _ rfl rfl HK.out _ [] (plainElem_bool Tryz.underlying4 true) ?_))
   intro w1 hown1 hgrow1;rw[← HD.out] at hown1;have hbx:=(hgrow1.block w.heap.size kCZ kD2).trans ((kA4 _ _ _ kCY).trans (zA4 w (.cells #[.int .i64 f0,.string f1.f0,.string f1.f1,.string f2,.int .i64 f3,.slice A xs.length c] 31)));have hbe:Below w.heap.size w w1:=(((kA3 _ w).alloc (kA2 _) (.cells #[.int .i64 f0,.string f1.f0,.string f1.f1,.string f2,.int .i64 f3,.slice A xs.length c] 31)).alloc kCY (.map #[] 0)).grown hgrow1 kCZ (fun k e=>by injection e with e;omega);clear hgrow1 hop';have BX:=kA1 hbx;have hb1:=kA1 hbe;obtain⟨⟨q0,q1,q2,q3,q4,q5⟩,_,xl⟩:=zA9 hbx;clear hbx hbe;go_wp2_with fail;refine (HB.out _).mono ?_;rintro e w2 ⟨rfl,hb2⟩;have hx2:=zAb hb2 BX.out;obtain⟨⟨p0,p1,p2,p3,p4,p5⟩,_,xl2⟩:=zA9 hx2;have HX2:=kA1 hx2;have hat:FreeGt w f0 f2 D xs (w.heap.size+1) 0 w2:=⟨by simpa[zAK,zCU] using hown1.kept (row:=none) ⟨hb2.os,hb2.tape,hb2.output,hb2.size,fun k hk _=>hb2.block k hk⟩ kCY,hb1.out.trans (hb2.mono hb1.out.size)⟩;clear hx2 hown1 q0 q1 q2 q3 q4 q5 xl;go_wp2;go_loopg [24] xs.length (fun k i wr=>∃j:Nat,j+k=xs.length∧i=.int .i64 j∧FreeGt w f0 f2 D xs (w.heap.size+1) j wr∧Hid (wr.heap[w.heap.size]?=some (.cells #[.int .i64 f0,.string f1.f0,.string f1.f1,.string f2,.int .i64 f3,.slice A xs.length c] 31 (0,0))))
   case atStart=>exact⟨0,kCW,rfl,hat,HX2⟩
   case round =>
    clear hat HX2 p0 p1 p2 p3 p4 p5 xl2;obtain⟨j,hj,rfl,hat,HX⟩:=hrel;by_cases hjl:j<xs.length
    ·obtain⟨ad,A5,c5,rfl,q0,q1,q2,q3,q4,q5,hvw⟩:=zAs (Kd.C_below HC.out hat.below) j hjl;have hr:=HR.out j hjl;have hn1:=HN.out j hjl;have hm1:=HM.out j hjl;have hn2:=HNL.out (j+1);generalize xs[j]=y at *;have Hvw:=kA1 hvw;clear hvw;go_wp2_with fail;refine (hr _ _ (Hvw.out.below ((kA3 _ _).alloc (kA2 _) _))).mono ?_;rintro e w3 ⟨b,rfl,hbge,hmap3,hb3⟩;have hbl:Below wr.heap.size wr w3:=((kA3 _ _).alloc (kA2 _) _).trans (hb3.mono kCY);have hB3:MapAt w3 (w.heap.size+1) (1+zAK (xs.take j)) (zCU f0 f2 0 D (xs.take j)):=hat.map.kept (row:=none) ⟨hbl.os,hbl.tape,hbl.output,hbl.size,fun k hk _=>hbl.block k hk⟩ kCY;have hBlt:=hat.map.lt;simp only[kAC] at hbge;have hsz:=hmap3.size_le;have hw3:=hat.below.trans (hbl.mono hat.below.size);have HW:=kA1 hw3;have hx3:=zAb hbl HX.out;have HX3:=kA1 hx3;clear hr hat hbl hb3;have hbat:=HBA.out j;unfold ownDel at hm1;rw[hbat] at hm1;clear hbat
     cases hins:(bY&&decide (bf≤(j:Int)))
     ·rw[hins,kAa kCY] at hm1;have hcp:=zE1 (w.heap.size+1) b _ _ _ _ w3 hB3 hmap3 kCW kDf;have hsplit:bY=false∨(bY=true∧decide (bf≤(j:Int))=false):=by
       cases bY
       ·exact .inl rfl
       ·exact .inr ⟨rfl,by simpa using hins⟩
      clear hmap3 hB3 hins hx3;rcases hsplit with rfl | ⟨rfl,hdf⟩
      all_goals
       go_wp2_with fail;refine hcp.mono ?_;rintro e w4 ⟨rfl,hm4,hg4⟩;have hat4:FreeGt w f0 f2 D xs (w.heap.size+1) (j+1) w4:=by
        refine⟨?_,HW.out.grown hg4 HW.out.size (fun k e=>by injection e with e;omega)⟩;rw[hm1,hn1];exact hm4.mono kCW
       have HX4:=kA1 ((hg4.block _ (zA5 HX3.out) kD2).trans HX3.out);clear hm4 hg4 hcp hw3;go_wp2;go_roundg (gk-1)
       case measure=>omega
       case rel=>exact⟨j+1,zCN hj hjl,by go_num,hat4,HX4⟩
     ·rw[hins,kAb rfl] at hm1;obtain⟨rfl,hdf⟩:bY=true∧decide (bf≤(j:Int))=true:=by simpa[kAx] using hins
      obtain⟨⟨g0,g1,g2,g3,g4,g5⟩,_,gl⟩:=zA9 hx3;have HB3:=kA1 hB3;have HM3:=kA1 hmap3;clear hins hx3 hmap3 hB3;go_wp2_with (at_delete;refine wpList_delete_own _ rfl _ _ 116 9 rfl 4 law9 Tryz.underlying116 (plainElem Tryz.prog 4) b _ _ rfl HM3.out _ _ rfl HK.out ?_;intro w5 hown5 hturn5);have hg5:=hturn5.grown;have hB5:=HB3.out.kept hg5 kD2;have hx5:=(hg5.block _ (zA5 HX3.out) kD2).trans HX3.out;have HX5:=kA1 hx5;have hw5:=HW.out.grown hg5 HW.out.size (fun k e=>by injection e with e;omega);have hs5:=hown5.size_le;have HW5:=kA1 hw5;have hcp:=zE1 (w.heap.size+1) b _ _ _ _ w5 hB5 hown5 kCW kDf;clear hown5 hturn5 hg5 hB5 hx5 hw5 g0 g1 g2 g3 g4 g5;go_wp2_with fail;refine hcp.mono ?_;rintro e w4 ⟨rfl,hm4,hg4⟩;have hat4:FreeGt w f0 f2 D xs (w.heap.size+1) (j+1) w4:=by
       refine⟨?_,HW5.out.grown hg4 HW5.out.size (fun k e=>by injection e with e;omega)⟩;rw[hm1,hn1];exact hm4.mono kCW
      have HX4:=kA1 ((hg4.block _ (zA5 HX5.out) kD2).trans HX5.out);clear hm4 hg4 hcp hw3;go_wp2;go_roundg (gk-1)
      case measure=>omega
      case rel=>exact⟨j+1,zCN hj hjl,by go_num,hat4,HX4⟩
    ·obtain rfl:j=xs.length:=kCW
     go_wp2;go_ret;have h1:=hat.map;rw[HT.out] at h1;exact⟨_,rfl,kCW,h1.mono kCW,hat.below⟩
  ·rw[kAa hop] at hDe;have HD:=kA1 hDe;have hop':=zAA hop;have hown0:MapAt ((w.alloc (.cells #[.int .i64 f0,.string f1.f0,.string f1.f1,.string f2,.int .i64 f3,.slice A xs.length c] 31)).alloc (.map #[] 0)) (w.heap.size+1) 0 (.map []):=by have:=World.ownsMap_made (H:=Unit) (w.alloc (.cells #[.int .i64 f0,.string f1.f0,.string f1.f1,.string f2,.int .i64 f3,.slice A xs.length c] 31)) Tryz.prog 9 (plainElem Tryz.prog 4);rwa [kAC] at this
   rw[← HD.out] at hown0;have hown1:=hown0.mono (n':=1) kCW;have hbx:((w.alloc (.cells #[.int .i64 f0,.string f1.f0,.string f1.f1,.string f2,.int .i64 f3,.slice A xs.length c] 31)).alloc (.map #[] 0)).heap[w.heap.size]?=_:=(kA4 _ _ _ kCY).trans (zA4 w (.cells #[.int .i64 f0,.string f1.f0,.string f1.f1,.string f2,.int .i64 f3,.slice A xs.length c] 31));have hbe:Below w.heap.size w ((w.alloc (.cells #[.int .i64 f0,.string f1.f0,.string f1.f1,.string f2,.int .i64 f3,.slice A xs.length c] 31)).alloc (.map #[] 0)):=((kA3 _ w).alloc (kA2 _) _).alloc kCY _;clear hDe hop hown0;go_enter Tryz.func73,Tryz.ntmps73;go_wp2_with fail;generalize hw1:(w.alloc (.cells #[.int .i64 f0,.string f1.f0,.string f1.f1,.string f2,.int .i64 f3,.slice A xs.length c] 31)).alloc (.map #[] 0)=w1 at *;clear hw1 hop';have BX:=kA1 hbx;have hb1:=kA1 hbe;obtain⟨⟨q0,q1,q2,q3,q4,q5⟩,_,xl⟩:=zA9 hbx;clear hbx hbe;go_wp2_with fail;refine (HB.out _).mono ?_;rintro e w2 ⟨rfl,hb2⟩;have hx2:=zAb hb2 BX.out;obtain⟨⟨p0,p1,p2,p3,p4,p5⟩,_,xl2⟩:=zA9 hx2;have HX2:=kA1 hx2;have hat:FreeGt w f0 f2 D xs (w.heap.size+1) 0 w2:=⟨by simpa[zAK,zCU] using hown1.kept (row:=none) ⟨hb2.os,hb2.tape,hb2.output,hb2.size,fun k hk _=>hb2.block k hk⟩ kCY,hb1.out.trans (hb2.mono hb1.out.size)⟩;clear hx2 hown1 q0 q1 q2 q3 q4 q5 xl;go_wp2;go_loopg [24] xs.length (fun k i wr=>∃j:Nat,j+k=xs.length∧i=.int .i64 j∧FreeGt w f0 f2 D xs (w.heap.size+1) j wr∧Hid (wr.heap[w.heap.size]?=some (.cells #[.int .i64 f0,.string f1.f0,.string f1.f1,.string f2,.int .i64 f3,.slice A xs.length c] 31 (0,0))))
   case atStart=>exact⟨0,kCW,rfl,hat,HX2⟩
   case round =>
    clear hat HX2 p0 p1 p2 p3 p4 p5 xl2;obtain⟨j,hj,rfl,hat,HX⟩:=hrel;by_cases hjl:j<xs.length
    ·obtain⟨ad,A5,c5,rfl,q0,q1,q2,q3,q4,q5,hvw⟩:=zAs (Kd.C_below HC.out hat.below) j hjl;have hr:=HR.out j hjl;have hn1:=HN.out j hjl;have hm1:=HM.out j hjl;have hn2:=HNL.out (j+1);generalize xs[j]=y at *;have Hvw:=kA1 hvw;clear hvw;go_wp2_with fail;refine (hr _ _ (Hvw.out.below ((kA3 _ _).alloc (kA2 _) _))).mono ?_;rintro e w3 ⟨b,rfl,hbge,hmap3,hb3⟩;have hbl:Below wr.heap.size wr w3:=((kA3 _ _).alloc (kA2 _) _).trans (hb3.mono kCY);have hB3:MapAt w3 (w.heap.size+1) (1+zAK (xs.take j)) (zCU f0 f2 0 D (xs.take j)):=hat.map.kept (row:=none) ⟨hbl.os,hbl.tape,hbl.output,hbl.size,fun k hk _=>hbl.block k hk⟩ kCY;have hBlt:=hat.map.lt;simp only[kAC] at hbge;have hsz:=hmap3.size_le;have hw3:=hat.below.trans (hbl.mono hat.below.size);have HW:=kA1 hw3;have hx3:=zAb hbl HX.out;have HX3:=kA1 hx3;clear hr hat hbl hb3;have hbat:=HBA.out j;unfold ownDel at hm1;rw[hbat] at hm1;clear hbat
     cases hins:(bY&&decide (bf≤(j:Int)))
     ·rw[hins,kAa kCY] at hm1;have hcp:=zE1 (w.heap.size+1) b _ _ _ _ w3 hB3 hmap3 kCW kDf;have hsplit:bY=false∨(bY=true∧decide (bf≤(j:Int))=false):=by
       cases bY
       ·exact .inl rfl
       ·exact .inr ⟨rfl,by simpa using hins⟩
      clear hmap3 hB3 hins hx3;rcases hsplit with rfl | ⟨rfl,hdf⟩
      all_goals
       go_wp2_with fail;refine hcp.mono ?_;rintro e w4 ⟨rfl,hm4,hg4⟩;have hat4:FreeGt w f0 f2 D xs (w.heap.size+1) (j+1) w4:=by
        refine⟨?_,HW.out.grown hg4 HW.out.size (fun k e=>by injection e with e;omega)⟩;rw[hm1,hn1];exact hm4.mono kCW
       have HX4:=kA1 ((hg4.block _ (zA5 HX3.out) kD2).trans HX3.out);clear hm4 hg4 hcp hw3;go_wp2;go_roundg (gk-1)
       case measure=>omega
       case rel=>exact⟨j+1,zCN hj hjl,by go_num,hat4,HX4⟩
     ·rw[hins,kAb rfl] at hm1;obtain⟨rfl,hdf⟩:bY=true∧decide (bf≤(j:Int))=true:=by simpa[kAx] using hins
      obtain⟨⟨g0,g1,g2,g3,g4,g5⟩,_,gl⟩:=zA9 hx3;have HB3:=kA1 hB3;have HM3:=kA1 hmap3;clear hins hx3 hmap3 hB3;go_wp2_with (at_delete;refine wpList_delete_own _ rfl _ _ 116 9 rfl 4 law9 Tryz.underlying116 (plainElem Tryz.prog 4) b _ _ rfl HM3.out _ _ rfl HK.out ?_;intro w5 hown5 hturn5);have hg5:=hturn5.grown;have hB5:=HB3.out.kept hg5 kD2;have hx5:=(hg5.block _ (zA5 HX3.out) kD2).trans HX3.out;have HX5:=kA1 hx5;have hw5:=HW.out.grown hg5 HW.out.size (fun k e=>by injection e with e;omega);have hs5:=hown5.size_le;have HW5:=kA1 hw5;have hcp:=zE1 (w.heap.size+1) b _ _ _ _ w5 hB5 hown5 kCW kDf;clear hown5 hturn5 hg5 hB5 hx5 hw5 g0 g1 g2 g3 g4 g5;go_wp2_with fail;refine hcp.mono ?_;rintro e w4 ⟨rfl,hm4,hg4⟩;have hat4:FreeGt w f0 f2 D xs (w.heap.size+1) (j+1) w4:=by
       refine⟨?_,HW5.out.grown hg4 HW5.out.size (fun k e=>by injection e with e;omega)⟩;rw[hm1,hn1];exact hm4.mono kCW
      have HX4:=kA1 ((hg4.block _ (zA5 HX5.out) kD2).trans HX5.out);clear hm4 hg4 hcp hw3;go_wp2;go_roundg (gk-1)
      case measure=>omega
      case rel=>exact⟨j+1,zCN hj hjl,by go_num,hat4,HX4⟩
    ·obtain rfl:j=xs.length:=kCW
     go_wp2;go_ret;have h1:=hat.map;rw[HT.out] at h1;exact⟨_,rfl,kCW,h1.mono kCW,hat.below⟩
end Go.Proofs.YtjaobihcdkjmbaaGreatDoor
end
section
namespace Go.Proofs.YtjaobihcdkjmbaaGreatDoor
open Go.RowKit Go.Proofs.YtjaobihcdkjmbaaGreatDoorW.PrintWords Go.Proofs.YtjaobihcdkjmbaaGreatDoor.PReadTokens
theorem beq_not {a b:Int} (h:a≠b):(a==b)=false:=kAj.2 h
theorem zEu (c:Int):metewandref13_small.f c=some (srt c==2):=by
 unfold metewandref13_small.f srt;by_cases h1:c=32
 ·subst h1;rfl
 ·rw[kAa h1];by_cases h2:97≤c∧c≤122
  ·rw[kAb h2,kAb h2.1,kA5 h2.2];rfl
  ·rw[kAa h2];have e:((if 65≤c∧c≤90 then 3 else if 48≤c∧c≤57 then 4 else if zBf c ms.data.toList=true then 5 else 0:Int)==2)=false:=by
    repeat' split
    all_goals rfl
   rw[e];by_cases h3:c≥97
   ·rw[kAb h3,kA6 kCW]
   ·rw[kAa h3]
theorem digit_srt (c:Int):metewandref13_digit.f c=some (srt c==4):=by
 unfold metewandref13_digit.f srt;by_cases h1:c=32
 ·subst h1;rfl
 ·rw[kAa h1];by_cases h2:97≤c∧c≤122
  ·rw[kAb h2,kAb kCW,kA6 kCW];rfl
  ·rw[kAa h2];by_cases h3:65≤c∧c≤90
   ·rw[kAb h3,kAb kCW,kA6 kCW];rfl
   ·rw[kAa h3];by_cases h4:48≤c∧c≤57
    ·rw[kAb h4,kAb h4.1,kA5 h4.2];rfl
    ·rw[kAa h4];have e:((if zBf c ms.data.toList=true then 5 else 0:Int)==4)=false:=by
      split<;>rfl
     rw[e];by_cases h5:c≥48
     ·rw[kAb h5,kA6 kCW]
     ·rw[kAa h5]
theorem large_srt (c:Int):metewandref13_large.f c=some (srt c==3):=by
 unfold metewandref13_large.f srt;by_cases h1:c=32
 ·subst h1;rfl
 ·rw[kAa h1];by_cases h2:97≤c∧c≤122
  ·rw[kAb h2,kAb kCW,kA6 kCW];rfl
  ·rw[kAa h2];by_cases h3:65≤c∧c≤90
   ·rw[kAb h3,kAb kCW,kA5 h3.2];rfl
   ·rw[kAa h3];have e:((if 48≤c∧c≤57 then 4 else if zBf c ms.data.toList=true then 5 else 0:Int)==3)=false:=by
     repeat' split
     all_goals rfl
    rw[e];by_cases h5:c≥65
    ·rw[kAb h5,kA6 kCW]
    ·rw[kAa h5]
theorem sign_mark (c:Int) (d:Nat):∀(k i:Nat),i+d=14→d<k→metewandref13_sign.l0 k c (i:Int)=some (zBf c (ms.data.toList.drop i)):=by
 have hsz:ms.size=14:=rfl
 induction d with
 | zero =>
  intro k i hi hk;obtain⟨k,rfl⟩:∃m,k=m+1:=⟨k-1,kCW⟩;obtain rfl:i=14:=kCW
  simp only[metewandref13_sign.l0];rw[kAa kD0];rfl
 | succ d ih =>
  intro k i hi hk;obtain⟨k,rfl⟩:∃m,k=m+1:=⟨k-1,kCW⟩;simp only[metewandref13_sign.l0];rw[kAb kCW,kAb kCW,zDU i kCW,ih k (i+1) kCW kCW,zEF c i kCW];have hb:bt ms (i:Int)=((ms[i]' kCW).toNat:Int):=zCc ms i kCW;rw[hb];by_cases h:((ms[i]' kCW).toNat:Int)=c
  ·rw[kAb h,h];simp
  ·rw[kAa h,beq_not (fun e=>h e.symm),Bool.false_or]
theorem sign_srt (c:Int) (k:Nat) (hk:15≤k):metewandref13_sign.f k c=some (srt c==5):=by
 unfold metewandref13_sign.f;rw[show (0:Int)=((0:Nat):Int) from rfl,sign_mark c 14 k 0 kCW kCW,kBB];congr 1;have hm:∀c:Int,zBf c ms.data.toList=true→c≠32∧¬(97≤c∧c≤122)∧¬(65≤c∧c≤90)∧¬(48≤c∧c≤57):=by
  intro c h;have:c=40∨c=41∨c=91∨c=93∨c=44∨c=43∨c=45∨c=42∨c=47∨c=94∨c=60∨c=61∨c=46∨c=124:=by
   simpa[zBf] using h
  omega
 cases h:zBf c ms.data.toList with
 | true =>
  obtain⟨a,b,c',d⟩:=hm c h;unfold srt;rw[kAa a,kAa b,kAa c',kAa d,kAb h];rfl
 | false =>
  unfold srt;rw[h]
  repeat' split
  all_goals first | rfl | simp_all
theorem blank_srt (c:Int):c=32↔srt c=1:=by
 unfold srt;by_cases h:c=32
 ·rw[kAb h];exact⟨fun _=>rfl,fun _=>h⟩
 ·rw[kAa h];refine⟨fun e=>absurd e h,fun e=>?_⟩;revert e
  repeat' split
  all_goals intro e;exact absurd e kD0
theorem word_same (s:ByteArray):metewandref13_Word.f s=some (zDe s):=by
 unfold zDe read_word.f metewandref13_Word.f
 repeat' split
 all_goals first | rfl | skip
 all_goals
  simp_all
theorem name_tail (s:ByteArray) (hs:s.size<9223372036854775807) (d:Nat):∀(k pos:Nat),0<pos→pos+d=s.size→d<k→metewandref13_Name.l0 k s (pos:Int)=some (zC6 pos (s.data.toList.drop pos)):=by
 induction d with
 | zero =>
  intro k pos h0 hp hk;obtain⟨k,rfl⟩:∃m,k=m+1:=⟨k-1,kCW⟩;simp only[metewandref13_Name.l0];rw[kAa kCW,kAZ (show s.data.toList.length≤pos by have:s.data.toList.length=s.size:=rfl;omega)];rfl
 | succ d ih =>
  intro k pos h0 hp hk;obtain⟨k,rfl⟩:∃m,k=m+1:=⟨k-1,kCW⟩;have hlt:pos<s.size:=kCW
  simp only[metewandref13_Name.l0];rw[kAb kCW,kAb kCW,zCc s pos hlt,zDU pos kCW,ih k (pos+1) kCW kCW kCW,zDv s pos hlt,zEu,digit_srt];simp only[Option.bind_some];unfold nchk;rw[kA5 h0,Bool.and_true]
  cases (srt ((s[pos]'hlt).toNat:Int)==2)<;>cases (srt ((s[pos]'hlt).toNat:Int)==4)<;>rfl
theorem name_same (s:ByteArray) (hs:s.size<9223372036854775807) (k:Nat) (hk:s.size+2≤k):metewandref13_Name.f k s=some (zC7 s):=by
 obtain⟨k,rfl⟩:∃m,k=m+1:=⟨k-1,kCW⟩;unfold metewandref13_Name.f zC7;by_cases h1:s.size=0
 ·rw[kAb kCW,kA6 (show ¬0<s.size by omega)];simp[metewandref13_Name.j0]
 ·rw[kAa kCW,kA5 (show 0<s.size by omega),kC1];by_cases h2:s.size≤12
  ·rw[kAa kCW,kAb kCW,kA5 h2,kC1];have hlt:0<s.size:=kCW
   have hb:=zCc s 0 hlt;rw[show ((0:Nat):Int)=0 from rfl] at hb;rw[hb,zEu,word_same];simp only[Option.bind_some];have hd:=zDv s 0 hlt;rw[kBB] at hd;rw[hd];unfold nchk;simp only[Nat.lt_irrefl,decide_false,Bool.and_false,Bool.or_false]
   cases h3:(srt ((s[0]'hlt).toNat:Int)==2) with
   | false=>simp[metewandref13_Name.j0]
   | true =>
    cases h4:zDe s with
    | true=>simp[metewandref13_Name.j0]
    | false =>
     simp only[metewandref13_Name.j0];rw[kAb trivial,kAa kD0];obtain⟨k,rfl⟩:∃m,k=m+1:=⟨k-1,kCW⟩;rw[show (0:Int)=((0:Nat):Int) from rfl];simp only[metewandref13_Name.l0];rw[kAb kCW,kAb kCW,zCc s 0 hlt,zEu,h3];simp only[Option.bind_some];rw[kAb trivial,zDU 0 kCW,name_tail s hs (s.size-1) k 1 kCW kCW kCW];rfl
  ·rw[kAb kCW,kA6 h2];simp[metewandref13_Name.j0]
theorem unit_tail (s:ByteArray) (hs:s.size<9223372036854775807) (d:Nat):∀(k pos:Nat),pos+d=s.size→d<k→metewandref13_unit.l0 k s (pos:Int)=some ((s.data.toList.drop pos).all uchk):=by
 induction d with
 | zero =>
  intro k pos hp hk;obtain⟨k,rfl⟩:∃m,k=m+1:=⟨k-1,kCW⟩;simp only[metewandref13_unit.l0];rw[kAa kCW,kAZ (show s.data.toList.length≤pos by have:s.data.toList.length=s.size:=rfl;omega)];rfl
 | succ d ih =>
  intro k pos hp hk;obtain⟨k,rfl⟩:∃m,k=m+1:=⟨k-1,kCW⟩;have hlt:pos<s.size:=kCW
  have hl:pos<s.data.toList.length:=hlt;simp only[metewandref13_unit.l0];rw[kAb kCW,kAb kCW,zCc s pos hlt,zDU pos kCW,ih k (pos+1) kCW kCW,kAn hl,List.all_cons];have e:s.data.toList[pos]=s[pos]:=rfl;rw[e];unfold uchk;by_cases h1:((s[pos]'hlt).toNat:Int)<32
  ·rw[kAb h1,kA6 (show ¬32≤(s[pos]'hlt).toNat by omega)];rfl
  ·rw[kAa h1,kA5 (show 32≤(s[pos]'hlt).toNat by omega)];by_cases h2:((s[pos]'hlt).toNat:Int) > 126
   ·rw[kAb h2,kA6 (show ¬(s[pos]'hlt).toNat≤126 by omega)];rfl
   ·rw[kAa h2,kA5 (show (s[pos]'hlt).toNat≤126 by omega)];by_cases h3:((s[pos]'hlt).toNat:Int)=123
    ·rw[kAb h3,kA6 (show ¬(s[pos]'hlt).toNat≠123 by omega)];rfl
    ·rw[kAa h3,kA5 (show (s[pos]'hlt).toNat≠123 by omega)];by_cases h4:((s[pos]'hlt).toNat:Int)=125
     ·rw[kAb h4,kA6 (show ¬(s[pos]'hlt).toNat≠125 by omega)];rfl
     ·rw[kAa h4,kA5 (show (s[pos]'hlt).toNat≠125 by omega)];rfl
theorem unit_same (s:ByteArray) (hs:s.size<9223372036854775807) (k:Nat) (hk:s.size+2≤k):metewandref13_unit.f k s=some (zCB s):=by
 obtain⟨k,rfl⟩:∃m,k=m+1:=⟨k-1,kCW⟩;unfold metewandref13_unit.f zCB;by_cases h1:s.size=0
 ·rw[kAb kCW,kA6 (show ¬1≤s.size by omega)];simp[metewandref13_unit.j0]
 ·rw[kAa kCW,kA5 (show 1≤s.size by omega),kC1];by_cases h2:s.size≤20
  ·rw[kA5 h2,kA6 kCW];simp only[metewandref13_unit.j0];rw[kAa kD0,show (0:Int)=((0:Nat):Int) from rfl,unit_tail s hs s.size k 0 kCW kCW,kBB,kC1]
  ·rw[kA6 h2,kA5 kCW];simp[metewandref13_unit.j0]
theorem zFw {ks:List Int} {s:ByteArray} {pos:Nat} (h:pos<s.size) (hk:ks.contains (srt (s[pos]'h).toNat)=true):zBa ks (zAn s pos)=1+zBa ks (zAn s (pos+1)):=by
 unfold zAn zBa;rw[kAn (show pos<s.data.toList.length from h),kAQ];have:okC ks (s.data.toList[pos]'(show pos<s.data.toList.length from h))=true:=hk;rw[kAb this,List.length_cons];omega
theorem run_stop {ks:List Int} {s:ByteArray} {pos:Nat} (h:pos<s.size) (hk:ks.contains (srt (s[pos]'h).toNat)=false):zBa ks (zAn s pos)=0:=by
 unfold zAn zBa;rw[kAn (show pos<s.data.toList.length from h),kAQ];have:¬okC ks (s.data.toList[pos]'(show pos<s.data.toList.length from h))=true:=by rw[show okC ks (s.data.toList[pos]'(show pos<s.data.toList.length from h))=false from hk];decide
 rw[kAa this];rfl
theorem run_over {ks:List Int} {s:ByteArray} {pos:Nat} (h:s.size≤pos):zBa ks (zAn s pos)=0:=by
 unfold zAn zBa;rw[kAZ (show s.data.toList.length≤pos from h)];rfl
theorem bt_first (s:ByteArray) (a n:Nat) (h:a<n) (hn:n≤s.size):bt (s.extract a n) 0=((s[a]' kCW).toNat:Int):=by
 have hsz:(s.extract a n).size=n-a:=kDC
 have:=zCc (s.extract a n) 0 kCW;rw[show ((0:Nat):Int)=0 from rfl] at this;rw[this];congr 1;rw[ByteArray.getElem_extract];rfl
theorem brk_step {s:ByteArray} {pos:Nat} (h:pos<s.size) (hk:(s[pos]'h).toNat≠125):brk (zAn s pos)=1+brk (zAn s (pos+1)):=by
 unfold zAn brk;rw[kAn (show pos<s.data.toList.length from h),kAQ];have:(s.data.toList[pos]'(show pos<s.data.toList.length from h) != 125)=true:=by
  rw[kCw];intro e;apply hk;show (s.data.toList[pos]'(show pos<s.data.toList.length from h)).toNat=125;rw[e];rfl
 rw[kAb this,List.length_cons];omega
theorem brk_stop {s:ByteArray} {pos:Nat} (h:pos<s.size) (hk:(s[pos]'h).toNat=125):brk (zAn s pos)=0:=by
 unfold zAn brk;rw[kAn (show pos<s.data.toList.length from h),kAQ];have h1:s[pos]'h=125:=kCT.1 hk;have:¬(s.data.toList[pos]'(show pos<s.data.toList.length from h) != 125)=true:=by
  rw[show s.data.toList[pos]'(show pos<s.data.toList.length from h)=125 from h1];decide
 rw[kAa this];rfl
theorem brk_over {s:ByteArray} {pos:Nat} (h:s.size≤pos):brk (zAn s pos)=0:=by
 unfold zAn brk;rw[kAZ (show s.data.toList.length≤pos from h)];rfl
theorem srt_brace {c:Int} (h:c=123):srt c=0:=by subst h;rfl
theorem mark_one (s:ByteArray) (b:Nat) (h:b<s.size):s.extract b (b+1)=⟨#[s[b]'h]⟩:=by
 apply kC0;apply kBZ.1;rw[kAS,kAn (show b<s.data.toList.length from h),Nat.add_sub_cancel_left];rfl
end Go.Proofs.YtjaobihcdkjmbaaGreatDoor
end
section
namespace Go.Proofs.YtjaobihcdkjmbaaGreatDoor
open Go.RowKit Go.Proofs.YtjaobihcdkjmbaaGreatDoorW.PrintWords Go.Proofs.YtjaobihcdkjmbaaGreatDoor.PReadTokens
abbrev zGj:=Int×ByteArray×Int×Int×Bool
def noTok:zGj:=(0,⟨#[]⟩,0,0,false)
def nameU (s:ByteArray) (a n:Nat):zGj:=(if zDe (s.extract a n)=true then 1 else 0,s.extract a n,a,n,zDe (s.extract a n)||zC7 (s.extract a n))
def numU (s:ByteArray) (a n:Nat):zGj:=(2,s.extract a n,a,n,decide (n-a≤400)&&(bt s a != 48||n-a==1))
def unitV (s:ByteArray) (a n:Nat):zGj:=if n=s.size then noTok else if zCB (s.extract (a+1) n)=true then (3,s.extract (a+1) n,a,(n+1:Nat),true) else noTok
def signU (s:ByteArray) (a:Nat):zGj:=if srt (bt s a)=5 then (4,s.extract a (a+1),a,(a+1:Nat),true) else noTok
def tokU (s:ByteArray) (a:Nat):zGj :=
  if srt (bt s a)=2 then nameU s a (zAS s a) else if srt (bt s a)=4 then numU s a (zBi s a) else if bt s a=123 then unitV s a (zAx s a)
  else signU s a
def RtPost (r:zGj) (w:World) (e:Ending) (w':World):Prop :=
  e=.returned (.tuple #[.agg #[.int .i64 r.1,.string r.2.1,.int .i64 r.2.2.1],.int .i64 r.2.2.2.1,.bool r.2.2.2.2])∧Below w.heap.size w w'
theorem zEv (c:Int) (b:Bool) (h:Hid ((srt c==2)=b)) (w:World):Calls Tryz.prog 115 #[.int .u8 c] w fun e w'=>e=.returned (.bool b)∧Drawn0 w w':=metewandref13_small.calls c b w (by rw[zEu,h.out])
theorem zEM (c:Int) (b:Bool) (h:Hid ((srt c==4)=b)) (w:World):Calls Tryz.prog 117 #[.int .u8 c] w fun e w'=>e=.returned (.bool b)∧Drawn0 w w':=metewandref13_digit.calls c b w (by rw[digit_srt,h.out])
theorem lg_calls (c:Int) (b:Bool) (h:Hid ((srt c==3)=b)) (w:World):Calls Tryz.prog 126 #[.int .u8 c] w fun e w'=>e=.returned (.bool b)∧Drawn0 w w':=metewandref13_large.calls c b w (by rw[large_srt,h.out])
theorem sg_calls (c:Int) (b:Bool) (h:Hid ((srt c==5)=b)) (w:World):Calls Tryz.prog 128 #[.int .u8 c] w fun e w'=>e=.returned (.bool b)∧Drawn0 w w':=metewandref13_sign.calls 15 c b w (by rw[sign_srt c 15 (kA2 _),h.out])
theorem wd_calls (s:ByteArray) (b:Bool) (h:Hid (zDe s=b)) (w:World):Calls Tryz.prog 116 #[.string s] w fun e w'=>e=.returned (.bool b)∧Drawn0 w w':=metewandref13_Word.calls s b w (by rw[word_same,h.out])
theorem nm_calls (s:ByteArray) (b:Bool) (hs:s.size<9223372036854775807) (h:Hid (zC7 s=b)) (w:World):Calls Tryz.prog 80 #[.string s] w fun e w'=>e=.returned (.bool b)∧Drawn0 w w':=metewandref13_Name.calls _ s b w (by rw[name_same s hs _ (kA2 _),h.out])
theorem un_calls (s:ByteArray) (b:Bool) (hs:s.size<9223372036854775807) (h:Hid (zCB s=b)) (w:World):Calls Tryz.prog 127 #[.string s] w fun e w'=>e=.returned (.bool b)∧Drawn0 w w':=metewandref13_unit.calls _ s b w (by rw[unit_same s hs _ (kA2 _),h.out])
def zGi (ks:List Int) (s:ByteArray) (x n:Int):Prop:=0≤x∧x≤s.size∧x.toNat+zBa ks (zAn s x.toNat)=n
theorem zGi.end_ {ks:List Int} {s:ByteArray} {x n:Int} (h:zGi ks s x n) (hx:¬x<s.size):x=n:=by
  obtain⟨h0,h1,h2⟩:=h;rw[run_over kCW] at h2;omega
theorem zGi.next {ks:List Int} {s:ByteArray} {x n:Int} (h:zGi ks s x n) (hx:x<s.size) (hk:ks.contains (srt (bt s x))=true):zGi ks s (x+1) n:=by
  obtain⟨h0,h1,h2⟩:=h;obtain⟨m,rfl⟩:∃m:Nat,x=m:=⟨x.toNat,kCW⟩;rw[zCc s m kCW] at hk;rw[Int.toNat_natCast,zFw kCW hk] at h2;exact⟨kCW,kCW,by rw[show ((m:Int)+1).toNat=m+1 by omega];omega⟩
theorem zGi.stop {ks:List Int} {s:ByteArray} {x n:Int} (h:zGi ks s x n) (hx:x<s.size) (hk:ks.contains (srt (bt s x))=false):x=n:=by
  obtain⟨h0,h1,h2⟩:=h;obtain⟨m,rfl⟩:∃m:Nat,x=m:=⟨x.toNat,kCW⟩;rw[zCc s m kCW] at hk;rw[Int.toNat_natCast,run_stop kCW hk] at h2;omega
theorem con3 (k:Int):([2,3,4]:List Int).contains k=(k==2||k==4||k==3):=by rw[kBW];simp[or_comm,or_left_comm]
theorem zFD {W:World} {g:Nat} (h:W.heap[g]?=some (.cells #[.int .i64 0,.string (⟨#[]⟩:ByteArray),.int .i64 0] 47 (0,0))) :
    (W.cell? ⟨g,0,none⟩=some (.int .i64 0)∧W.cell? ⟨g,1,none⟩=some (.string ⟨#[]⟩)∧W.cell? ⟨g,2,none⟩=some (.int .i64 0))∧W.frozen? ⟨g,0,none⟩=false∧W.frozen? ⟨g,1,none⟩=false∧W.frozen? ⟨g,2,none⟩=false :=
  ⟨⟨zA1 h 0,zA1 h 1,zA1 h 2⟩,zA2 h 0,zA2 h 1,zA2 h 2⟩
abbrev Z47:Obj:=.cells #[.int .i64 0,.string (⟨#[]⟩:ByteArray),.int .i64 0] 47 (0,0)
theorem rt_name (s:ByteArray) (a:Int) (h0:0≤a) (h1:a<s.size) (hs:s.size<4611686018427387904) (h2:srt (bt s a)=2) (n:Int) (hn:zGi [2,3,4] s a n) (w:World) :
    Calls Tryz.prog 89 #[.string s,.int .i64 a] w (RtPost (nameU s a.toNat n.toNat) w):=by
  have hn1:=hn.next h1 (by rw[h2];rfl)
  have hle:n≤s.size:=by
    have:=zDF [2,3,4] s a.toNat kCW;have h3:=hn.2.2;omega
  have hlt:a+1≤n:=by have:=hn1.2.2;have:=hn1.1;omega
  have HS:=kA1 (show (srt (bt s a)==2)=true by rw[h2];rfl);have d0:decide (0≤a)=true:=kA5 h0;have d1:decide (a<(s.size:Int))=true:=kA5 h1;obtain⟨b,hb⟩:∃b,b=a+1:=⟨_,rfl⟩;have e1:wrap64 (a+1)=b:=by rw[hb];unfold wrap64;omega
  rw[← hb] at hn1;have HN:=kA1 hn1;have HB:=kA1 hb;have HA:=kA1 (⟨h0,h1,hs,hlt,hle⟩:0≤a∧a<s.size∧s.size<4611686018427387904∧a+1≤n∧n≤s.size);have hx:=zBA s a;have p0:=kAs h0;have p1:=kAs h1;clear hn hn1 hb h2 h0 h1 hs hlt hle;go_enter Tryz.func89,Tryz.ntmps89
  go_upto_block 1 with (first | (go_at_call 115;(with_reducible refine (zEv _ true HS _).mono ?_);rintro e w' ⟨rfl,⟨nd,rfl⟩⟩))
  go_cut [7] (fun v7 wc=>v7=.int .i64 n∧Hid (wc.heap[w.heap.size]?=some Z47)∧Hid (Below w.heap.size w wc))
  case first =>
    go_wp2;go_loopg [7] (s.size-b.toNat) (fun g v7 w'=>∃x:Int,v7=.int .i64 x∧Hid (zGi [2,3,4] s x n∧x+g=s.size)∧Hid (w'.heap[w.heap.size]?=some Z47)∧Hid (Below w.heap.size w w'))
    case atStart=>exact⟨b,rfl,kA1 ⟨HN.out,by have:=HN.out.1;have:=HN.out.2.1;omega⟩,kA1 (zAp (zA4 _ _) _),kA1 (zA3 ((kA3 _ _).alloc (kA2 _) _) _)⟩
    case round =>
      obtain⟨x,rfl,HR,BK,BB⟩:=hrel;clear HS HN p0 p1 d0 d1 hx e1;by_cases hlt:x<s.size
      · obtain⟨k1,rfl⟩:∃m,gk=m+1:=⟨gk-1,by have:=HR.out.2;omega⟩
        obtain⟨b2,b4,b3,H2,H4,H3,HC⟩:∃b2 b4 b3:Bool,Hid ((srt (bt s x)==2)=b2)∧Hid ((srt (bt s x)==4)=b4)∧Hid ((srt (bt s x)==3)=b3)∧Hid (([2,3,4]:List Int).contains (srt (bt s x))=(b2||b4||b3)) :=
          ⟨_,_,_,kA1 rfl,kA1 rfl,kA1 rfl,kA1 (con3 _)⟩
        obtain⟨y,hy⟩:∃y,y=x+1:=⟨_,rfl⟩;have ey:wrap64 (x+1)=y:=by have:=HR.out.1.1;have:=HA.out.2.2.1;rw[hy];unfold wrap64;omega
        have HY:=kA1 hy;have HL:=kA1 hlt;have p0:=kAs HR.out.1.1;have p1:=kAs hlt;have d1:decide (x<(s.size:Int))=true:=kA5 hlt;have hx:=zBA s x;clear hy hlt
        cases b2<;>cases b4<;>cases b3
        all_goals
          go_wp2_with (first | (go_at_call 115;(with_reducible refine (zEv _ _ H2 _).mono ?_);rintro e w' ⟨rfl,⟨nd,rfl⟩⟩) | (go_at_call 117;(with_reducible refine (zEM _ _ H4 _).mono ?_);rintro e w' ⟨rfl,⟨nd,rfl⟩⟩) | (go_at_call 126;(with_reducible refine (lg_calls _ _ H3 _).mono ?_);rintro e w' ⟨rfl,⟨nd,rfl⟩⟩))
          first
            | (go_roundg k1
               case measure=>omega
               case rel=>exact⟨_,rfl,kA1 ⟨by rw[ey,HY.out];exact HR.out.1.next HL.out (by rw[HC.out];rfl),by have:=HR.out.2;have:=HY.out;rw[ey];omega⟩,kA1 (by repeat (first | exact BK.out | refine zAp ?_ _)),kA1 (by repeat (first | exact BB.out | refine zA3 ?_ _))⟩)
            | (go_meet
               case rel=>exact⟨by rw[HR.out.1.stop HL.out (by rw[HC.out];rfl)],kA1 (by repeat (first | exact BK.out | refine zAp ?_ _)),kA1 (by repeat (first | exact BB.out | refine zA3 ?_ _))⟩)
      · have HL:=kA1 hlt
        have d1:decide (x<(s.size:Int))=false:=kA6 hlt;clear hlt;go_wp2
        go_meet
        case rel=>exact⟨by rw[HR.out.1.end_ kDI],BK,BB⟩
  case rest =>
    obtain⟨rfl,BK,BB⟩:=hcut;obtain⟨g0,g1,g2,g3,g4⟩:=HA.out;have l0:=kAs g0;have l1:=kAs (show a≤n by omega);have l2:=kAs g4;have m0:decide (0≤a)=true:=kA5 g0;have m1:decide (a≤n)=true:=kA5 kCW;have m2:decide (n≤(s.size:Int))=true:=kA5 g4;obtain⟨b1,b2,H1,H2⟩:∃b1 b2:Bool,Hid (zDe (s.extract a.toNat n.toNat)=b1)∧Hid (zC7 (s.extract a.toNat n.toNat)=b2):=⟨_,_,kA1 rfl,kA1 rfl⟩;have HX:=kA1 (show (s.extract a.toNat n.toNat).size<9223372036854775807 by rw[kAy];omega);have HT:=kA1 (show nameU s a.toNat n.toNat=(if b1=true then 1 else 0,s.extract a.toNat n.toNat,a,n,b1||b2) by unfold nameU;rw[H1.out,H2.out,kBt g0,kBt kCW]);obtain⟨⟨k0,k1,k2⟩,f0,f1,f2⟩:=zFD BK.out;clear g0 g1 g2 g3 g4 p0 p1 d0 d1 hx e1 HN HB
    cases b1
    all_goals
      go_wp2_with (first | (go_at_call 116;(with_reducible refine (wd_calls _ _ H1 _).mono ?_);rintro e w' ⟨rfl,⟨nd,rfl⟩⟩) | (go_at_call 80;(with_reducible refine (nm_calls _ _ HX.out H2 _).mono ?_);rintro e w' ⟨rfl,⟨nd,rfl⟩⟩));refine kAg (zAR rfl _ _ w.heap.size 47 _ (0,0) _ rfl (fin3 _ _ _ (by repeat (first | exact BK.out | refine zAp ?_ _))) Tryz.underlying47 rfl zDK) rfl ?_;exact⟨by rw[HT.out];rfl,zDQ (by repeat (first | exact BB.out | refine zA3 ?_ _)) (kA2 _) _ _ _⟩
theorem rt_num (s:ByteArray) (a:Int) (h0:0≤a) (h1:a<s.size) (hs:s.size<4611686018427387904) (h2:srt (bt s a)=4) (n:Int) (hn:zGi [4] s a n) (w:World) :
    Calls Tryz.prog 89 #[.string s,.int .i64 a] w (RtPost (numU s a.toNat n.toNat) w):=by
  have hn1:=hn.next h1 (by rw[h2];rfl)
  have hle:n≤s.size:=by
    have:=zDF [4] s a.toNat kCW;have h3:=hn.2.2;omega
  have hlt:a+1≤n:=by have:=hn1.2.2;have:=hn1.1;omega
  have HS:=kA1 (show (srt (bt s a)==2)=false by rw[h2];rfl);have HD:=kA1 (show (srt (bt s a)==4)=true by rw[h2];rfl);have d0:decide (0≤a)=true:=kA5 h0;have d1:decide (a<(s.size:Int))=true:=kA5 h1;obtain⟨b,hb⟩:∃b,b=a+1:=⟨_,rfl⟩;have e1:wrap64 (a+1)=b:=by rw[hb];unfold wrap64;omega
  rw[← hb] at hn1;have HN:=kA1 hn1;have HB:=kA1 hb;have HA:=kA1 (⟨h0,h1,hs,hlt,hle⟩:0≤a∧a<s.size∧s.size<4611686018427387904∧a+1≤n∧n≤s.size);have hx:=zBA s a;have p0:=kAs h0;have p1:=kAs h1;clear hn hn1 hb h2 h0 h1 hs hlt hle;go_enter Tryz.func89,Tryz.ntmps89
  go_upto_block 3 with (first | (go_at_call 115;(with_reducible refine (zEv _ _ HS _).mono ?_);rintro e w' ⟨rfl,⟨nd,rfl⟩⟩) | (go_at_call 117;(with_reducible refine (zEM _ _ HD _).mono ?_);rintro e w' ⟨rfl,⟨nd,rfl⟩⟩))
  go_cut [7] (fun v7 wc=>v7=.int .i64 n∧Hid (wc.heap[w.heap.size]?=some Z47)∧Hid (Below w.heap.size w wc))
  case first =>
    go_wp2;go_loopg [7] (s.size-b.toNat) (fun g v7 w'=>∃x:Int,v7=.int .i64 x∧Hid (zGi [4] s x n∧x+g=s.size)∧Hid (w'.heap[w.heap.size]?=some Z47)∧Hid (Below w.heap.size w w'))
    case atStart=>exact⟨b,rfl,kA1 ⟨HN.out,by have:=HN.out.1;have:=HN.out.2.1;omega⟩,kA1 (zAp (zA4 _ _) _),kA1 (zA3 ((kA3 _ _).alloc (kA2 _) _) _)⟩
    case round =>
      obtain⟨x,rfl,HR,BK,BB⟩:=hrel;clear HS HD HN p0 p1 d0 d1 hx e1;by_cases hlt:x<s.size
      · obtain⟨k1,rfl⟩:∃m,gk=m+1:=⟨gk-1,by have:=HR.out.2;omega⟩
        obtain⟨b4,H4⟩:∃b4:Bool,Hid ((srt (bt s x)==4)=b4):=⟨_,kA1 rfl⟩;have HC:=kA1 (show ([4]:List Int).contains (srt (bt s x))=b4 by rw[← H4.out,kBW];simp);obtain⟨y,hy⟩:∃y,y=x+1:=⟨_,rfl⟩;have ey:wrap64 (x+1)=y:=by have:=HR.out.1.1;have:=HA.out.2.2.1;rw[hy];unfold wrap64;omega
        have HY:=kA1 hy;have HL:=kA1 hlt;have p0:=kAs HR.out.1.1;have p1:=kAs hlt;have d1:decide (x<(s.size:Int))=true:=kA5 hlt;have hx:=zBA s x;clear hy hlt
        cases b4
        all_goals
          go_wp2_with (first | (go_at_call 117;(with_reducible refine (zEM _ _ H4 _).mono ?_);rintro e w' ⟨rfl,⟨nd,rfl⟩⟩))
          first
            | (go_roundg k1
               case measure=>omega
               case rel=>exact⟨_,rfl,kA1 ⟨by rw[ey,HY.out];exact HR.out.1.next HL.out HC.out,by have:=HR.out.2;have:=HY.out;rw[ey];omega⟩,kA1 (by repeat (first | exact BK.out | refine zAp ?_ _)),kA1 (by repeat (first | exact BB.out | refine zA3 ?_ _))⟩)
            | (go_meet
               case rel=>exact⟨by rw[HR.out.1.stop HL.out HC.out],kA1 (by repeat (first | exact BK.out | refine zAp ?_ _)),kA1 (by repeat (first | exact BB.out | refine zA3 ?_ _))⟩)
      · have HL:=kA1 hlt
        have d1:decide (x<(s.size:Int))=false:=kA6 hlt;clear hlt;go_wp2
        go_meet
        case rel=>exact⟨by rw[HR.out.1.end_ kDI],BK,BB⟩
  case rest =>
    obtain⟨rfl,BK,BB⟩:=hcut;obtain⟨g0,g1,g2,g3,g4⟩:=HA.out;have l0:=kAs g0;have l1:=kAs (show a≤n by omega);have l2:=kAs g4;have m0:decide (0≤a)=true:=kA5 g0;have m1:decide (a≤n)=true:=kA5 kCW;have m2:decide (n≤(s.size:Int))=true:=kA5 g4;obtain⟨⟨k0,k1,k2⟩,f0,f1,f2⟩:=zFD BK.out;obtain⟨X,hX⟩:∃X,s.extract a.toNat n.toNat=X:=⟨_,rfl⟩;have hsz:X.size=n.toNat-a.toNat:=by rw[← hX,kAy];omega
    have hc:∀h:0<X.size,((X[0]'h).toNat:Int)=bt s a:=fun h=>by
      have:=bt_first s a.toNat n.toNat kCW kCW;rw[hX] at this;have e:bt X 0=((X[0]'h).toNat:Int):=zCc X 0 h;rw[← e,this,← zCc s a.toNat kCW,kBt g0]
    have hp:0<X.size:=kCW
    obtain⟨b1,b2,b3,h1,h1',h2,h3,h3',HT⟩:∃b1 b2 b3:Bool,decide ((X.size:Int)≤400)=b1∧decide (X.size≤400)=b1∧(bt s a != 48)=b2∧((X.size:Int)==1)=b3∧(X.size==1)=b3∧Hid (numU s a.toNat n.toNat=(2,X,a,n,b1&&(b2||b3))) :=
      ⟨decide (X.size≤400),_,X.size==1,by congr 1;rw[eq_iff_iff];omega,rfl,rfl,by rw[kBW,kAA,kAA];omega,rfl,kA1 (by unfold numU;rw[← hsz,hX,kBt g0,kBt kCW])⟩
    have hp':=kAs hp;clear g0 g1 g2 g3 g4 p0 p1 d0 d1 hx e1 HN HB hsz HA
    cases b1<;>cases b2<;>cases b3
    all_goals
      go_wp2;refine kAg (zAR rfl _ _ w.heap.size 47 _ (0,0) _ rfl (fin3 _ _ _ (by repeat (first | exact BK.out | refine zAp ?_ _))) Tryz.underlying47 rfl zDK) rfl ?_;exact⟨by rw[HT.out];rfl,zDQ (by repeat (first | exact BB.out | refine zA3 ?_ _)) (kA2 _) _ _ _⟩
def BrkTo (s:ByteArray) (x n:Int):Prop:=0≤x∧x≤s.size∧x.toNat+brk (zAn s x.toNat)=n
theorem BrkTo.end_ {s:ByteArray} {x n:Int} (h:BrkTo s x n) (hx:¬x<s.size):x=n:=by
  obtain⟨h0,h1,h2⟩:=h;rw[brk_over kCW] at h2;omega
theorem BrkTo.next {s:ByteArray} {x n:Int} (h:BrkTo s x n) (hx:x<s.size) (hk:bt s x≠125):BrkTo s (x+1) n:=by
  obtain⟨h0,h1,h2⟩:=h;obtain⟨m,rfl⟩:∃m:Nat,x=m:=⟨x.toNat,kCW⟩;rw[zCc s m kCW] at hk;rw[Int.toNat_natCast,brk_step kCW kCW] at h2;exact⟨kCW,kCW,by rw[show ((m:Int)+1).toNat=m+1 by omega];omega⟩
theorem BrkTo.stop {s:ByteArray} {x n:Int} (h:BrkTo s x n) (hx:x<s.size) (hk:bt s x=125):x=n:=by
  obtain⟨h0,h1,h2⟩:=h;obtain⟨m,rfl⟩:∃m:Nat,x=m:=⟨x.toNat,kCW⟩;rw[zCc s m kCW] at hk;rw[Int.toNat_natCast,brk_stop kCW kCW] at h2;omega
theorem rt_unit (s:ByteArray) (a:Int) (h0:0≤a) (h1:a<s.size) (hs:s.size<4611686018427387904) (h2:bt s a=123) (n:Int) (hn1:BrkTo s (a+1) n) (w:World) :
    Calls Tryz.prog 89 #[.string s,.int .i64 a] w (RtPost (unitV s a.toNat n.toNat) w):=by
  have hle:n≤s.size:=by
    have h3:=hn1.2.2;have h4:=hn1.2.1;have:brk (zAn s (a+1).toNat)≤(zAn s (a+1).toNat).length:=(kCB _).length_le;rw[zDb] at this;omega
  have hlt:a+1≤n:=by have:=hn1.2.2;have:=hn1.1;omega
  have HS:=kA1 (show (srt (bt s a)==2)=false by rw[h2];rfl);have HD:=kA1 (show (srt (bt s a)==4)=false by rw[h2];rfl);have hq:(bt s a==123)=true:=by rw[h2];rfl
  have d0:decide (0≤a)=true:=kA5 h0;have d1:decide (a<(s.size:Int))=true:=kA5 h1;obtain⟨b,hb⟩:∃b,b=a+1:=⟨_,rfl⟩;have e1:wrap64 (a+1)=b:=by rw[hb];unfold wrap64;omega
  rw[← hb] at hn1;have HN:=kA1 hn1;have HB:=kA1 hb;have HA:=kA1 (⟨h0,h1,hs,hlt,hle⟩:0≤a∧a<s.size∧s.size<4611686018427387904∧a+1≤n∧n≤s.size);have hx:=zBA s a;have p0:=kAs h0;have p1:=kAs h1;clear hn1 hb h2 h0 h1 hs hlt hle;go_enter Tryz.func89,Tryz.ntmps89
  go_upto_block 5 with (first | (go_at_call 115;(with_reducible refine (zEv _ _ HS _).mono ?_);rintro e w' ⟨rfl,⟨nd,rfl⟩⟩) | (go_at_call 117;(with_reducible refine (zEM _ _ HD _).mono ?_);rintro e w' ⟨rfl,⟨nd,rfl⟩⟩))
  go_cut [7] (fun v7 wc=>v7=.int .i64 n∧Hid (wc.heap[w.heap.size]?=some Z47)∧Hid (Below w.heap.size w wc))
  case first =>
    go_wp2;go_loopg [7] (s.size-b.toNat) (fun g v7 w'=>∃x:Int,v7=.int .i64 x∧Hid (BrkTo s x n∧x+g=s.size)∧Hid (w'.heap[w.heap.size]?=some Z47)∧Hid (Below w.heap.size w w'))
    case atStart=>exact⟨b,rfl,kA1 ⟨HN.out,by have:=HN.out.1;have:=HN.out.2.1;omega⟩,kA1 (zAp (zA4 _ _) _),kA1 (zA3 ((kA3 _ _).alloc (kA2 _) _) _)⟩
    case round =>
      obtain⟨x,rfl,HR,BK,BB⟩:=hrel;clear HS HD HN p0 p1 d0 d1 hx e1 hq;by_cases hlt:x<s.size
      · obtain⟨k1,rfl⟩:∃m,gk=m+1:=⟨gk-1,by have:=HR.out.2;omega⟩
        obtain⟨b4,h4⟩:∃b4:Bool,(bt s x != 125)=b4:=⟨_,rfl⟩;have H4:=kA1 h4;have ey:wrap64 (x+1)=x+1:=by have:=HR.out.1.1;have:=HA.out.2.2.1;unfold wrap64;omega
        have HY:=kA1 ey;have HL:=kA1 hlt;have p0:=kAs HR.out.1.1;have p1:=kAs hlt;have d1:decide (x<(s.size:Int))=true:=kA5 hlt;have hx:=zBA s x;clear hlt ey
        cases b4
        all_goals
          go_wp2
          first
            | (go_roundg k1
               case measure=>omega
               case rel=>exact⟨_,rfl,kA1 ⟨by rw[HY.out];exact HR.out.1.next HL.out (kCw.1 H4.out),by have:=HR.out.2;rw[HY.out];omega⟩,BK,BB⟩)
            | (go_meet
               case rel=>exact⟨by rw[HR.out.1.stop HL.out (bne_eq_false_iff_eq.1 H4.out)],BK,BB⟩)
      · have HL:=kA1 hlt
        have d1:decide (x<(s.size:Int))=false:=kA6 hlt;clear hlt;go_wp2
        go_meet
        case rel=>exact⟨by rw[HR.out.1.end_ kDI],BK,BB⟩
  case rest =>
    obtain⟨rfl,BK,BB⟩:=hcut;obtain⟨g0,g1,g2,g3,g4⟩:=HA.out;have hbn:=HB.out;have l0:=kAs (show 0≤b by omega);have l1:=kAs (show b≤n by omega);have l2:=kAs g4;have m0:decide (0≤b)=true:=kA5 kCW;have m1:decide (b≤n)=true:=kA5 kCW;have m2:decide (n≤(s.size:Int))=true:=kA5 g4;obtain⟨⟨k0,k1,k2⟩,f0,f1,f2⟩:=zFD BK.out;obtain⟨X,hX⟩:∃X,s.extract b.toNat n.toNat=X:=⟨_,rfl⟩;have HX:=kA1 (show X.size<9223372036854775807 by rw[← hX,kAy];omega);obtain⟨b1,b2,h1,HU,HT⟩:∃b1 b2:Bool,(n==(s.size:Int))=b1∧Hid (zCB X=b2)∧Hid (b1=false→wrap64 (n+1)=n+1)∧Hid (unitV s a.toNat n.toNat=if b1=true then noTok else if b2=true then (3,X,a,n+1,true) else noTok) :=
      ⟨_,_,rfl,kA1 rfl,kA1 (fun h=>by have:=kAj.1 h;unfold wrap64;omega),kA1 (by
        have e:a.toNat+1=b.toNat:=kCW
        unfold unitV;rw[e,hX,kBt g0,show ((n.toNat+1:Nat):Int)=n+1 by omega];by_cases h:n=s.size
        · rw[kAb kCW,kAb (by rw[kAA];exact h)]
        · rw[kAa kCW,show (n==(s.size:Int))=false from kAj.2 h,kAa Bool.false_ne_true])⟩
    obtain⟨HW,HT⟩:=HT;clear g0 g1 g2 g3 g4 p0 p1 d0 d1 hx HN HB hbn HA hq
    cases b1<;>cases b2
    all_goals
      go_wp2_with (first | (go_at_call 127;(with_reducible refine (un_calls _ _ HX.out HU _).mono ?_);rintro e w' ⟨rfl,⟨nd,rfl⟩⟩));refine kAg (zAR rfl _ _ w.heap.size 47 _ (0,0) _ rfl (fin3 _ _ _ (by repeat (first | exact BK.out | refine zAp ?_ _))) Tryz.underlying47 rfl zDK) rfl ?_;refine⟨by rw[HT.out];first | rfl | (rw[HW.out (by trivial)];rfl),zDQ (by repeat (first | exact BB.out | refine zA3 ?_ _)) (kA2 _) _ _ _⟩
theorem rt_sign (s:ByteArray) (a:Int) (h0:0≤a) (h1:a<s.size) (hs:s.size<4611686018427387904) (h2:srt (bt s a)≠2) (h4:srt (bt s a)≠4) (h3:bt s a≠123) (w:World) :
    Calls Tryz.prog 89 #[.string s,.int .i64 a] w (RtPost (signU s a.toNat) w):=by
  have HS:=kA1 (kAj.2 h2);have HD:=kA1 (kAj.2 h4);have hq:=kAj.2 h3;obtain⟨b5,H5⟩:∃b5:Bool,Hid ((srt (bt s a)==5)=b5):=⟨_,kA1 rfl⟩;have d0:decide (0≤a)=true:=kA5 h0;have d1:decide (a<(s.size:Int))=true:=kA5 h1;obtain⟨b,hb⟩:∃b,b=a+1:=⟨_,rfl⟩;have e1:wrap64 (a+1)=b:=by rw[hb];unfold wrap64;omega
  have l1:=kAs (show a≤b by omega);have l2:=kAs (show b≤s.size by omega);have m1:decide (a≤b)=true:=kA5 kCW;have m2:decide (b≤(s.size:Int))=true:=kA5 kCW;have HT:=kA1 (show signU s a.toNat=if b5=true then (4,s.extract a.toNat b.toNat,a,b,true) else noTok by
    unfold signU;rw[← H5.out,hb,show (a+1).toNat=a.toNat+1 by omega,kBt h0,show ((a.toNat+1:Nat):Int)=a+1 by omega];by_cases h:srt (bt s a)=5
    · rw[kAb h,kAb (by rw[h];rfl)]
    · rw[kAa h,kAa (by rw[kAA];exact h)])
  have hx:=zBA s a;have p0:=kAs h0;have p1:=kAs h1;have BB:=kA1 ((kA3 _ w).alloc (kA2 _) (.cells #[.int .i64 0,.string (⟨#[]⟩:ByteArray),.int .i64 0] 47));have BK:=kA1 (zA4 w (.cells #[.int .i64 0,.string (⟨#[]⟩:ByteArray),.int .i64 0] 47));clear hb h2 h0 h1 hs h3 h4
  cases b5
  all_goals
    go_enter Tryz.func89,Tryz.ntmps89;go_wp2_with (first | (go_at_call 115;(with_reducible refine (zEv _ _ HS _).mono ?_);rintro e w' ⟨rfl,⟨nd,rfl⟩⟩) | (go_at_call 117;(with_reducible refine (zEM _ _ HD _).mono ?_);rintro e w' ⟨rfl,⟨nd,rfl⟩⟩) | (go_at_call 128;(with_reducible refine (sg_calls _ _ H5 _).mono ?_);rintro e w' ⟨rfl,⟨nd,rfl⟩⟩));refine kAg (zAR rfl _ _ w.heap.size 47 _ (0,0) _ rfl (fin3 _ _ _ (by repeat (first | exact BK.out | refine zAp ?_ _))) Tryz.underlying47 rfl zDK) rfl ?_;exact⟨by rw[HT.out];rfl,zDQ (by repeat (first | exact BB.out | refine zA3 ?_ _)) (kA2 _) _ _ _⟩
theorem rt_all (s:ByteArray) (m:Nat) (h1:m<s.size) (hs:s.size<4611686018427387904) (w:World):Calls Tryz.prog 89 #[.string s,.int .i64 m] w (RtPost (tokU s m) w):=by
  unfold tokU;have e:((m:Int)).toNat=m:=Int.toNat_natCast m;by_cases h2:srt (bt s m)=2
  · rw[kAb h2]
    have h:=rt_name s m kCW kCW hs h2 (zAS s m) ⟨kCW,kCW,by rw[e];rfl⟩ w
    rwa [e,Int.toNat_natCast] at h
  rw[kAa h2];by_cases h4:srt (bt s m)=4
  · rw[kAb h4]
    have h:=rt_num s m kCW kCW hs h4 (zBi s m) ⟨kCW,kCW,by rw[e];rfl⟩ w
    rwa [e,Int.toNat_natCast] at h
  rw[kAa h4];by_cases h3:bt s m=123
  · rw[kAb h3]
    have h:=rt_unit s m kCW kCW hs h3 (zAx s m) ⟨kCW,kCW,by rw[show ((m:Int)+1).toNat=m+1 by omega];rfl⟩ w
    rwa [e,Int.toNat_natCast] at h
  rw[kAa h3];have h:=rt_sign s m kCW kCW hs h2 h4 h3 w
  rwa [e] at h
end Go.Proofs.YtjaobihcdkjmbaaGreatDoor
namespace Go.Proofs.YtjaobihcdkjmbaaGreatDoor.PReadTokens
open Go.RowKit Go.Proofs.YtjaobihcdkjmbaaGreatDoorW.PrintWords Go.Proofs.YtjaobihcdkjmbaaGreatDoorW.PrintLast Go.Proofs.YtjaobihcdkjmbaaGreatDoorW.PrintMore
def metewandref13_token.f (_:Nat) (s:ByteArray) (a:Int):Option (Int×ByteArray×Int×Int×Bool):=if 0≤a∧a<s.size∧s.size<4611686018427387904 then some (tokU s a.toNat) else none
theorem metewandref13_token.mono:∀a0 a1 k,LeO (metewandref13_token.f k a0 a1) (metewandref13_token.f (k+1) a0 a1):=fun _ _ _=>LeO.refl _
theorem metewandref13_token.calls (k:Nat) (a0:ByteArray) (a1:Int) (r1:Int) (r2:ByteArray) (r3:Int) (r4:Int) (r5:Bool) (w:World) (h:metewandref13_token.f k a0 a1=some (r1,r2,r3,r4,r5)) :
    Calls Tryz.prog 89 #[.string a0,.int .i64 a1] w fun e w'=>e=.returned (.tuple #[.agg #[.int .i64 r1,.string r2,.int .i64 r3],.int .i64 r4,.bool r5])∧Below w.heap.size w w':=by
  unfold metewandref13_token.f at h;by_cases hc:0≤a1∧a1<a0.size∧a0.size<4611686018427387904
  · rw[kAb hc] at h
    have h2:=rt_all a0 a1.toNat kCW hc.2.2 w;injection h with h;rw[h,kBt hc.1] at h2;exact h2
  · rw[kAa hc] at h;cases h
end Go.Proofs.YtjaobihcdkjmbaaGreatDoor.PReadTokens
end
