/- What can be read as an expression is printed as a text that reads as the same, and is printed as itself: for every argument; a part of its proof. -/
import Derived.Test.YtjaobihcdkjmbaaGreatDoorDa
import Derived.Test.YtjaobihcdkjmbaaGreatDoorDb
import Derived.Test.YtjaobihcdkjmbaaGreatDoorD0
import Derived.Test.YtjaobihcdkjmbaaGreatDoorD7
import Derived.Test.YtjaobihcdkjmbaaGreatDoorD11
import Derived.Test.YtjaobihcdkjmbaaGreatDoorD17
import Derived.Test.YtjaobihcdkjmbaaGreatDoorD19
import Derived.Test.YtjaobihcdkjmbaaGreatDoorD23
set_option linter.unusedVariables false
set_option linter.unusedSimpArgs false
namespace Go.Proofs.YtjaobihcdkjmbaaGreatDoor.PReadTokens
end Go.Proofs.YtjaobihcdkjmbaaGreatDoor.PReadTokens
namespace Go.Proofs.YtjaobihcdkjmbaaGreatDoorW.PrintWords
end Go.Proofs.YtjaobihcdkjmbaaGreatDoorW.PrintWords
set_option maxRecDepth 100000
set_option maxHeartbeats 4000000
section
namespace Go.Proofs.YtjaobihcdkjmbaaGreatDoor
open Go.RowKit Go.Maps Go.WideShapes Go.Proofs.YtjaobihcdkjmbaaGreatDoorW.PrintWords Go.Proofs.YtjaobihcdkjmbaaGreatDoor.PReadTokens
abbrev nmL (s:ByteArray):Lit:=.string s.data.toList
mutual
/-- An expression with another one in the place of a name;none if a name would be bound. -/
def replS (name:ByteArray) (y:S31) (T:DataW Unit):S31→Option S31
 | ⟨op,num,nm,size,l⟩=>if op=1∧nm=name then some y else (zED name y T op nm 0 l).map (fun l'=>⟨op,num,nm,size,l'⟩)
def zED (name:ByteArray) (y:S31) (T:DataW Unit) (op:Int) (nm:ByteArray):Nat→List S31→Option (List S31)
 | _,[]=>some []
 | i,a :: l =>
  match (if zCZ op i=true∧nm=name then some a else if zCZ op i=true∧has T (nmL nm)=true∧has (zEL a) (nmL name)=true then none else replS name y T a) with
  | none=>none
  | some b=>(zED name y T op nm (i+1) l).map (fun l'=>b :: l')
end
def zDH (name:ByteArray) (y:S31) (T:DataW Unit) (op:Int) (nm:ByteArray) (i:Nat) (a:S31):Option S31 :=
 if zCZ op i=true∧nm=name then some a else if zCZ op i=true∧has T (nmL nm)=true∧has (zEL a) (nmL name)=true then none else replS name y T a
theorem replS_eq (name:ByteArray) (y:S31) (T:DataW Unit) (x:S31):replS name y T x=if x.f0=1∧x.f2=name then some y else (zED name y T x.f0 x.f2 0 x.f4).map (fun l'=>⟨x.f0,x.f1,x.f2,x.f3,l'⟩):=by cases x;rw[replS]
theorem replL_none {name:ByteArray} {y:S31} {T:DataW Unit} {op:Int} {nm:ByteArray} {i:Nat} {a:S31} {l:List S31} (h:zDH name y T op nm i a=none):zED name y T op nm i (a :: l)=none:=by
 unfold zDH at h;rw[zED,h]
theorem replL_some {name:ByteArray} {y:S31} {T:DataW Unit} {op:Int} {nm:ByteArray} {i:Nat} {a b:S31} {l:List S31} (h:zDH name y T op nm i a=some b):zED name y T op nm i (a :: l)=(zED name y T op nm (i+1) l).map (fun l'=>b :: l'):=by
 unfold zDH at h;rw[zED,h]
theorem replL_nil (name:ByteArray) (y:S31) (T:DataW Unit) (op:Int) (nm:ByteArray) (i:Nat):zED name y T op nm i []=some []:=by rw[zED]
theorem replL_cons {name:ByteArray} {y:S31} {T:DataW Unit} {op:Int} {nm:ByteArray} {i:Nat} {a:S31} {l l':List S31} (h:zED name y T op nm i (a :: l)=some l') :
  ∃b r,l'=b :: r∧zDH name y T op nm i a=some b∧zED name y T op nm (i+1) l=some r:=by
 cases e:zDH name y T op nm i a with
 | none=>rw[replL_none e] at h;cases h
 | some b =>
  rw[replL_some e] at h;obtain⟨r,h1,h2⟩:=kBK.1 h;exact⟨b,r,h2.symm,rfl,h1⟩
theorem replS_cases {name:ByteArray} {y:S31} {T:DataW Unit} {x z:S31} (h:replS name y T x=some z):(x.f0=1∧x.f2=name∧z=y)∨(¬(x.f0=1∧x.f2=name)∧∃l',zED name y T x.f0 x.f2 0 x.f4=some l'∧z=⟨x.f0,x.f1,x.f2,x.f3,l'⟩):=by
 rw[replS_eq] at h;by_cases e:x.f0=1∧x.f2=name
 ·rw[kAa e] at h;injection h with h;exact .inl ⟨e.1,e.2,h.symm⟩
 ·rw[kA9 e] at h;obtain⟨l',h1,h2⟩:=kBK.1 h;exact .inr ⟨e,l',h1,h2.symm⟩
theorem replOne_cases {name:ByteArray} {y:S31} {T:DataW Unit} {op:Int} {nm:ByteArray} {i:Nat} {a b:S31} (h:zDH name y T op nm i a=some b) :
  (zCZ op i=true∧nm=name∧b=a)∨(¬(zCZ op i=true∧nm=name)∧¬(zCZ op i=true∧has T (nmL nm)=true∧has (zEL a) (nmL name)=true)∧replS name y T a=some b):=by
 unfold zDH at h;by_cases e:zCZ op i=true∧nm=name
 ·rw[kAa e] at h;injection h with h;exact .inl ⟨e.1,e.2,h.symm⟩
 ·rw[kA9 e] at h;by_cases e2:zCZ op i=true∧has T (nmL nm)=true∧has (zEL a) (nmL name)=true
  ·rw[kAa e2] at h;cases h
  ·rw[kA9 e2] at h;exact .inr ⟨e,e2,h⟩
end Go.Proofs.YtjaobihcdkjmbaaGreatDoor
end
section
namespace Go.Proofs.YtjaobihcdkjmbaaGreatDoor
open Go.RowKit Go.Proofs.YtjaobihcdkjmbaaGreatDoorW.PrintWords Go.Proofs.YtjaobihcdkjmbaaGreatDoor.PReadTokens
abbrev eB:ByteArray:=⟨#[]⟩
abbrev callL:List ByteArray:=[⟨#[102]⟩,⟨#[103]⟩,⟨#[104,50]⟩]
abbrev unitL:List ByteArray:=[⟨#[]⟩,⟨#[]⟩,⟨#[109]⟩,⟨#[107,109,47,104]⟩,⟨#[109,32,115,94,45,50]⟩]
abbrev opL:List Int:=[2,3,4,5,6,3,5,7,8,9,10,11,12,13,14]
def nodeOk (op:Int) (name:ByteArray) (size:Int) (k:Nat):Prop :=
 (op=2∧name=eB∧size=0∧k=1)∨((op=3∨op=4∨op=5∨op=6∨op=9)∧name=eB∧size=0∧k=2)∨(op=7∧name=eB∧(-9≤size∧size≤9)∧k=1) ∨
 (op=8∧name=eB∧size=0∧(1≤k∧k≤3))∨((op=10∨op=11)∧name∈nameL∧(1≤size∧size≤99)∧k=1)∨(op=12∧name=eB∧size=0∧k=4) ∨
 (op=13∧name∈nameL∧size=0∧k=2)∨(op=14∧name∈callL∧size=0∧k≤3)
inductive Made:Nat→S31→Prop
 | ref (n:Nat) (s:ByteArray) (h:s∈nameL):Made n ⟨1,z28,s,0,[]⟩
 | lit (n:Nat) (p q:Int) (u:ByteArray) (h0:0≤p) (h1:p≤20) (h2:1≤q) (h3:q≤6) (hu:u∈unitL):Made n ⟨0,ratS p q,u,0,[]⟩
 | node (n:Nat) (op:Int) (name:ByteArray) (size:Int) (l:List S31) (h:nodeOk op name size l.length) (hl:∀y∈l,Made n y):Made (n+1) ⟨op,z28,name,size,l⟩
def cost:Nat→Nat
 | 0=>6
 | n+1=>6+4*cost n
theorem cost_pos (n:Nat):6≤cost n:=by cases n<;>simp[cost]
def zFx (R N n:Nat) (w:World) (e:Ending) (w':World):Prop :=
 ∃x v,e=.returned v∧Made n x∧Ex w' (From w.heap.size) x v∧Rod w' R (N+cost n)∧w.grownBy w' (some R)
theorem Rod.far {w w1:World} {R N:Nat} {row:Option Nat} (h:Rod w R N) (hg:w.grownBy w1 row) (hr:∀b,row=some b→R<b):Rod w1 R N:=by
 obtain⟨A,l,c,at_,st,h0,h1,h2,hl,h3⟩:=h.out;have hlt:=zA5 h0;refine⟨A,l,c,at_,st,(hg.block R hlt (fun e=>by have:=hr R e.symm;omega)).trans h0,h1,h2,hl,fun i hi=>?_⟩;obtain⟨ad,x,e1,e2,e3⟩:=h3 i hi;refine⟨ad,x,e1,?_,e3⟩;have hb:=hg.block (ad.add i).block (kAJ w _ e2) (fun e=>by rw[zCO] at e;have:=hr _ e.symm;omega);simpa[World.cell?,hb] using e2
theorem zCn {w w1 w2:World} {k row:Option Nat} (h:w.grownBy w1 k) (g:w1.grownBy w2 row) (hr:∀b,row=some b→w.heap.size≤b):w.grownBy w2 k :=
 ⟨g.os.trans h.os,g.tape.trans h.tape,g.output.trans h.output,kAB h.size g.size,fun j hj hn=>(g.block j (kBs hj h.size) (fun e=>by have:=hr j e.symm;omega)).trans (h.block j hj hn)⟩
theorem zEC (R N:Nat) (w:World) (hR:Rod w R N) (hN:N≤1000000) :
  Calls Tryz.prog 49 #[.pointer (some ⟨R,0,none⟩)] w fun e w'=>(∃x,e=.returned (.string x)∧x∈nameL)∧Rod w' R (N+1)∧w.grownBy w' (some R):=by
 have hb:=(kA3 w.heap.size w).alloc (kA2 _) (.cells (nameL.map Value.string).toArray 9);have hp:=zCk R N ⟨w.heap.size,0,none⟩ nameL _ (hR.below hb) hN (zFt w R nameL hR.lt) kD7 kD7;go_enter Tryz.func49,Tryz.ntmps49;go_wp2_with fail;refine hp.mono ?_;rintro e w1 ⟨⟨x,rfl,hx⟩,hr,hg⟩;have hx:=kA1 hx;clear hp;go_wp2;go_ret;exact⟨⟨_,rfl,hx.out⟩,hr,kA7 (kAE w _ (some R)) hg⟩
theorem zGj (s:ByteArray) (w:World) :
  Calls Tryz.prog 48 #[.string s] w fun e w'=>e=.returned (exV ⟨1,z28,s,0,[]⟩ (.slice none 0 0))∧Below w.heap.size w w':=by
 go_enter Tryz.func48,Tryz.ntmps48;go_wp2;exact kAi (zAg Tryz.results48 _ _ w.heap.size 31 _ (0,0) _ rfl (zA4 w _) Tryz.underlying31 rfl zB6) rfl ⟨rfl,(kA3 _ w).alloc (kA2 _) _⟩
structure Grow (w:World) (R X M n:Nat) (op:Int) (name:ByteArray) (size:Int) (xs:List S31) (wr:World) (v5:Value):Prop where
 res:wr.heap[w.heap.size]?=some zO
 blk:wr.heap[X]?=some (.cells #[.int .i64 op,.string ⟨#[]⟩,.string ⟨#[]⟩,.string name,.int .i64 size,v5] 31 (0,0))
 row:k31.R 31 wr 0 (Sx w X) v5 xs
 rod:Rod wr R M
 low:w.grownBy wr (some R)
 far:w.heap.size<X
 own:R<w.heap.size
 all:∀y∈xs,Made n y
theorem Grow.below {w:World} {R X M n:Nat} {op:Int} {name:ByteArray} {size:Int} {xs:List S31} {wr w1:World} {v5:Value} (G:Grow w R X M n op name size xs wr v5) (hb:Below wr.heap.size wr w1):Grow w R X M n op name size xs w1 v5 :=
 ⟨zAa hb G.res,zAa hb G.blk,Kd.R_below G.row hb,G.rod.below hb,kAk G.low hb,G.far,G.own,G.all⟩
theorem Grow.next {w:World} {R X M n:Nat} {op:Int} {name:ByteArray} {size:Int} {xs:List S31} {wr w2 w4:World} {v5 v1:Value} {y:S31} (G:Grow w R X M n op name size xs wr v5) (hy:Made n y) (r2:Rod w2 R (M+cost n)) (g2:wr.grownBy w2 (some R))
  (hrow:k31.R 31 w4 0 (Sx w X) v1 (xs++[y])) (hg4:w2.grownBy w4 v5.ownBlock) :
  w4.heap[X]?=some (.cells #[.int .i64 op,.string ⟨#[]⟩,.string ⟨#[]⟩,.string name,.int .i64 size,v5] 31 (0,0))∧Grow w R X (M+cost n) n op name size (xs++[y]) (w4.setCell ⟨X,5,none⟩ v1) v1:=by
 have own:=G.own;have far:=G.far;have hb5:∀b,v5.ownBlock=some b→w.heap.size<b∧b≠X:=fun b hb=>G.row.1 b hb
 have x2:=zAj g2 G.blk (show X≠R by omega);have z2:=zAj g2 G.res (show w.heap.size≠R by omega);have x4:=(hg4.block X (zA5 x2) (fun e=>(hb5 X e.symm).2 rfl)).trans x2;have z4:=(hg4.block w.heap.size (zA5 z2) (fun e=>by have:=(hb5 _ e.symm).1;omega)).trans z2;refine⟨x4,(kA5 _ _ _ _ kDp).trans z4,zA8 x4 5 v1,Kd.R_far hrow (p:=⟨X,5,none⟩) (fun k hk=>hk.2) v1,
  (r2.far hg4 (fun b e=>by have:=(hb5 b e).1;omega)).far (kAf _ _ _ _) (fun b e=>by injection e with e;omega),
  zCn (zCn (kA7 G.low g2) hg4 (fun b e=>by have:=(hb5 b e).1;omega)) (kAf _ _ _ _) (fun b e=>by injection e with e;omega),far,own,fun z hz=>?_⟩
 rcases kC2.1 hz with hz | hz
 ·exact G.all z hz
 ·rw[kBt.1 hz];exact hy
theorem Rod.put {w:World} {R N X:Nat} (h:Rod w R N) (hX:R<X) (i:Nat) (v:Value):Rod (w.setCell ⟨X,i,none⟩ v) R N:=h.far (kAf _ _ _ _) (fun b e=>by injection e with e;omega)
theorem zCV {w w1:World} {R X:Nat} (h:w.grownBy w1 (some R)) (hX:w.heap.size≤X) (i:Nat) (v:Value):w.grownBy (w1.setCell ⟨X,i,none⟩ v) (some R):=grown_set h ⟨X,i,none⟩ hX v
theorem toNat_val {x:Int} (h:0≤x):Value.int .i64 x=.int .i64 (x.toNat:Nat):=by rw[kCw h]
theorem nodeOk_le {op:Int} {name:ByteArray} {size:Int} {k:Nat} (h:nodeOk op name size k):k≤4:=by
 rcases h with h | h | h | h | h | h | h | h<;>omega
theorem ExprOf_leaf (R N:Nat) (w:World) (hR:Rod w R N) (hN:N≤900000) (n:Int) (hn:n<2) :
  Calls Tryz.prog 13 #[.pointer (some ⟨R,0,none⟩),.int .i64 n] w (zFx R N 0 w):=by
 have hRl:=hR.lt;have b0:=(kA3 w.heap.size w).alloc (kA2 _) zO;have rq:=hR.below b0;have zq:(w.alloc zO).heap[w.heap.size]?=some zO:=zA4 w zO;have gq:w.grownBy (w.alloc zO) (some R):=kAE w _ _;have hd:decide (n<2)=true:=kA8 hn;have hc0:cost 0=6:=rfl;clear hR;go_enter Tryz.func13,Tryz.ntmps13;go_wp2_with fail;have HO:=zFd R (N) 2 _ rq kD4 kD4 kD4;refine HO.mono ?_;rintro e w1 ⟨⟨y,rfl⟩,r1,g1⟩;have z1:=zAj g1 zq kD4;have g1:=kA7 gq g1;clear HO rq zq gq
 cases y with
 | true =>
  have HN:=zEC R (N+1) _ r1 kD4;go_wp2_with fail;refine HN.mono ?_;rintro e w2 ⟨⟨s,rfl,hs⟩,r2,g2⟩;have hs:=kA1 hs;have z2:=zAj g2 z1 kD4;have g2:=kA7 g1 g2;clear HN;go_wp2_with fail;refine (zGj s _).mono ?_;rintro e w3 ⟨rfl,hb3⟩;have z3:=zAa hb3 z2;have r3:=r2.below hb3;have g3:=kAk g2 hb3;obtain⟨⟨q0,q1,q2,q3,q4,q5⟩,⟨f0,f1,f2,f3,f4,f5⟩,xl2⟩:=zA6 z3;unfold exV;go_wp2;exact kAi (zAg Tryz.results13 _ _ w.heap.size 31 _ (0,0) _ rfl (fin6 _ _ _ _ _ _ z3) Tryz.underlying31 rfl zB6) rfl
   ⟨⟨1,z28,s,0,[]⟩,_,rfl,.ref _ s hs.out,Ex.leaf (w:=set6 w3 w.heap.size _ _ _ _ _ _) _ rfl,((r3.more kD4).far (zCW _ _ _ _ _ _ _) (fun b e=>by injection e with e;omega)),zCn g3 (zCW _ _ _ _ _ _ _) (fun b e=>by injection e with e;omega)⟩
 | false =>
  have HU:=zDr R (N+1) 20 _ r1 kD4 kD4 kD4;go_wp2_with fail;refine HU.mono ?_;rintro e w2 ⟨⟨p,rfl,hp0,hp1⟩,r2,g2⟩;have z2:=zAj g2 z1 kD4;have g2:=kA7 g1 g2;clear HU r1 z1 g1;go_wp2_with fail;have hbA:=(kA3 w2.heap.size w2).alloc (kA2 _) (.cells (([1,1,6]:List Int).map (Value.int .i64)).toArray 3);refine (zDl R (N+2) ⟨w2.heap.size,0,none⟩ [1,1,6] _ (r2.below hbA) kD4 (zEI w2 R [1,1,6] r2.lt) kD7 kD7).mono ?_;rintro e w3 ⟨⟨q0,rfl,hq⟩,r3,g3⟩;have hq:1≤q0∧q0≤6:=by simp at hq;omega
  have z3:=zAj g3 (zAa hbA z2) kD4;have g3:=kA7 (kAk g2 hbA) g3;obtain⟨hq1,hq2⟩:=hq;clear hbA r2 z2 g2;go_wp2_with fail;refine (zCP R (N+3) 1 q0 _ r3 kD4 kD4 kD4 kD4).mono ?_;rintro e w4 ⟨⟨q,rfl,hq3,hq4⟩,r4,g4⟩;have z4:=zAj g4 z3 kD4;have g4:=kA7 g3 g4;clear r3 z3 g3;go_wp2_with fail;refine (zGm p q hp0 hp1 hq3 kD4 _).mono ?_;rintro e w5 ⟨rfl,hb5⟩;have z5:=zAa hb5 z4;have r5:=r4.below hb5;have g5:=kAk g4 hb5;clear r4 z4 g4;go_wp2_with fail;have hbB:=(kA3 w5.heap.size w5).alloc (kA2 _) (.cells (unitL.map Value.string).toArray 9);refine (zCk R (N+4) ⟨w5.heap.size,0,none⟩ unitL _ (r5.below hbB) kD4 (zFt w5 R unitL r5.lt) kD7 kD7).mono ?_;rintro e w6 ⟨⟨u,rfl,hu⟩,r6,g6⟩;have hu:=kA1 hu;have z6:=zAj g6 (zAa hbB z5) kD4;have g6:=kA7 (kAk g5 hbB) g6;clear hbB r5 z5 g5;obtain⟨⟨q0',q1',q2',q3',q4',q5'⟩,⟨f0,f1,f2,f3,f4,f5⟩,xl2⟩:=zA6 z6;go_wp2;exact kAi (zAg Tryz.results13 _ _ w.heap.size 31 _ (0,0) _ rfl (fin6 _ _ _ _ _ _ z6) Tryz.underlying31 rfl zB6) rfl
   ⟨⟨0,ratS p q,u,0,[]⟩,_,rfl,.lit _ p q u hp0 hp1 hq3 kD4 hu.out,Ex.leaf (w:=set6 w6 w.heap.size _ _ _ _ _ _) _ rfl,((r6.more kD4).far (zCW _ _ _ _ _ _ _) (fun b e=>by injection e with e;omega)),zCn g6 (zCW _ _ _ _ _ _ _) (fun b e=>by injection e with e;omega)⟩
end Go.Proofs.YtjaobihcdkjmbaaGreatDoor
end
