/- The law ReadPlace answers true for every argument; a part of its proof. -/
import Derived.Test.YtjaobihcdkjmbaaGreatDoorCa
import Derived.Test.YtjaobihcdkjmbaaGreatDoorCb
import Derived.Test.YtjaobihcdkjmbaaGreatDoorC0
import Derived.Test.YtjaobihcdkjmbaaGreatDoorC1
import Derived.Test.YtjaobihcdkjmbaaGreatDoorC7
import Derived.Test.YtjaobihcdkjmbaaGreatDoorC8
import Derived.Test.YtjaobihcdkjmbaaGreatDoorC9
import Derived.Test.YtjaobihcdkjmbaaGreatDoorC11
import Derived.Test.YtjaobihcdkjmbaaGreatDoorC12
import Derived.Test.YtjaobihcdkjmbaaGreatDoorC16
import Derived.Test.YtjaobihcdkjmbaaGreatDoorC17
import Derived.Test.YtjaobihcdkjmbaaGreatDoorC26
import Derived.Test.YtjaobihcdkjmbaaGreatDoorC27
import Derived.Test.YtjaobihcdkjmbaaGreatDoorC31
import Derived.Test.YtjaobihcdkjmbaaGreatDoorC33
import Derived.Test.YtjaobihcdkjmbaaGreatDoorC37
set_option linter.unusedVariables false
set_option linter.unusedSimpArgs false
namespace Go.Proofs.YtjaobihcdkjmbaaGreatDoor.PReadTokens
end Go.Proofs.YtjaobihcdkjmbaaGreatDoor.PReadTokens
namespace Go.Proofs.YtjaobihcdkjmbaaGreatDoorW.PrintLast
end Go.Proofs.YtjaobihcdkjmbaaGreatDoorW.PrintLast
namespace Go.Proofs.YtjaobihcdkjmbaaGreatDoorW.PrintMore
end Go.Proofs.YtjaobihcdkjmbaaGreatDoorW.PrintMore
namespace Go.Proofs.YtjaobihcdkjmbaaGreatDoorW.PrintWords
end Go.Proofs.YtjaobihcdkjmbaaGreatDoorW.PrintWords
set_option maxRecDepth 100000
set_option maxHeartbeats 8000000
section
namespace Go.Proofs.YtjaobihcdkjmbaaGreatDoor
open Go.RowKit Go.Proofs.YtjaobihcdkjmbaaGreatDoorW.PrintWords Go.Proofs.YtjaobihcdkjmbaaGreatDoor.PReadTokens
def chk0 (r:S28):Int:=if r.f1=⟨#[49]⟩∧(r.f0=⟨#[49]⟩∨r.f0=⟨#[50]⟩) then 0 else 1
end Go.Proofs.YtjaobihcdkjmbaaGreatDoor
end
section
namespace Go.Proofs.YtjaobihcdkjmbaaGreatDoor
open Go.RowKit Go.Maps Go.WideShapes Go.Proofs.YtjaobihcdkjmbaaGreatDoorW.PrintWords Go.Proofs.YtjaobihcdkjmbaaGreatDoor.PReadTokens
theorem replL_cons {name:ByteArray} {y:S31} {T:DataW Unit} {op:Int} {nm:ByteArray} {i:Nat} {a:S31} {l l':List S31} (h:zEy name y T op nm i (a :: l)=some l') :
  ∃b r,l'=b :: r∧zDM name y T op nm i a=some b∧zEy name y T op nm (i+1) l=some r:=by
 cases e:zDM name y T op nm i a with
 | none=>rw[replL_none e] at h;cases h
 | some b =>
  rw[replL_some e] at h;obtain⟨r,h1,h2⟩:=kBI.1 h;exact⟨b,r,h2.symm,rfl,h1⟩
theorem replS_cases {name:ByteArray} {y:S31} {T:DataW Unit} {x z:S31} (h:replS name y T x=some z):(x.f0=1∧x.f2=name∧z=y)∨(¬(x.f0=1∧x.f2=name)∧∃l',zEy name y T x.f0 x.f2 0 x.f4=some l'∧z=⟨x.f0,x.f1,x.f2,x.f3,l'⟩):=by
 rw[replS_eq] at h;by_cases e:x.f0=1∧x.f2=name
 ·rw[kAb e] at h;injection h with h;exact .inl ⟨e.1,e.2,h.symm⟩
 ·rw[kAa e] at h;obtain⟨l',h1,h2⟩:=kBI.1 h;exact .inr ⟨e,l',h1,h2.symm⟩
theorem replOne_cases {name:ByteArray} {y:S31} {T:DataW Unit} {op:Int} {nm:ByteArray} {i:Nat} {a b:S31} (h:zDM name y T op nm i a=some b) :
  (zCY op i=true∧nm=name∧b=a)∨(¬(zCY op i=true∧nm=name)∧¬(zCY op i=true∧has T (nmL nm)=true∧has (zEK a) (nmL name)=true)∧replS name y T a=some b):=by
 unfold zDM at h;by_cases e:zCY op i=true∧nm=name
 ·rw[kAb e] at h;injection h with h;exact .inl ⟨e.1,e.2,h.symm⟩
 ·rw[kAa e] at h;by_cases e2:zCY op i=true∧has T (nmL nm)=true∧has (zEK a) (nmL name)=true
  ·rw[kAb e2] at h;cases h
  ·rw[kAa e2] at h;exact .inr ⟨e,e2,h⟩
end Go.Proofs.YtjaobihcdkjmbaaGreatDoor
end
section
namespace Go.Proofs.YtjaobihcdkjmbaaGreatDoor
open Go.RowKit Go.Proofs.YtjaobihcdkjmbaaGreatDoorW.PrintWords Go.Proofs.YtjaobihcdkjmbaaGreatDoor.PReadTokens
theorem readA:zBN chk0 tA=(xA,0,0):=kCX
theorem readB:zBN chk0 tB=(xB,0,0):=kCX
theorem readC:zBN chk0 tC=(xC,0,0):=kCX
theorem readD:zBN chk0 tD=(xD,0,0):=kCX
theorem readE:zBN chk0 tE=(z31,2,1):=kCX
theorem txtC:txtB xC=true:=kCX
theorem txtD:txtB xD=true:=kCX
theorem textC:zAC xC 0=⟨#[45,97,32,42,32,98,94,45,50]⟩:=kCX
theorem textD:zAC xD 0=⟨#[97,32,45,32,40,98,32,45,32,99,41]⟩:=kCX
theorem toks1:zA6 ⟨#[97,49,43,50,123,109,47,115,125]⟩=[⟨0,⟨#[97,49]⟩,0⟩,⟨4,⟨#[43]⟩,2⟩,⟨2,⟨#[50]⟩,3⟩,⟨3,⟨#[109,47,115]⟩,4⟩]:=kCX
theorem zDE:zAm xA=5∧zAI xA=3∧zAm xB=4∧zAI xB=3∧zAm xC=5∧zAI xC=4∧zAm xD=5∧zAI xD=3:= by refine⟨?_,?_,?_,?_,?_,?_,?_,?_⟩<;>kernel_rfl
theorem eqt:metewandkit_EqTexts.f 10 [⟨#[97]⟩,⟨#[105]⟩] [⟨#[97]⟩,⟨#[105]⟩]=some true:=kCX
theorem eqk:metewandkit_EqTokens.f 10 [⟨0,⟨#[97,49]⟩,0⟩,⟨4,⟨#[43]⟩,2⟩,⟨2,⟨#[50]⟩,3⟩,⟨3,⟨#[109,47,115]⟩,4⟩] [⟨0,⟨#[97,49]⟩,0⟩,⟨4,⟨#[43]⟩,2⟩,⟨2,⟨#[50]⟩,3⟩,⟨3,⟨#[109,47,115]⟩,4⟩]=some true:=kCX
theorem reps_flat (w:World) (ts:List S47):Reps (k47.K w) 3 ts (flat ts):=by
 have key:∀(ts pre:List S47),Reps (k47.K w) 3 pre (flat pre)→Reps (k47.K w) 3 (pre++ts) (flat (pre++ts)):=by
  intro ts
  induction ts with
  | nil=>intro pre h;simpa using h
  | cons t ts ih =>
   intro pre h;have:=ih (pre++[t]) (by rw[zG3];exact Reps.snoc h (k47_mk w t) rfl);simpa using this
 exact key ts [] (Reps.none _ _)
theorem zAT.C {w:World} {base:Nat} {v:Value} {ts:List S47} (h:zAT w base v ts):∃A c,v=.slice A ts.length c∧ts.length≤c∧Kd.C k47 w A ts.length ts :=
 zC1.reads ⟨flat ts,h,reps_flat w ts⟩
theorem lit_toks (W:World) (ts:List S47) (h:ts.length≤9223372036854775807):Kd.C k47 (W.alloc (.cells (flat ts).toArray 47)) (some ⟨W.heap.size,0,none⟩) ts.length ts:=by
 obtain⟨A,c,h1,h2,h3⟩:=zC1.reads (zC1.lit (R:=k47.K (W.alloc (.cells (flat ts).toArray 47))) (e:=47) W 0 (reps_flat _ ts) (kAI _) h);injection h1 with h1;rw[h1];exact h3
theorem reps_str (w:World) (xs:List ByteArray):Reps (Kd.string.K w) 1 xs (xs.map Value.string):=by
 have key:∀(ts pre:List ByteArray),Reps (Kd.string.K w) 1 pre (pre.map Value.string)→Reps (Kd.string.K w) 1 (pre++ts) ((pre++ts).map Value.string):=by
  intro ts
  induction ts with
  | nil=>intro pre h;simpa using h
  | cons t ts ih =>
   intro pre h;have:=ih (pre++[t]) (by rw[List.map_append];exact Reps.snoc h rfl rfl);simpa using this
 exact key xs [] (Reps.none _ _)
theorem lit_texts (W:World) (xs:List ByteArray) (h:xs.length≤9223372036854775807):Kd.C Kd.string (W.alloc (.cells (xs.map Value.string).toArray 9)) (some ⟨W.heap.size,0,none⟩) xs.length xs:=by
 obtain⟨A,c,h1,h2,h3⟩:=zC1.reads (zC1.lit (R:=Kd.string.K (W.alloc (.cells (xs.map Value.string).toArray 9))) (e:=9) W 0 (reps_str _ xs) (kAI _) h);injection h1 with h1;rw[h1];exact h3
theorem own_texts {w:World} {base:Nat} {v:Value} {xs:List ByteArray} (h:w.ownsRow base 9 1 v xs.length (xs.map Value.string)):∃A c,v=.slice A xs.length c∧xs.length≤c∧Kd.C Kd.string w A xs.length xs :=
 zC1.reads ⟨_,h,reps_str w xs⟩
theorem perm2 (ss:List (List UInt8)) (a b:List UInt8) (hab:a≠b) (h:ss.Perm [a,b]):ss=[a,b]∨ss=[b,a]:=by
 have hl:=h.length_eq
 match ss,hl with
 | [x,y],_ =>
  have hx:x ∈ [a,b]:=h.mem_iff.1 kCY;have hy:y ∈ [a,b]:=h.mem_iff.1 kCY;have ha:a ∈ [x,y]:=h.mem_iff.2 kCY;have hb:b ∈ [x,y]:=h.mem_iff.2 kCY;simp only[kAU,kBD,kCQ] at hx hy ha hb;rcases hx with rfl | rfl<;>rcases hy with rfl | rfl<;>simp_all
theorem sorted2 (ss:List (List UInt8)) (h:ss.Perm [[97],[105]]):ss.length=2∧(ss.mergeSort (fun x y=>decide (x≤y))).map encStr=[.string ⟨#[97]⟩,.string ⟨#[105]⟩]:=by
 rcases perm2 ss _ _ kD0 h with rfl | rfl
 ·exact⟨rfl,by simp[List.mergeSort,List.MergeSort.Internal.splitInTwo,List.merge];rfl⟩
 ·exact⟨rfl,by simp[List.mergeSort,List.MergeSort.Internal.splitInTwo,List.merge];rfl⟩
theorem toks_told (w:World):Calls Tryz.prog 15 #[.string ⟨#[97,49,43,50,123,109,47,115,125]⟩] w fun e w'=>∃A c,e=.returned (.tuple #[.slice A 4 c,.int .i64 0,.int .i64 0])∧4≤c ∧
  Kd.C k47 w' A 4 [⟨0,⟨#[97,49]⟩,0⟩,⟨4,⟨#[43]⟩,2⟩,⟨2,⟨#[50]⟩,3⟩,⟨3,⟨#[109,47,115]⟩,4⟩]∧Below w.heap.size w w':=by
 refine (zFp _ (by show 9≤2000;omega) w).mono ?_;intro e w' h;unfold zFe at h;rw[toks1] at h;have hb:zDR [⟨0,⟨#[97,49]⟩,0⟩,⟨4,⟨#[43]⟩,2⟩,⟨2,⟨#[50]⟩,3⟩,⟨3,⟨#[109,47,115]⟩,4⟩]=none:=rfl;rw[hb] at h;obtain⟨v,h1,h2,h3⟩:=h;obtain⟨A,c,rfl,h4,h5⟩:=h2.C;exact⟨A,c,h1,h4,h5,h3⟩
theorem lenA:(zA6 tA).length=5:=kCX
theorem lenB:(zA6 tB).length=7:=kCX
theorem lenC:(zA6 tC).length=7:=kCX
theorem lenD:(zA6 tD).length=7:=kCX
theorem placeE:zBk chk0 tE=2:=kCX
theorem read_told (s:ByteArray) (h:zCp s=true) (x:S31) (hr:zBN chk0 s=(x,0,0)) (hp:zBK chk0 s=.ok (x,(zA6 s).length)) (hn:zAm x≤4611686018427387904) (w:World) (hS:Start w) :
  Calls Tryz.prog 18 #[.string s] w fun e w'=>∃A c,e=.returned (.tuple #[.agg #[.int .i64 x.f0,.string x.f1.f0,.string x.f1.f1,.string x.f2,.int .i64 x.f3,.slice A x.f4.length c],.int .i64 0,.int .i64 0]) ∧
   Vw w' x (.agg #[.int .i64 x.f0,.string x.f1.f0,.string x.f1.f1,.string x.f2,.int .i64 x.f3,.slice A x.f4.length c])∧Below w.heap.size w w':=by
 have hrd:=zDc chk0 s (zCi chk0 s h) w hS (fun _=>⟨x,hp,hn⟩);unfold zBz at hrd;rw[hr] at hrd;simp only at hrd;refine hrd.mono ?_;rintro e w1 ⟨v5,rfl,hx,hb1⟩;obtain⟨A,c,hv5,hc1,hc2⟩:=hx.vw.out;obtain rfl:=zCf hv5;exact⟨A,c,rfl,hx.vw,hb1⟩
end Go.Proofs.YtjaobihcdkjmbaaGreatDoor
end
section
namespace Go.Proofs.YtjaobihcdkjmbaaGreatDoor.PReadTokens
open Go.RowKit Go.Proofs.YtjaobihcdkjmbaaGreatDoorW.PrintWords Go.Proofs.YtjaobihcdkjmbaaGreatDoorW.PrintLast Go.Proofs.YtjaobihcdkjmbaaGreatDoorW.PrintMore
section
attribute [local go_sem] zCG zCE zDx zDw zC9 zC8 zCF zCD   -- for this text's walks alone
set_option linter.unusedVariables false
set_option linter.unusedSimpArgs false
def metewandref13_scan.l0:Nat→ByteArray→List (S47)→Int→Option ((List (S47))×Int)
 | 0,_,_,_=>none
 | k+1,x0,x4,x5=>if x5<(x0.size:Int) then (if 0≤x5 then (if (bt x0 x5)=32 then (metewandref13_scan.l0 k x0 x4 (wrap64 (x5+1))) else ((metewandref13_token.f k x0 x5).bind fun bt414=>(if bt414.2.2.2.2=true then (if x4.length<4398046511104 then (metewandref13_scan.l0 k x0 (x4++[(⟨bt414.1,bt414.2.1,bt414.2.2.1⟩:S47)]) bt414.2.2.2.1) else (none)) else (some (x4,x5))))) else (none)) else (some (x4,(-1)))
def metewandref13_scan.f (k:Nat) (a0:ByteArray):Option ((List (S47))×Int):=metewandref13_scan.l0 k a0 ([]:List (S47)) 0
theorem metewandref13_scan.mono_l:∀k,(∀y0 y1 y2,LeO (metewandref13_scan.l0 k y0 y1 y2) (metewandref13_scan.l0 (k+1) y0 y1 y2))
 | 0=>fun _ _ _ r h=>by simp[metewandref13_scan.l0] at h
 | k+1=>by
  have ih0:=metewandref13_scan.mono_l k
  ·intro y0 y1 y2;unfold metewandref13_scan.l0
   repeat' first
   | (with_reducible exact ih0 _ _ _)
   | (with_reducible exact metewandref13_token.mono _ _ _)
   | (with_reducible exact LeO.refl _)
   | (with_reducible exact LeO.none _)
   | (with_reducible refine LeO.ite ?_ ?_)
   | (with_reducible refine LeO.bind ?_ (fun _=>?_))
   | exact ih0 _ _ _
   | exact metewandref13_token.mono _ _ _
   | exact LeO.none _
   | refine LeO.ite ?_ ?_
   | refine LeO.bind ?_ (fun _=>?_)
theorem metewandref13_scan.mono:∀a0 k,LeO (metewandref13_scan.f k a0) (metewandref13_scan.f (k+1) a0):=by
 intro a0 k;have ih0:=metewandref13_scan.mono_l k;unfold metewandref13_scan.f
 repeat' first
   | (with_reducible exact ih0 _ _ _)
   | (with_reducible exact metewandref13_token.mono _ _ _)
   | (with_reducible exact LeO.refl _)
   | (with_reducible exact LeO.none _)
   | (with_reducible refine LeO.ite ?_ ?_)
   | (with_reducible refine LeO.bind ?_ (fun _=>?_))
   | exact ih0 _ _ _
   | exact metewandref13_token.mono _ _ _
   | exact LeO.none _
   | refine LeO.ite ?_ ?_
   | refine LeO.bind ?_ (fun _=>?_)
theorem metewandref13_scan.calls (k:Nat) (a0:ByteArray) (r1:List (S47)) (r2:Int) (w:World) (h:metewandref13_scan.f k a0=some (r1,r2)) :
  Calls Tryz.prog 54 #[.string a0] w fun e w'=>∃v0_:Value,e=.returned (.tuple #[v0_,.int .i64 r2])∧Kd.R k47 47 w' w.heap.size (fun _=>True) v0_ r1∧Below w.heap.size w w':=by
 have hu47:=Tryz.underlying47;have HB:=Aside0.mk (kA3 w.heap.size w);have H:(metewandref13_scan.l0 k a0 ([]:List (S47)) 0)=some (r1,r2):=h;clear h;have H':=Aside0.mk H;clear H;go_enter Tryz.func54,Tryz.ntmps54;go_wp2;go_loopg [4,5] k (fun kq v4 v5 w'=>∃(x4_1:List (S47)) (x5_1:Int),v5=.int .i64 x5_1∧Aside0 (metewandref13_scan.l0 kq a0 x4_1 x5_1=some (r1,r2))∧Aside0 (kq≤k)∧Aside0 (Kd.R k47 47 w' w.heap.size (fun _=>True) v4 x4_1)∧Aside0 (Below w.heap.size w w'))
 case atStart=>exact⟨(([]:List (S47))),(0),kD8,H',⟨kA2 _⟩,⟨by first | exact Kd.R_nil _ _ _ _ _ | exact Kd.N_nil _ _ _ _ _ | exact Kd.V_nil _ _ _ _ _ | exact Kd.Q_nil _ _ _ _ _ | exact Kd.S_nil _ _ _ _ _⟩,⟨kD7⟩⟩
 case round =>
  clear H';obtain⟨x4_1,x5_1,rfl,HA,HK1,HO_4,HB⟩:=hrel
  cases gk with
  | zero=>exact absurd HA.out (by simp[metewandref13_scan.l0])
  | succ k1 =>
   have H:=HA.out;clear HA;simp only[metewandref13_scan.l0] at H;by_cases c2:x5_1<(a0.size:Int)
   ·rw[kAb c2] at H;have c2b0:decide (x5_1<(a0.size:Int))=true:=kA5 c2;clear c2;by_cases c3:0≤x5_1
    ·rw[kAb c3] at H;have c3b0:decide (0≤x5_1)=true:=kA5 c3;clear c3;by_cases c5:(bt a0 x5_1)=32
     ·rw[kAb c5] at H;have c5b0:((bt a0 x5_1)==32)=true:=beq_iff_eq.mpr c5;have c5b1:((bt a0 x5_1) != 32)=false:=bne_eq_false_iff_eq.mpr c5;clear c5;have H':=Aside0.mk H;clear H;have p4:0≤(x5_1:Int):=kA8 kD1;have q4:x5_1<(a0.size:Int):=kA8 kD1;have hx4:=zBA a0 x5_1;replace p4:=kAs p4;replace q4:=kAs q4;go_wp2;go_roundg k1
      case measure=>have:=HK1.out;omega
      case rel=>exact⟨(x4_1),(wrap64 (x5_1+1)),kD8,H',⟨by have:=HK1.out;omega⟩,⟨kDz⟩,⟨kD7⟩⟩
     ·rw[kAa c5] at H;have c5b0:((bt a0 x5_1)==32)=false:=beq_eq_false_iff_ne.mpr c5;have c5b1:((bt a0 x5_1) != 32)=true:=bne_iff_ne.mpr c5;replace H:=Option.bind_eq_some_iff.mp H;obtain⟨⟨t414,t415,t416,t417,t418⟩,A60,H⟩:=H;replace H:(if t418=true then (if x4_1.length<4398046511104 then (metewandref13_scan.l0 k1 a0 (x4_1++[(⟨t414,t415,t416⟩:S47)]) t417) else (none)) else (some (x4_1,x5_1)))=some (r1,r2):=H;have A6:=Aside0.mk A60;clear A60;by_cases c7:t418=true
      ·subst c7;have H1:(if x4_1.length<4398046511104 then (metewandref13_scan.l0 k1 a0 (x4_1++[(⟨t414,t415,t416⟩:S47)]) t417) else (none))=some (r1,r2):=by rw[kAb rfl] at H;exact H
       clear H;have H:=H1;clear H1;by_cases c8:x4_1.length<4398046511104
       ·rw[kAb c8] at H;have LMc8:=Aside0.mk c8;clear c8;obtain⟨y420,hy420⟩:∃y_:List (S47),y_=(x4_1++[(⟨t414,t415,t416⟩:S47)]):=⟨_,rfl⟩;replace H:(metewandref13_scan.l0 k1 a0 y420 t417)=some (r1,r2):=by first | (rw[hy420];with_reducible exact H) | (have H2_:=(Option.bind_some _ _).symm.trans H;rw[hy420];with_reducible exact H2_) | (have H2_:=(Option.bind_some _ _).symm.trans H;with_reducible exact H2_) | with_reducible exact H | (rw[hy420];exact H) | exact H
        have Ny420:=Aside0.mk hy420;clear hy420;have H':=Aside0.mk H;clear H;have p4:0≤(x5_1:Int):=kA8 kD1;have q4:x5_1<(a0.size:Int):=kA8 kD1;have hx4:=zBA a0 x5_1;replace p4:=kAs p4;replace q4:=kAs q4;go_wp2_with (first | ((with_reducible refine zAc (f:=89) rfl ?_);refine zAQ (some 22) rfl rfl Tryz.func89 kCX rfl #[.string a0,.int .i64 x5_1] rfl kD4 ?_;(with_reducible refine (metewandref13_token.calls k1 a0 x5_1 t414 t415 t416 t417 true _ A6.out).mono ?_);rintro e w9 ⟨rfl,hb⟩;refine⟨_,rfl,?_⟩;have n0_:=Aside0.mk (Kd.R_below kDz hb);have n1_:=Aside0.mk (zAG kD7 hb);clear HO_4;clear HB;have HO_4:=n0_;have HB:=n1_;clear n0_ n1_;(try clear hb);(try clear hb2);(try clear hk);(try clear hi)) | ((with_reducible refine zE0 (N:=6) rfl ?_);refine zGf ?hg (N:=6) ?hd (cs:=#[.int .i64 0,.string (⟨#[]⟩:ByteArray),.int .i64 0]) (t:=47) ?hr ?_;(case hd=>rfl);(case hg=>rfl);(case hr=>first | (go_simp;done) | (go_simp;rfl));intro gb419 hg w10 hbox hb;have n0_:=Aside0.mk (Kd.R_below (Kd.R_elderB kDz gb419 (Nat.le_of_eq hg.symm)) hb);have n1_:=Aside0.mk (zAG kD7 hb);have n2_:=Aside0.mk (hbox);have n3_:=Aside0.mk ((by rw[hg];exact (zBd kD7):w.heap.size≤gb419));have n4_:=Aside0.mk ((by rw[hg];exact (zBd kD7):w.heap.size≤gb419));clear HO_4;clear HB;have HO_4:=n0_;have HB:=n1_;have BK419:=n2_;have GW419:=n3_;have GE419:=n4_;clear n0_ n1_ n2_ n3_ n4_;clear hb hbox hg;have hcz11_0:w10.cell? ⟨gb419,0,none⟩=some (.int .i64 0):=(zA1 BK419.out 0).trans rfl;have hcz11_1:w10.cell? ⟨gb419,1,none⟩=some (.string (⟨#[]⟩:ByteArray)):=(zA1 BK419.out 1).trans rfl;have hcz11_2:w10.cell? ⟨gb419,2,none⟩=some (.int .i64 0):=(zA1 BK419.out 2).trans rfl;have hfz11_0:=zA2 BK419.out 0;have hfz11_1:=zA2 BK419.out 1;have hfz11_2:=zA2 BK419.out 2) | ((with_reducible refine gate_builtin (b:=.append) (xs:=#[.tmp 30,.tmp 32]) rfl ?_);at_builtin;refine Kd.R_append k47 (w0:=w) w.heap.size rfl (.tmp 30) (.tmp 32) 35 47 (.agg #[(.int .i64 0),(.string ⟨#[]⟩),(.int .i64 0)]) 32 rfl Tryz.underlying35 info47 rfl kD0 kCW u4 x4_1 (⟨t414,t415,t416⟩:S47) [.int .i64 t414,.string t415,.int .i64 t416] (fun k_=>k_≠gb419) (fun _=>False) rfl (by first | (go_simp;done) | (go_simp;rfl)) ?aP (fun _ hk=>hk.elim) ?aF ?aO ?aB ?aS ?aL ?_;(case aP=>exact k47_mkM _ _ _ (⟨t414,t415,t416⟩:S47));(case aB=>exact (by repeat (first | (with_reducible first | exact HB.out | apply zA7 | apply zA3 | apply zA8 | refine zB0 ?_ GE419.out) | exact HB.out)));(case aF=>exact (fun k_ hk=>Kd.freshB (g:=gb419) (o:=.cells #[.int .i64 t414,.string t415,.int .i64 t416] 47 (0,0)) (by (with_reducible repeat (first | refine zAp ?_ _ | refine zBp ?_ | refine zBb ?_ _));refine zFd (cs:=#[.int .i64 t414,.string t415,.int .i64 0]) ?_ 2 _ rfl;(with_reducible repeat (first | refine zAp ?_ _ | refine zBp ?_ | refine zBb ?_ _));refine zFd (cs:=#[.int .i64 t414,.string (⟨#[]⟩:ByteArray),.int .i64 0]) ?_ 1 _ rfl;(with_reducible repeat (first | refine zAp ?_ _ | refine zBp ?_ | refine zBb ?_ _));refine zFd (cs:=#[.int .i64 0,.string (⟨#[]⟩:ByteArray),.int .i64 0]) ?_ 0 _ rfl;(with_reducible repeat (first | refine zAp ?_ _ | refine zBp ?_ | refine zBb ?_ _));exact BK419.out) k_ hk));(case aO=>exact (by (with_reducible repeat (first | apply Kd.R_alloc | apply Kd.R_drewN | apply Kd.R_drew));exact Kd.R_mono (Kd.R_far (p:=⟨gb419,2,none⟩) (Kd.R_far (p:=⟨gb419,1,none⟩) (Kd.R_far (p:=⟨gb419,0,none⟩) (Kd.R_mono HO_4.out (fun k_ hk=>(⟨hk,hk.2⟩:_∧k_≠gb419))) (fun _ hk=>hk.2) (.int .i64 t414)) (fun _ hk=>hk.2) (.string t415)) (fun _ hk=>hk.2) (.int .i64 t416)) (fun _ hk=>hk.1.2)));(case aS=>exact (zBd (by repeat (first | (with_reducible first | exact HB.out | apply zA7 | apply zA3 | apply zA8 | refine zB0 ?_ GE419.out) | exact HB.out))));(case aL=>have:=LMc8.out;omega);intro v421 w12 ho hb hg hat;rw[← Ny420.out] at ho;have n0_:=Aside0.mk (blk_grown (g:=gb419) (o:=.cells #[.int .i64 t414,.string t415,.int .i64 t416] 47 (0,0)) (by (with_reducible repeat (first | refine zAp ?_ _ | refine zBp ?_ | refine zBb ?_ _));refine zFd (cs:=#[.int .i64 t414,.string t415,.int .i64 0]) ?_ 2 _ rfl;(with_reducible repeat (first | refine zAp ?_ _ | refine zBp ?_ | refine zBb ?_ _));refine zFd (cs:=#[.int .i64 t414,.string (⟨#[]⟩:ByteArray),.int .i64 0]) ?_ 1 _ rfl;(with_reducible repeat (first | refine zAp ?_ _ | refine zBp ?_ | refine zBb ?_ _));refine zFd (cs:=#[.int .i64 0,.string (⟨#[]⟩:ByteArray),.int .i64 0]) ?_ 0 _ rfl;(with_reducible repeat (first | refine zAp ?_ _ | refine zBp ?_ | refine zBb ?_ _));exact BK419.out) hg (Kd.R_away HO_4.out (fun _ hk=>hk.2)));have n1_:=Aside0.mk (hb);have n2_:=Aside0.mk (ho);clear BK419;clear HB;clear HO_4;have BK419:=n0_;have HB:=n1_;have HO422:=n2_;clear n0_ n1_ n2_;clear ho hb hg hat));go_roundg k1
        case measure=>have:=HK1.out;omega
        case rel=>exact⟨(y420),(t417),kD8,H',⟨by have:=HK1.out;omega⟩,⟨by (with_reducible repeat (first | apply Kd.R_alloc | apply Kd.R_drewN | apply Kd.R_drew));exact Kd.R_mono HO422.out (fun _ hk=>trivial)⟩,⟨by repeat (first | (with_reducible first | exact HB.out | apply zA7 | apply zA3 | apply zA8 | refine zB0 ?_ GE419.out) | exact HB.out)⟩⟩
       ·rw[kAa c8] at H;exact absurd H kCY
      ·replace c7:=Bool.eq_false_iff.mpr c7;subst c7;have H1:(some (x4_1,x5_1))=some (r1,r2):=by rw[kAa (show ¬(false=true) by decide)] at H;exact H
       clear H;have H:=H1;clear H1;simp only[kBS,kBQ] at H;obtain⟨rfl,rfl⟩:=H;have p4:0≤(x5_1:Int):=kA8 kD1;have q4:x5_1<(a0.size:Int):=kA8 kD1;have hx4:=zBA a0 x5_1;replace p4:=kAs p4;replace q4:=kAs q4;go_wp2_with (first | ((with_reducible refine zAc (f:=89) rfl ?_);refine zAQ (some 22) rfl rfl Tryz.func89 kCX rfl #[.string a0,.int .i64 x5_1] rfl kD4 ?_;(with_reducible refine (metewandref13_token.calls k1 a0 x5_1 t414 t415 t416 t417 false _ A6.out).mono ?_);rintro e w13 ⟨rfl,hb⟩;refine⟨_,rfl,?_⟩;have n0_:=Aside0.mk (Kd.R_below kDz hb);have n1_:=Aside0.mk (zAG kD7 hb);clear HO_4;clear HB;have HO_4:=n0_;have HB:=n1_;clear n0_ n1_;(try clear hb);(try clear hb2);(try clear hk);(try clear hi)) | ((with_reducible refine zE0 (N:=6) rfl ?_);refine zGf ?hg (N:=6) ?hd (cs:=#[.int .i64 0,.string (⟨#[]⟩:ByteArray),.int .i64 0]) (t:=47) ?hr ?_;(case hd=>rfl);(case hg=>rfl);(case hr=>first | (go_simp;done) | (go_simp;rfl));intro gb419 hg w14 hbox hb;have n0_:=Aside0.mk (Kd.R_below (Kd.R_elderB kDz gb419 (Nat.le_of_eq hg.symm)) hb);have n1_:=Aside0.mk (zAG kD7 hb);have n2_:=Aside0.mk (hbox);have n3_:=Aside0.mk ((by rw[hg];exact (zBd kD7):w.heap.size≤gb419));have n4_:=Aside0.mk ((by rw[hg];exact (zBd kD7):w.heap.size≤gb419));clear HO_4;clear HB;have HO_4:=n0_;have HB:=n1_;have BK419:=n2_;have GW419:=n3_;have GE419:=n4_;clear n0_ n1_ n2_ n3_ n4_;clear hb hbox hg;have hcz15_0:w14.cell? ⟨gb419,0,none⟩=some (.int .i64 0):=(zA1 BK419.out 0).trans rfl;have hcz15_1:w14.cell? ⟨gb419,1,none⟩=some (.string (⟨#[]⟩:ByteArray)):=(zA1 BK419.out 1).trans rfl;have hcz15_2:w14.cell? ⟨gb419,2,none⟩=some (.int .i64 0):=(zA1 BK419.out 2).trans rfl;have hfz15_0:=zA2 BK419.out 0;have hfz15_1:=zA2 BK419.out 1;have hfz15_2:=zA2 BK419.out 2))
       go_ret2
       exact⟨_,by first | rfl | (simp[zAr,zAq]<;>rfl) | (simp[*,zAr,zAq]<;>rfl),by (with_reducible repeat (first | apply Kd.R_alloc | apply Kd.R_drewN | apply Kd.R_drew));exact Kd.R_mono (Kd.R_far (p:=⟨gb419,2,none⟩) (Kd.R_far (p:=⟨gb419,1,none⟩) (Kd.R_far (p:=⟨gb419,0,none⟩) (Kd.R_mono HO_4.out (fun k_ hk=>(⟨hk,hk.2⟩:_∧k_≠gb419))) (fun _ hk=>hk.2) (.int .i64 t414)) (fun _ hk=>hk.2) (.string t415)) (fun _ hk=>hk.2) (.int .i64 t416)) (fun _ hk=>trivial),by repeat (first | (with_reducible first | exact HB.out | apply zA7 | apply zA3 | apply zA8 | refine zB0 ?_ GE419.out) | exact HB.out)⟩
    ·rw[kAa c3] at H;exact absurd H kCY
   ·rw[kAa c2] at H;have c2b0:decide (x5_1<(a0.size:Int))=false:=kA6 c2;clear c2;simp only[kBS,kBQ] at H;obtain⟨rfl,rfl⟩:=H;go_wp2
    go_ret2
    exact⟨_,by first | rfl | (simp[zAr,zAq]<;>rfl) | (simp[*,zAr,zAq]<;>rfl),kDz,kD7⟩
def metewandref13_Tokens.f (k:Nat) (a0:ByteArray):Option ((List (S47))×Int×Int):=if (a0.size:Int) > 2000 then (some (([]:List (S47)),0,13)) else ((metewandref13_scan.f k a0).bind fun bt423=>(if bt423.2≥0 then (some (([]:List (S47)),bt423.2,1)) else (some (bt423.1,0,0))))
theorem metewandref13_Tokens.mono:∀a0 k,LeO (metewandref13_Tokens.f k a0) (metewandref13_Tokens.f (k+1) a0):=by
 intro a0 k;unfold metewandref13_Tokens.f
 repeat' first
   | (with_reducible exact metewandref13_scan.mono _ _)
   | (with_reducible exact LeO.refl _)
   | (with_reducible exact LeO.none _)
   | (with_reducible refine LeO.ite ?_ ?_)
   | (with_reducible refine LeO.bind ?_ (fun _=>?_))
   | exact metewandref13_scan.mono _ _
   | exact LeO.none _
   | refine LeO.ite ?_ ?_
   | refine LeO.bind ?_ (fun _=>?_)
theorem metewandref13_Tokens.calls (k:Nat) (a0:ByteArray) (r1:List (S47)) (r2:Int) (r3:Int) (w:World) (h:metewandref13_Tokens.f k a0=some (r1,r2,r3)) :
  Calls Tryz.prog 16 #[.string a0] w fun e w'=>∃v0_:Value,e=.returned (.tuple #[v0_,.int .i64 r2,.int .i64 r3])∧Kd.R k47 47 w' w.heap.size (fun _=>True) v0_ r1∧Below w.heap.size w w':=by
 have HB:=Aside0.mk (kA3 w.heap.size w);have H:(if (a0.size:Int) > 2000 then (some (([]:List (S47)),0,13)) else ((metewandref13_scan.f k a0).bind fun bt423=>(if bt423.2≥0 then (some (([]:List (S47)),bt423.2,1)) else (some (bt423.1,0,0)))))=some (r1,r2,r3):=h;clear h;by_cases c2:(a0.size:Int) > 2000
 ·rw[kAb c2] at H;have c2b0:decide (2000<(a0.size:Int))=true:=kA5 c2;have c2b1:decide (2000<a0.size)=true:=kA5 kCW;clear c2;simp only[kBS,kBQ] at H;obtain⟨rfl,rfl,rfl⟩:=H;go_enter Tryz.func16,Tryz.ntmps16;go_wp2
  go_ret3
  exact⟨_,by first | rfl | (simp[zAr,zAq]<;>rfl) | (simp[*,zAr,zAq]<;>rfl),by first | exact Kd.R_nil _ _ _ _ _ | exact Kd.N_nil _ _ _ _ _ | exact Kd.V_nil _ _ _ _ _ | exact Kd.Q_nil _ _ _ _ _ | exact Kd.S_nil _ _ _ _ _,kD7⟩
 ·rw[kAa c2] at H;have c2b0:decide (2000<(a0.size:Int))=false:=kA6 c2;have c2b1:decide (2000<a0.size)=false:=kA6 kCW;clear c2;replace H:=Option.bind_eq_some_iff.mp H;obtain⟨⟨t423,t424⟩,A30,H⟩:=H;replace H:(if t424≥0 then (some (([]:List (S47)),t424,1)) else (some (t423,0,0)))=some (r1,r2,r3):=H;have A3:=Aside0.mk A30;clear A30;by_cases c4:t424≥0
  ·rw[kAb c4] at H;have c4b0:decide (0≤t424)=true:=kA5 c4;clear c4;simp only[kBS,kBQ] at H;obtain⟨rfl,rfl,rfl⟩:=H;go_enter Tryz.func16,Tryz.ntmps16;go_wp2_with (first | ((with_reducible refine zAc (f:=54) rfl ?_);refine zAQ (some 12) rfl rfl Tryz.func54 kCX rfl #[.string a0] rfl kD4 ?_;(with_reducible refine (metewandref13_scan.calls k a0 t423 t424 _ A3.out).mono ?_);rintro e w5 ⟨v425,rfl,ho0,hb⟩;refine⟨_,rfl,?_⟩;have n0_:=Aside0.mk (Kd.R_lower ho0 (zBd kD7));have n1_:=Aside0.mk (zAG kD7 hb);clear HB;have HO426:=n0_;have HB:=n1_;clear n0_ n1_;(try clear hb);(try clear hb2);(try clear hk);(try clear hi);(try clear ho0)))
   go_ret3
   exact⟨_,by first | rfl | (simp[zAr,zAq]<;>rfl) | (simp[*,zAr,zAq]<;>rfl),by first | exact Kd.R_nil _ _ _ _ _ | exact Kd.N_nil _ _ _ _ _ | exact Kd.V_nil _ _ _ _ _ | exact Kd.Q_nil _ _ _ _ _ | exact Kd.S_nil _ _ _ _ _,kD7⟩
  ·rw[kAa c4] at H;have c4b0:decide (0≤t424)=false:=kA6 c4;clear c4;simp only[kBS,kBQ] at H;obtain⟨rfl,rfl,rfl⟩:=H;go_enter Tryz.func16,Tryz.ntmps16;go_wp2_with (first | ((with_reducible refine zAc (f:=54) rfl ?_);refine zAQ (some 12) rfl rfl Tryz.func54 kCX rfl #[.string a0] rfl kD4 ?_;(with_reducible refine (metewandref13_scan.calls k a0 t423 t424 _ A3.out).mono ?_);rintro e w6 ⟨v425,rfl,ho0,hb⟩;refine⟨_,rfl,?_⟩;have n0_:=Aside0.mk (Kd.R_lower ho0 (zBd kD7));have n1_:=Aside0.mk (zAG kD7 hb);clear HB;have HO426:=n0_;have HB:=n1_;clear n0_ n1_;(try clear hb);(try clear hb2);(try clear hk);(try clear hi);(try clear ho0)))
   go_ret3
   exact⟨_,by first | rfl | (simp[zAr,zAq]<;>rfl) | (simp[*,zAr,zAq]<;>rfl),by (with_reducible repeat (first | apply Kd.R_alloc | apply Kd.R_drewN | apply Kd.R_drew));exact HO426.out,kD7⟩
end
end Go.Proofs.YtjaobihcdkjmbaaGreatDoor.PReadTokens
end
