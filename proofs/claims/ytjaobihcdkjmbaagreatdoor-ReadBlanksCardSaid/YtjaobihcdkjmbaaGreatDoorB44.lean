/- The law ReadBlanks answers true for every argument; a part of its proof. -/
import Derived.Test.YtjaobihcdkjmbaaGreatDoorBa
import Derived.Test.YtjaobihcdkjmbaaGreatDoorBb
import Derived.Test.YtjaobihcdkjmbaaGreatDoorTie
import Derived.Test.YtjaobihcdkjmbaaGreatDoorCards
import Derived.Test.YtjaobihcdkjmbaaGreatDoorB0
import Derived.Test.YtjaobihcdkjmbaaGreatDoorB6
import Derived.Test.YtjaobihcdkjmbaaGreatDoorB7
import Derived.Test.YtjaobihcdkjmbaaGreatDoorB9
import Derived.Test.YtjaobihcdkjmbaaGreatDoorB10
import Derived.Test.YtjaobihcdkjmbaaGreatDoorB11
import Derived.Test.YtjaobihcdkjmbaaGreatDoorB12
import Derived.Test.YtjaobihcdkjmbaaGreatDoorB19
import Derived.Test.YtjaobihcdkjmbaaGreatDoorB20
import Derived.Test.YtjaobihcdkjmbaaGreatDoorB22
import Derived.Test.YtjaobihcdkjmbaaGreatDoorB23
import Derived.Test.YtjaobihcdkjmbaaGreatDoorB24
import Derived.Test.YtjaobihcdkjmbaaGreatDoorB25
import Derived.Test.YtjaobihcdkjmbaaGreatDoorB32
import Derived.Test.YtjaobihcdkjmbaaGreatDoorB33
import Derived.Test.YtjaobihcdkjmbaaGreatDoorB34
import Derived.Test.YtjaobihcdkjmbaaGreatDoorB35
import Derived.Test.YtjaobihcdkjmbaaGreatDoorB36
import Derived.Test.YtjaobihcdkjmbaaGreatDoorB37
import Derived.Test.YtjaobihcdkjmbaaGreatDoorB38
import Derived.Test.YtjaobihcdkjmbaaGreatDoorB40
import Derived.Test.YtjaobihcdkjmbaaGreatDoorB41
import Derived.Test.YtjaobihcdkjmbaaGreatDoorB43
set_option linter.unusedVariables false
set_option linter.unusedSimpArgs false
namespace Go.Proofs.YtjaobihcdkjmbaaGreatDoor.PReadTokens
end Go.Proofs.YtjaobihcdkjmbaaGreatDoor.PReadTokens
namespace Go.Proofs.YtjaobihcdkjmbaaGreatDoorW.PrintWords
end Go.Proofs.YtjaobihcdkjmbaaGreatDoorW.PrintWords
set_option maxRecDepth 100000
set_option maxHeartbeats 4000000
section
namespace Go.Proofs.YtjaobihcdkjmbaaGreatDoor
open Go.RowKit Go.Proofs.YtjaobihcdkjmbaaGreatDoorW.PrintWords Go.Proofs.YtjaobihcdkjmbaaGreatDoor.PReadTokens
theorem wrong_ok (chk:S28→Int) (s:ByteArray) (h:Readable chk s) (at_:Int) (hr:zCb chk s=(z31,at_,1)) (hpl:0≤zBV chk s) (w:World) (hS:Start w) :
  Calls Tryz.prog 45 #[.string s,.int .i64 at_] w fun e w'=>e=.returned (.bool true)∧Below w.heap.size w w':=by
 have hrd:=zD1 chk s h w hS (fun hl=>by omega);unfold zBF at hrd;rw[hr] at hrd;simp only at hrd;have heq:(at_==at_)=true:=kCV
 go_enter Tryz.func45,Tryz.ntmps45;go_wp2_with fail;refine hrd.mono ?_;rintro e w1 ⟨v5,rfl,hx,hb1⟩;obtain⟨A,c,hv5,hc1,hc2⟩:=hx.vw.out;obtain rfl:=zCe hv5;have hex:exV z31 (.slice A z31.f4.length c)=.agg #[.int .i64 0,.string ⟨#[]⟩,.string ⟨#[]⟩,.string ⟨#[]⟩,.int .i64 0,.slice A 0 c]:=rfl;rw[hex];clear hx hv5 hc1 hc2;go_wp2;go_ret;exact⟨rfl,hb1.alloc hb1.size _⟩
end Go.Proofs.YtjaobihcdkjmbaaGreatDoor
end
section
namespace Go.Proofs.YtjaobihcdkjmbaaGreatDoor
open Go.RowKit Go.Maps Go.Sort Go.Proofs.YtjaobihcdkjmbaaGreatDoorW.PrintWords Go.Proofs.YtjaobihcdkjmbaaGreatDoor.PReadTokens
def zGb (D:DataW Unit) (w:World) (e:Ending) (w':World):Prop :=
 ∃(v:Value) (ss:List (List UInt8)),e=.returned v∧ss.Perm (strKeys D)∧w'.ownsRow (w.heap.size+1) 9 1 v ss.length ((ss.mergeSort (fun x y=>decide (x≤y))).map encStr)∧(v=.slice none 0 0↔ss=[])∧Below w.heap.size w w'
theorem names_calls (b nn:Nat) (D:DataW Unit) (w:World) (hm:MapAt w b nn D) (hn:nn≤1000000000) :
  Calls Tryz.prog 74 #[.map (some b)] w (zGb D w):=by
 have hsz:=hm.size_le;have hs:=Tryz.slices_Sorted_keys_111_112 b nn D (plainElem Tryz.prog 4) w hm kDb kCT;refine (kBl (n:=6)).1 ?_;have hfK:Fence.wide.fn 112:=trivial;have hfS:Fence.wide.fn 111:=trivial;have hD:Fence.wide.depth.isSome=false:=rfl;refine kCu Tryz.func74 rfl trivial ?_;simp only[Tryz.ntmps74,kAc,List.length_cons,List.length_nil,Nat.reduceAdd,Nat.reduceSub,kAY,Array.replicate_zero,kBj,kAP,List.nil_append,List.cons_append]
 gi_wp2_with (first
  | (gi_at_call 112;refine (Tryz.maps_Keys_112 _ _).mono ?_;rintro e w' ⟨rfl,rfl⟩)
  | (gi_at_call 111;refine hs.mono ?_;rintro e w' ⟨v,ss,rfl,hS,hrow,hnil,hb⟩))
 go_ret;unfold zGb;refine⟨v,ss,rfl,hS,by rwa [kAz] at hrow,hnil,?_⟩;exact ((kA3 _ w).alloc (kA2 _) _).trans (hb.mono kCV)
end Go.Proofs.YtjaobihcdkjmbaaGreatDoor
end
section
namespace Go.Proofs.YtjaobihcdkjmbaaGreatDoor
open Go.RowKit Go.Proofs.YtjaobihcdkjmbaaGreatDoorW.PrintWords Go.Proofs.YtjaobihcdkjmbaaGreatDoor.PReadTokens
theorem readA:zCb chk0 tA=(xA,0,0):=kCU
theorem readB:zCb chk0 tB=(xB,0,0):=kCU
theorem readC:zCb chk0 tC=(xC,0,0):=kCU
theorem readD:zCb chk0 tD=(xD,0,0):=kCU
theorem readE:zCb chk0 tE=(z31,2,1):=kCU
theorem txtC:txtB xC=true:=kCU
theorem txtD:txtB xD=true:=kCU
theorem textC:zAy xC 0=⟨#[45,97,32,42,32,98,94,45,50]⟩:=kCU
theorem textD:zAy xD 0=⟨#[97,32,45,32,40,98,32,45,32,99,41]⟩:=kCU
theorem toks1:zA8 ⟨#[97,49,43,50,123,109,47,115,125]⟩=[⟨0,⟨#[97,49]⟩,0⟩,⟨4,⟨#[43]⟩,2⟩,⟨2,⟨#[50]⟩,3⟩,⟨3,⟨#[109,47,115]⟩,4⟩]:=kCU
theorem zDq:zAH xA=5∧zAC xA=3∧zAH xB=4∧zAC xB=3∧zAH xC=5∧zAC xC=4∧zAH xD=5∧zAC xD=3:= by refine⟨?_,?_,?_,?_,?_,?_,?_,?_⟩<;>kernel_rfl
theorem eqt:metewandkit_EqTexts.f 10 [⟨#[97]⟩,⟨#[105]⟩] [⟨#[97]⟩,⟨#[105]⟩]=some true:=kCU
theorem eqk:metewandkit_EqTokens.f 10 [⟨0,⟨#[97,49]⟩,0⟩,⟨4,⟨#[43]⟩,2⟩,⟨2,⟨#[50]⟩,3⟩,⟨3,⟨#[109,47,115]⟩,4⟩] [⟨0,⟨#[97,49]⟩,0⟩,⟨4,⟨#[43]⟩,2⟩,⟨2,⟨#[50]⟩,3⟩,⟨3,⟨#[109,47,115]⟩,4⟩]=some true:=kCU
theorem reps_flat (w:World) (ts:List S47):Reps (k47.K w) 3 ts (flat ts):=by
 have key:∀(ts pre:List S47),Reps (k47.K w) 3 pre (flat pre)→Reps (k47.K w) 3 (pre++ts) (flat (pre++ts)):=by
  intro ts
  induction ts with
  | nil=>intro pre h;simpa using h
  | cons t ts ih =>
   intro pre h;have:=ih (pre++[t]) (by rw[zFV];exact Reps.snoc h (k47_mk w t) rfl);simpa using this
 exact key ts [] (Reps.none _ _)
theorem zAJ.C {w:World} {base:Nat} {v:Value} {ts:List S47} (h:zAJ w base v ts):∃A c,v=.slice A ts.length c∧ts.length≤c∧Kd.C k47 w A ts.length ts :=
 zBY.reads ⟨flat ts,h,reps_flat w ts⟩
theorem lit_toks (W:World) (ts:List S47) (h:ts.length≤9223372036854775807):Kd.C k47 (W.alloc (.cells (flat ts).toArray 47)) (some ⟨W.heap.size,0,none⟩) ts.length ts:=by
 obtain⟨A,c,h1,h2,h3⟩:=zBY.reads (zBY.lit (R:=k47.K (W.alloc (.cells (flat ts).toArray 47))) (e:=47) W 0 (reps_flat _ ts) (kAT _) h);injection h1 with h1;rw[h1];exact h3
theorem reps_str (w:World) (xs:List ByteArray):Reps (Kd.string.K w) 1 xs (xs.map Value.string):=by
 have key:∀(ts pre:List ByteArray),Reps (Kd.string.K w) 1 pre (pre.map Value.string)→Reps (Kd.string.K w) 1 (pre++ts) ((pre++ts).map Value.string):=by
  intro ts
  induction ts with
  | nil=>intro pre h;simpa using h
  | cons t ts ih =>
   intro pre h;have:=ih (pre++[t]) (by rw[kCP];exact Reps.snoc h rfl rfl);simpa using this
 exact key xs [] (Reps.none _ _)
theorem lit_texts (W:World) (xs:List ByteArray) (h:xs.length≤9223372036854775807):Kd.C Kd.string (W.alloc (.cells (xs.map Value.string).toArray 9)) (some ⟨W.heap.size,0,none⟩) xs.length xs:=by
 obtain⟨A,c,h1,h2,h3⟩:=zBY.reads (zBY.lit (R:=Kd.string.K (W.alloc (.cells (xs.map Value.string).toArray 9))) (e:=9) W 0 (reps_str _ xs) (kAT _) h);injection h1 with h1;rw[h1];exact h3
theorem own_texts {w:World} {base:Nat} {v:Value} {xs:List ByteArray} (h:w.ownsRow base 9 1 v xs.length (xs.map Value.string)):∃A c,v=.slice A xs.length c∧xs.length≤c∧Kd.C Kd.string w A xs.length xs :=
 zBY.reads ⟨_,h,reps_str w xs⟩
theorem perm2 (ss:List (List UInt8)) (a b:List UInt8) (hab:a≠b) (h:ss.Perm [a,b]):ss=[a,b]∨ss=[b,a]:=by
 have hl:=h.length_eq
 match ss,hl with
 | [x,y],_ =>
  have hx:x ∈ [a,b]:=h.mem_iff.1 kCV;have hy:y ∈ [a,b]:=h.mem_iff.1 kCV;have ha:a ∈ [x,y]:=h.mem_iff.2 kCV;have hb:b ∈ [x,y]:=h.mem_iff.2 kCV;simp only[kAI,kB9,kCi] at hx hy ha hb;rcases hx with rfl | rfl<;>rcases hy with rfl | rfl<;>simp_all
theorem sorted2 (ss:List (List UInt8)) (h:ss.Perm [[97],[105]]):ss.length=2∧(ss.mergeSort (fun x y=>decide (x≤y))).map encStr=[.string ⟨#[97]⟩,.string ⟨#[105]⟩]:=by
 rcases perm2 ss _ _ kCW h with rfl | rfl
 ·exact⟨rfl,by simp[List.mergeSort,List.MergeSort.Internal.splitInTwo,List.merge];rfl⟩
 ·exact⟨rfl,by simp[List.mergeSort,List.MergeSort.Internal.splitInTwo,List.merge];rfl⟩
theorem toks_told (w:World):Calls Tryz.prog 15 #[.string ⟨#[97,49,43,50,123,109,47,115,125]⟩] w fun e w'=>∃A c,e=.returned (.tuple #[.slice A 4 c,.int .i64 0,.int .i64 0])∧4≤c ∧
  Kd.C k47 w' A 4 [⟨0,⟨#[97,49]⟩,0⟩,⟨4,⟨#[43]⟩,2⟩,⟨2,⟨#[50]⟩,3⟩,⟨3,⟨#[109,47,115]⟩,4⟩]∧Below w.heap.size w w':=by
 refine (zDG _ (by show 9≤2000;omega) w).mono ?_;intro e w' h;unfold zEc at h;rw[toks1] at h;have hb:badOf [⟨0,⟨#[97,49]⟩,0⟩,⟨4,⟨#[43]⟩,2⟩,⟨2,⟨#[50]⟩,3⟩,⟨3,⟨#[109,47,115]⟩,4⟩]=none:=rfl;rw[hb] at h;obtain⟨v,h1,h2,h3⟩:=h;obtain⟨A,c,rfl,h4,h5⟩:=h2.C;exact⟨A,c,h1,h4,h5,h3⟩
theorem lenA:(zA8 tA).length=5:=kCU
theorem lenB:(zA8 tB).length=7:=kCU
theorem lenC:(zA8 tC).length=7:=kCU
theorem lenD:(zA8 tD).length=7:=kCU
theorem placeE:zBV chk0 tE=2:=kCU
theorem read_told (s:ByteArray) (h:zCn s=true) (x:S31) (hr:zCb chk0 s=(x,0,0)) (hp:zBv chk0 s=.ok (x,(zA8 s).length)) (hn:zAH x≤4611686018427387904) (w:World) (hS:Start w) :
  Calls Tryz.prog 18 #[.string s] w fun e w'=>∃A c,e=.returned (.tuple #[.agg #[.int .i64 x.f0,.string x.f1.f0,.string x.f1.f1,.string x.f2,.int .i64 x.f3,.slice A x.f4.length c],.int .i64 0,.int .i64 0]) ∧
   Vw w' x (.agg #[.int .i64 x.f0,.string x.f1.f0,.string x.f1.f1,.string x.f2,.int .i64 x.f3,.slice A x.f4.length c])∧Below w.heap.size w w':=by
 have hrd:=zD1 chk0 s (zCi chk0 s h) w hS (fun _=>⟨x,hp,hn⟩);unfold zBF at hrd;rw[hr] at hrd;simp only at hrd;refine hrd.mono ?_;rintro e w1 ⟨v5,rfl,hx,hb1⟩;obtain⟨A,c,hv5,hc1,hc2⟩:=hx.vw.out;obtain rfl:=zCe hv5;exact⟨A,c,rfl,hx.vw,hb1⟩
def tokB (t:S47):List UInt8:=if t.f0=3 then 123 :: (t.f1.data.toList++[125]) else t.f1.data.toList
theorem bytes_cons {s:ByteArray} {b:Nat} (h:b<s.size):zAz s b=s[b] :: zAz s (b+1):=by
 unfold zAz;rw[kAr (show b<s.data.toList.length from h)];rfl
theorem take_run (ks:List Int) (l:List UInt8):l.take (zBb ks l)=l.takeWhile (okC ks):=by
 unfold zBb
 induction l with
 | nil=>rfl
 | cons c l ih =>
  rw[kBc];by_cases h:okC ks c=true
  ·rw[kAa h,List.length_cons,List.take_succ_cons,ih]
  ·rw[kA9 h];rfl
theorem zEm (ks:List Int) (s:ByteArray) (b:Nat):(s.extract b (b+zBb ks (zAz s b))).data.toList=(zAz s b).takeWhile (okC ks):=by
 rw[kBp,show b+zBb ks (zAz s b)-b=zBb ks (zAz s b) by omega];exact take_run ks _
theorem take_all (ks:List Int) (l:List UInt8):(l.takeWhile (okC ks)).all (okC ks)=true:=by
 induction l with
 | nil=>rfl
 | cons c l ih =>
  rw[kBc];by_cases h:okC ks c=true
  ·rw[kAa h,List.all_cons,h,ih];rfl
  ·rw[kA9 h];rfl
theorem tok_again (s:ByteArray) (b:Nat) (h:b<s.size) (hk:(zB6 s b).1.f0≠-1):Pc (tokB (zB6 s b).1) [kt (zB6 s b).1]:=by
 unfold zB6 at hk⊢;rw[kCI h] at hk⊢;by_cases h2:srt (s[b]'h).toNat=2
 ·rw[kAa h2] at hk⊢;simp only at hk⊢;have hb:(s.extract b (zBo s b)).data.toList=(zAz s b).takeWhile (okC [2,3,4]):=zEm _ s b;rw[bytes_cons h,kBc,kAa (zF6.2 (by show sr (s[b]'h)∈_;rw[show sr (s[b]'h)=2 from h2];simp))] at hb;have hn:zBQ (s.extract b (zBo s b))≠3:=by
   unfold zBQ
   repeat' split
   all_goals decide
  unfold tokB;rw[kA9 hn];exact pc_name _ _ _ hb h2 (by rw[show (s.extract b (zBo s b)).data.toList=(zAz s b).takeWhile (okC [2,3,4]) from zEm _ s b];exact take_all _ _) hk
 ·rw[kA9 h2] at hk⊢;by_cases h4:srt (s[b]'h).toNat=4
  ·rw[kAa h4] at hk⊢;simp only at hk⊢;have hb:(s.extract b (zC4 s b)).data.toList=(zAz s b).takeWhile (okC [4]):=zEm _ s b;rw[bytes_cons h,kBc,kAa (zF6.2 (by show sr (s[b]'h)∈_;rw[show sr (s[b]'h)=4 from h4];simp))] at hb;have hn:zE9 (s[b]'h).toNat (s.extract b (zC4 s b))=2∧((s[b]'h).toNat≠48∨(s.extract b (zC4 s b)).size=1)∧(s.extract b (zC4 s b)).size≤400:=by
    unfold zE9 at hk⊢;split at hk
    ·rename_i hc;exact⟨by rw[kAa hc],hc⟩
    ·exact absurd rfl hk
   unfold tokB;rw[hn.1,kA9 kCV];exact pc_num _ _ _ hb (by rw[show (s.extract b (zC4 s b)).data.toList=(zAz s b).takeWhile (okC [4]) from zEm _ s b];exact take_all _ _) hn.2.1 hn.2.2
  ·rw[kA9 h4] at hk⊢;by_cases h5:srt (s[b]'h).toNat=5
   ·rw[kAa h5];exact (zB8 _ h5).pc
   ·rw[kA9 h5] at hk⊢;by_cases h6:(s[b]'h).toNat=123∧zBc s b<s.size∧zCw (s.extract (b+1) (zBc s b))=true
    ·rw[kAa h6];exact (pf_unit _ h6.2.2).pc
    ·rw[kA9 h6] at hk;exact absurd rfl hk
theorem tok_size (s:ByteArray) (b:Nat):(zB6 s b).1.f1.size≤s.size:=by
 unfold zB6;by_cases h:b<s.size
 ·rw[kCI h]
  repeat' split
  all_goals first | (rw[kBy];omega) | exact kAT _ | (show 1≤s.size;omega)
 ·rw[dif_neg h];exact kAT _
theorem toksF_all (P:S47→Prop) (s:ByteArray) (hP:∀b,b<s.size→P (zB6 s b).1):∀(n a:Nat),∀t∈zBZ n s a,P t:=by
 intro n
 induction n with
 | zero=>intro a t ht;cases ht
 | succ n ih =>
  intro a t ht;unfold zBZ at ht;by_cases hb:zAv s a<s.size
  ·rw[kAa hb] at ht;by_cases hk:(zB6 s (zAv s a)).1.f0=-1
   ·rw[kAa hk,kBu] at ht;rw[ht];exact hP _ hb
   ·rw[kA9 hk,kAI] at ht;rcases ht with rfl | ht
    ·exact hP _ hb
    ·exact ih _ t ht
  ·rw[kA9 hb] at ht;cases ht
theorem all_small (s:ByteArray):∀t∈zA8 s,t.f1.size≤s.size:=toksF_all _ s (fun b _=>tok_size s b) _ _
theorem all_again (s:ByteArray):∀t∈zA8 s,t.f0≠-1→Pc (tokB t) [kt t]:=toksF_all (fun t=>t.f0≠-1→Pc (tokB t) [kt t]) s (fun b h hk=>tok_again s b h hk) _ _
theorem toksF_few (s:ByteArray):∀(n a:Nat),a≤s.size→(∀t∈zBZ n s a,t.f0≠-1)→(zBZ n s a).length+a≤s.size:=by
 intro n
 induction n with
 | zero=>intro a ha _;simpa[zBZ] using ha
 | succ n ih =>
  intro a ha hg;unfold zBZ at hg⊢;by_cases hb:zAv s a<s.size
  ·rw[kAa hb] at hg⊢;by_cases hk:(zB6 s (zAv s a)).1.f0=-1
   ·rw[kAa hk] at hg;exact absurd hk (hg _ (kBu.2 rfl))
   ·rw[kA9 hk] at hg⊢;have hm:=zDI s _ hb hk;have h1:=ih _ hm.2 (fun t ht=>hg t (kAK _ ht));have:a≤zAv s a:=Nat.le_add_right _ _;rw[List.length_cons];omega
  ·rw[kA9 hb];simpa using ha
theorem all_few (s:ByteArray) (h:∀t∈zA8 s,t.f0≠-1):(zA8 s).length≤s.size:=by
 have:=toksF_few s _ 0 (kAT _) h;rw[Nat.add_zero] at this;exact this
theorem readT_all (s:ByteArray) (h:s.size≤2000):ReadT chkR s:=by
 have hl:=zDs (s.size+1) s 0;have hl2:(zA8 s).length≤100000:=by unfold zA8;omega
 refine⟨h,hl2,fun t ht=>kAB (all_small s t ht) h,fun W0 R B E hS=>?_⟩;exact pars_all W0 R B (zA8 s) s.size E hS _ 0 kCT
theorem st_ends (ts:List S47) (en:Nat):Ends (stOf ts en) ts.length:=⟨fun i hi=>by
 unfold stOf tokP;rw[dif_neg kCT]⟩
theorem st_at (ts:List S47) (en i:Nat) (h:i<ts.length):stOf ts en i=kt ts[i]:=by
 unfold stOf tokP;rw[kCI h]
theorem st_end (ts:List S47) (en:Nat):stOf ts en ts.length=(-1,⟨#[]⟩):=by
 unfold stOf tokP;rw[dif_neg kCT]
theorem sees_of (ts:List S47) (en:Nat):∀(l:List Tk) (n:Nat),(ts.drop n).map kt=l→Sees (stOf ts en) n l:=by
 intro l
 induction l with
 | nil=>intro n _;trivial
 | cons t l ih =>
  intro n h;have hn:n<ts.length:=by
   by_cases hn:n<ts.length
   ·exact hn
   ·rw[kBx kCT] at h;cases h
  rw[kAr hn,kAo] at h;injection h with h1 h2;exact⟨by rw[st_at ts en n hn];exact h1,ih (n+1) h2⟩
theorem read_toks {b:ByteArray} {x:S31} (hok:OkX x) (h:(zA8 b).map kt=zAm x):zBv chkR b=.ok (x,(zA8 b).length):=by
 unfold zBv;rw[← exprI_of];generalize zA8 b=ts at *;have hE:=st_ends ts b.size;have hr:=(reads_all hE (show ts.length<ts.length+1 by omega) _ x (kA2 _) hok).2 (ts.length+1) 0 kCT (by rw[zC1];exact sees_of ts b.size _ 0 kDy);have hl:(zAm x).length=ts.length:=by rw[← h];simp
 rw[zC1,hl,kAH] at hr;rw[hr (by rw[st_end];exact ns_end)];rfl
theorem read_par {b:ByteArray} {x:S31} (hok:OkX x) (h:(zA8 b).map kt=sgTk 40 :: sgTk 40 :: (zAm x++[sgTk 41,sgTk 41])):zBv chkR b=.ok (x,(zA8 b).length):=by
 unfold zBv;rw[← exprI_of];generalize zA8 b=ts at *;have hE:=st_ends ts b.size;obtain⟨s0,s1,s2⟩:=sees_of ts b.size _ 0 kDy;obtain⟨s3,s4,s5,_⟩:=(zBt _ _ _).1 s2;have hl:ts.length=(zAm x).length+4:=by have:=congrArg List.length h;simpa using this
 have hend:stOf ts b.size (0+1+1+(zAm x).length+1+1)=(-1,⟨#[]⟩):=by
  rw[show 0+1+1+(zAm x).length+1+1=ts.length by omega];exact st_end _ _
 obtain⟨K,hK⟩:∃K,ts.length+1=K+1+1:=⟨ts.length-1,kCT⟩;have hr:=(reads_all hE (show ts.length<ts.length+1 by omega) _ x (kA2 _) hok).2 K (0+1+1) kCT (by rw[zC1];exact s3) (by rw[zC1,s4];exact ns_sg 41 kCW);rw[zC1] at hr;have in1:=up10 (up21 (up32 (up43 (par_elem (L:=ts.length+1) (chk:=chkR) s1 hr s4) (by rw[s5];exact np_sg 41 kCW))) (by rw[s5];exact nd_sg 41 kCW) (by rw[s1];exact .inr (.inr (.inl rfl)))) (by rw[s5];exact ns_sg 41 kCW) (by rw[s1];exact .inl (.inr (.inr (.inl rfl))));have in0:=up10 (up21 (up32 (up43 (par_elem (L:=ts.length+1) (chk:=chkR) s0 in1 s5) (by rw[hend];exact ns_end.toNP)))
  (by rw[hend];exact ns_end.toND) (by rw[s0];exact .inr (.inr (.inl rfl)))) (by rw[hend];exact ns_end) (by rw[s0];exact .inl (.inr (.inr (.inl rfl))))
 rw[← hK] at in0;rw[in0];show Except.ok _=_;rw[show 0+1+1+(zAm x).length+1+1=ts.length by omega]
theorem readS_ok {b:ByteArray} {x:S31} (h:zBv chkR b=.ok (x,(zA8 b).length)) (hd:zAC x≤30):zCb chkR b=(x,0,0):=by
 unfold zCb zBV;rw[h];simp only[if_true];rw[kA9 kCW,kA9 kCT]
inductive Wd:List S47→ByteArray→Prop
 | nil:Wd [] ⟨#[]⟩
 | snoc {l:List S47} {b:ByteArray} (h:Wd l b) (t:S47) (k:Nat) (hk:1≤k) (b':ByteArray) (hb:b'.data.toList=b.data.toList++(List.replicate k 32++tokB t)):Wd (l++[t]) b'
theorem pf_blanks:∀k,Pf (List.replicate k 32) []
 | 0=>pf_nil
 | k+1=>by
  rw[List.replicate_succ];exact zC2 (b:=[32]) (l:=[]) zBf (pf_blanks k)
theorem wd_toks {ts:List S47} {b:ByteArray} (h:Wd ts b) (ha:∀t∈ts,Pc (tokB t) [kt t]):Pc b.data.toList (ts.map kt):=by
 induction h with
 | nil=>exact pf_nil.pc
 | snoc h t k hk b' hb ih =>
  have h1:=ih (fun t ht=>ha t (kCk _ ht));have h2:=ha t kCV;obtain⟨k,rfl⟩:∃j,k=j+1:=⟨k-1,kCT⟩;rw[hb,kCP,List.replicate_succ,← kAV];exact zBJ (zBK (l:=_) (m:=[]) h1 (zC2 (b:=[32]) (l:=[]) zBf (pf_blanks k)) kCY |> fun h=>by simpa using h) h2
theorem lit_three (W:World) (R:Nat) (hR:R<W.heap.size):Nums (W.alloc (.cells #[.int .i64 1,.int .i64 1,.int .i64 3] 3)) R ⟨W.heap.size,0,none⟩ [1,1,3]:=by
 refine⟨fun i hi=>?_,kAq hR⟩;have hn:=zA4 W (.cells #[.int .i64 1,.int .i64 1,.int .i64 3] 3)
 match i,hi with
 | 0,_=>exact zA1 hn 0
 | 1,_=>exact zA1 hn 1
 | 2,_=>exact zA1 hn 2
theorem Blanked_calls (R N base:Nat) (A:Option Addr) (c:Nat) (ts:List S47) (w:World) (hR:Rod w R N) (hN:N+2*ts.length≤1000000) (ho:zAJ w base (.slice A ts.length c) ts) (hb:R<base) (hl:ts.length≤1000) (hs:∀t∈ts,t.f1.size≤1000) :
  Calls Tryz.prog 21 #[.pointer (some ⟨R,0,none⟩),.slice A ts.length c] w fun e w'=>∃b,e=.returned (.string b)∧Wd ts b∧b.size≤ts.length*1005∧w.grownBy w' (some R):=by
 have HO:=kA1 ho;have HS:=kA1 hs;have htk:ts.take ts.length=ts:=kB1;have HT:=kA1 htk;clear ho hs htk;go_enter Tryz.func21,Tryz.ntmps21;go_wp2_with fail;go_loopg [5,6] ts.length (fun k v5 v6 wr=>∃(j:Nat) (b:ByteArray),v5=.string b∧v6=.int .i64 j∧j+k=ts.length∧Hid (Wd (ts.take j) b)∧b.size≤j*1005∧Rod wr R (N+2*j)∧Hid (w.grownBy wr (some R)))
 case atStart=>exact⟨0,⟨#[]⟩,rfl,rfl,kCT,kA1 .nil,kCW,hR,kA1 (kAF _ _)⟩
 case round =>
  clear hR;obtain⟨j,b,rfl,rfl,hj,hW,hbz,hr,hg⟩:=hrel;by_cases hjl:j<ts.length
  ·have hp:=zCH R (N+2*j) ⟨wr.heap.size,0,none⟩ [1,1,3] _ (hr.below ((kA3 _ wr).alloc (kA2 _) (.cells #[.int .i64 1,.int .i64 1,.int .i64 3] 3))) kCT (lit_three wr R hr.lt) kCW kCW;go_wp2_with fail;refine hp.mono ?_;rintro e w1 ⟨⟨x,rfl,hx⟩,r1,g1⟩;have hx2:1≤x∧x≤3:=by simp at hx;omega
   have hf:=zCh R (N+2*j+1) 1 x w1 r1 kCT kCT kCT kCT;clear hp hx;go_wp2_with fail;refine hf.mono ?_;rintro e w2 ⟨⟨y,rfl,hy0,hy1⟩,r2,g2⟩;clear hf;have hg2:=kA1 (kA6 hg.out (kA6 (kA6 (kAC wr _ (some R)) g1) g2));clear g1 g2 hr r1 hg;obtain⟨g,c',he,c0,c1,c2⟩:=(HO.out.kept hb hg2.out).cells hjl;injection he with hA _ hc';subst hc';subst hA;have hts:=HS.out ts[j] (kAA hjl);have htk:=kA1 (zCC ts j hjl);generalize ts[j]=t at *;have hbb:b.size≤1005000:=kCT
   obtain⟨G,hG1,hG2⟩:∃G,G<gk∧j+1+G=ts.length:=⟨gk-1,kCT,kCT⟩;go_wp2_with fail;go_loopg [5,7] y.toNat (fun k v5 v7 wr=>∃(i:Nat) (z:Int) (b':ByteArray),v5=.string b'∧v7=.int .i64 z∧0≤z∧z+i=y∧i+k=y.toNat∧Hid (b'.data.toList=b.data.toList++List.replicate i 32)∧b'.size≤b.size+i∧Hid (wr=w2))
   case atStart=>exact⟨0,y,b,rfl,rfl,kCT,kCT,kCT,kA1 kCV,kCT,kA1 rfl⟩
   case round =>
    obtain⟨i,z,b',rfl,rfl,hz,hzi,hik,hB,hbz',hwr⟩:=hrel;by_cases h0:0<z
    ·have hd:decide (0<z)=true:=kA7 h0;have hsz:(b'++(⟨#[32]⟩:ByteArray)).size=b'.size+1:=by simp;rfl
     go_wp2_with fail;go_roundg (gk-1)
     case measure=>omega
     case rel=>exact⟨i+1,z-1,_,rfl,by go_num,kCT,kCT,kCT,kA1 (by rw[zAl,hB.out,List.replicate_succ',kAV]),by rw[hsz];omega,hwr⟩
    ·have hd:decide (0<z)=false:=kA8 h0;obtain rfl:i=y.toNat:=kCT
     have hwr':=hwr.out;subst hwr';have hW2:∀b2:ByteArray,b2.data.toList=b'.data.toList++tokB t→Wd (ts.take (j+1)) b2:=fun b2 e=>by
      rw[htk.out];exact .snoc hW.out t y.toNat kCT b2 (by rw[e,hB.out,kAV])
     have HW2:=kA1 hW2;clear hW2;by_cases h3:t.f0=3
     ·have h3':(t.f0==3)=true:=by rw[kAx];exact h3
      have hT3:Hid (tokB t=123 :: (t.f1.data.toList++[125])):=kA1 (by unfold tokB;rw[kAa h3]);clear h3;have hsz:(b'++(⟨#[123]⟩:ByteArray)++t.f1++⟨#[125]⟩).size=b'.size+1+t.f1.size+1:=by simp;rfl
      have hw:=HW2.out (b'++(⟨#[123]⟩:ByteArray)++t.f1++⟨#[125]⟩) (by rw[hT3.out,zAl,zAl,zAl];simp);have HWW:=kA1 hw;have HSZ:=kA1 hsz;clear hw hsz;go_wp2_with fail;go_roundg G
      case measure=>exact hG1
      case rel=>exact⟨j+1,_,rfl,by go_num,hG2,HWW,by have:=HSZ.out;omega,by rw[show N+2*(j+1)=N+2*j+1+1 by omega];exact r2,hg2⟩
     ·have h3':(t.f0==3)=false:=by rw[kAd];exact h3
      have hT3:Hid (tokB t=t.f1.data.toList):=kA1 (by unfold tokB;rw[kA9 h3]);clear h3;have hsz:(b'++t.f1).size=b'.size+t.f1.size:=kCV
      have hw:=HW2.out (b'++t.f1) (by rw[hT3.out,zAl]);have HWW:=kA1 hw;have HSZ:=kA1 hsz;clear hw hsz;go_wp2_with fail;go_roundg G
      case measure=>exact hG1
      case rel=>exact⟨j+1,_,rfl,by go_num,hG2,HWW,by have:=HSZ.out;omega,by rw[show N+2*(j+1)=N+2*j+1+1 by omega];exact r2,hg2⟩
  ·obtain rfl:j=ts.length:=kCT
   go_wp2;go_ret;exact⟨b,rfl,by have:=hW.out;rwa [HT.out] at this,hbz,hg.out⟩
end Go.Proofs.YtjaobihcdkjmbaaGreatDoor
end
section
namespace Go.Proofs.YtjaobihcdkjmbaaGreatDoor
open Go.RowKit Go.Maps Go.Sort Go.Proofs.YtjaobihcdkjmbaaGreatDoorW.PrintWords Go.Proofs.YtjaobihcdkjmbaaGreatDoor.PReadTokens
theorem zEU (x:S31) (h:chkE x=0) (hn:zAH x≤4611686018427387904) (hsz:szB x=true) (v:Value) (w:World) (hv:Vw w x v) (hS:Start w) :
  Calls Tryz.prog 27 #[v] w fun e w'=>e=.returned (.int .i64 0)∧Below w.heap.size w w':=by
 have:=zGc x hn hsz v w hv hS
 rwa [h] at this
theorem Free_calls (x:S31) (hc0:chkE x=0) (hn:zAH x≤1000000000) (hsz:szB x=true) (hsm:zDv x=true) (v:Value) (w:World) (hv:Vw w x v) (hS:Start w) :
  Calls Tryz.prog 33 #[v] w fun e w'=>∃(u:Value) (ss:List (List UInt8)) (base:Nat),e=.returned (.tuple #[u,.int .i64 0])∧ss.Perm (strKeys (zEv x))∧w'.ownsRow base 9 1 u ss.length ((ss.mergeSort (fun x y=>decide (x≤y))).map encStr)∧w.heap.size≤base∧Below w.heap.size w w':=by
 obtain⟨A,c,rfl,hc1,hc2⟩:=hv.out;have hck:=fun w' (hb:Below w.heap.size w w')=>zEU x hc0 kCT hsz _ w' (hv.below hb) (hS.below hb)
 have hfr:=fun w' (hb:Below w.heap.size w w')=>freeG_calls _ x (kA2 _) kCT hsm _ w' (hv.below hb)
 generalize zEv x=D at *;generalize zAH x=nn at *;obtain⟨f0,f1,f2,f3,xs⟩:=x;simp only at *;unfold exV at *;simp only at *;have HC:=kA1 hck;have HT:=kA1 hfr;clear hck hfr hv hS hc2 hc0 hsz hsm;go_enter Tryz.func33,Tryz.ntmps33;go_wp2_with fail;have hb0:=(kA3 _ w).alloc (kA2 _) (.cells #[.int .i64 f0,.string f1.f0,.string f1.f1,.string f2,.int .i64 f3,.slice A xs.length c] 31);have hbl:=zA4 w (.cells #[.int .i64 f0,.string f1.f0,.string f1.f1,.string f2,.int .i64 f3,.slice A xs.length c] 31);refine (HC.out _ hb0).mono ?_;rintro e w1 ⟨rfl,hb1⟩;have hbl1:=zA9 hb1 hbl;obtain⟨⟨q0,q1,q2,q3,q4,q5⟩,_,xl⟩:=zA6 hbl1;have hbw:=hb0.trans (hb1.mono kCV);clear hbl hbl1;go_wp2_with fail;refine (HT.out _ hbw).mono ?_;rintro e w2 ⟨b,rfl,hge,hm,hb2⟩;have hbx:=hbw.trans (hb2.mono hbw.size);have hnm:=names_calls b nn D w2 hm hn;unfold zGb at hnm;have HN:=kA1 hnm;clear hnm hm;go_wp2_with fail;refine HN.out.mono ?_;rintro e w3 ⟨u,ss,rfl,hp,hrow,hnil,hb3⟩;have HP:=kA1 hp;have HR:=kA1 hrow;clear hp hrow hnil;go_wp2;refine kAi (results_tmp2 rfl _ _ _) rfl ⟨u,ss,w2.heap.size+1,rfl,HP.out,HR.out,by have:=hbx.size;omega,hbx.trans (hb3.mono hbx.size)⟩
theorem Size_calls (x:S31) (hc0:chkE x=0) (hn:zAH x≤4611686018427387904) (hsz:szB x=true) (v:Value) (w:World) (hv:Vw w x v) (hS:Start w) :
  Calls Tryz.prog 35 #[v] w fun e w'=>e=.returned (.tuple #[.int .i64 (zAH x),.int .i64 (zAC x),.int .i64 0])∧Below w.heap.size w w':=by
 obtain⟨A,c,rfl,hc1,hc2⟩:=hv.out;have hck:=fun w' (hb:Below w.heap.size w w')=>zEU x hc0 hn hsz _ w' (hv.below hb) (hS.below hb)
 have hdp:=fun w' (hb:Below w.heap.size w w')=>zET _ x (kA2 _) hn _ w' (hv.below hb)
 generalize zAC x=dd at *;generalize zAH x=nn at *;obtain⟨f0,f1,f2,f3,xs⟩:=x;simp only at *;unfold exV at *;simp only at *;have HC:=kA1 hck;have HT:=kA1 hdp;clear hck hdp hv hS hc2 hc0 hsz;go_enter Tryz.func35,Tryz.ntmps35;go_wp2_with fail;have hb0:=(kA3 _ w).alloc (kA2 _) (.cells #[.int .i64 f0,.string f1.f0,.string f1.f1,.string f2,.int .i64 f3,.slice A xs.length c] 31);have hbl:=zA4 w (.cells #[.int .i64 f0,.string f1.f0,.string f1.f1,.string f2,.int .i64 f3,.slice A xs.length c] 31);refine (HC.out _ hb0).mono ?_;rintro e w1 ⟨rfl,hb1⟩;have hbl1:=zA9 hb1 hbl;obtain⟨⟨q0,q1,q2,q3,q4,q5⟩,_,xl⟩:=zA6 hbl1;have hbw:=hb0.trans (hb1.mono kCV);clear hbl hbl1;go_wp2_with fail;refine (HT.out _ hbw).mono ?_;rintro e w2 ⟨rfl,hb2⟩;have hbx:=hbw.trans (hb2.mono hbw.size);go_wp2
 go_quiet (fail)
 go_wp2;refine kAi (results_tmp3 rfl _ _ _) rfl ⟨rfl,?_⟩;have h9:=hbx.alloc hbx.size (.cells #[.int .i64 nn,.int .i64 dd] 100)
 first | exact zA3 h9 _ | exact h9.drew | exact h9
end Go.Proofs.YtjaobihcdkjmbaaGreatDoor
end
section
namespace Go.Proofs.YtjaobihcdkjmbaaGreatDoor
open Go.RowKit Go.Proofs.YtjaobihcdkjmbaaGreatDoorW.PrintWords Go.Proofs.YtjaobihcdkjmbaaGreatDoor.PReadTokens
def NG (l:List Tk):Prop:=∀t∈l,t.1≠-1
theorem zE3:NG []:=fun t h=>by cases h
theorem zCc {t:Tk} {l:List Tk} (h:t.1≠-1) (hl:NG l):NG (t :: l):=fun u hu=>by
 rcases kAI.1 hu with rfl | hu
 ·exact h
 ·exact hl u hu
theorem ng_app {a b:List Tk} (ha:NG a) (hb:NG b):NG (a++b):=fun u hu=>by
 rcases kC2.1 hu with hu | hu
 ·exact ha u hu
 ·exact hb u hu
theorem sg_k (c:UInt8):(sgTk c).1≠-1:=by show (4:Int)≠-1;decide
theorem ng_if {c:Prop} [Decidable c] {a b:List Tk} (ha:NG a) (hb:NG b):NG (if c then a else b):=by
 by_cases h:c
 ·rw[kAa h];exact ha
 ·rw[kA9 h];exact hb
theorem ng_par {t:List Tk} (h:NG t) (lv want:Int):NG (zDj lv want t):=by
 unfold zDj;split
 ·exact zCc (sg_k 40) (ng_app h (zCc (sg_k 41) zE3))
 ·exact h
theorem ng_join:∀ls:List (List Tk),(∀l∈ls,NG l)→NG (zBH ls)
 | [],_=>zE3
 | [t],h=>h t kCV
 | t :: u :: ts,h=>by
  unfold zBH;exact ng_app (h t kCV) (zCc (sg_k 44) (ng_join (u :: ts) (fun l hl=>h l (kAK _ hl))))
theorem ng_size (n:Int):NG (zBs n):=by
 unfold zBs;split
 ·exact zCc (sg_k 45) (zCc kDB zE3)
 ·exact zCc kDB zE3
theorem ng_lit (num:S28) (name:ByteArray):NG (litTk num name):=by
 unfold litTk;refine zCc kDB (ng_app ?_ ?_)
 ·split
  ·exact zE3
  ·exact zCc (sg_k 124) (zCc kDB zE3)
 ·split
  ·exact zE3
  ·exact zCc (by show (3:Int)≠-1;decide) zE3
theorem ng_open:∀(d:Nat) (x:S31),zAC x≤d→NG (zAm x):=by
 intro d
 induction d with
 | zero=>intro x h;rw[zAr] at h;omega
 | succ d ih =>
  intro x hd;rw[zAr] at hd;have hm:∀y∈x.f4,NG (zAm y):=fun y hy=>ih y (by have:=zB7 hy;omega)
  have ha:∀(i:Nat) (want:Int),NG (zBp (zBX x.f4) i want):=fun i want=>by
   unfold zBp;refine ng_par ?_ _ _;by_cases hi:i<x.f4.length
   ·rw[getD_args _ i hi];exact hm _ (kAA hi)
   ·have hl:∀l:List S31,(zBX l).length=l.length:=fun l=>by
     induction l with
     | nil=>rfl
     | cons y l ih=>unfold zBX;simp[ih]
    rw[kAW,kCe (by rw[hl];omega)];exact zE3
  have hj:NG (zBH ((zBX x.f4).map fun p=>zDj p.1 0 p.2)):=by
   rw[zDU];refine ng_join _ (fun l hl=>?_);obtain⟨y,hy,rfl⟩:=List.mem_map.1 hl;rw[zC1];exact hm y hy
  have k0:∀b:ByteArray,((0,b):Tk).1≠-1:=fun b=>by show (0:Int)≠-1;decide
  have k1:∀b:ByteArray,((1,b):Tk).1≠-1:=fun b=>by show (1:Int)≠-1;decide
  rw[zD8];unfold openTOk
  repeat' first
    | exact ng_lit _ _
    | exact zE3
    | exact ng_size _
    | exact ha _ _
    | exact hj
    | refine zCc (sg_k _) ?_
    | refine zCc (k0 _) ?_
    | refine zCc (k1 _) ?_
    | refine ng_app ?_ ?_
    | with_reducible refine ng_if ?_ ?_
theorem zFx (x:S31) (h:OkX x):∀t∈zA8 (zBl x),t.f0≠-1:=fun t ht=>by
 have h1:=ng_open _ x (kA2 _) (kt t) (by rw[← toks_open x h];exact List.mem_map_of_mem ht);exact h1
theorem text_bad (x:S31) (h:OkX x):badOf (zA8 (zBl x))=none:=zEV (fun t ht=>by rw[kAd];exact zFx x h t ht)
theorem text_few (x:S31) (h:OkX x):(zA8 (zBl x)).length≤(zBl x).size:=all_few _ (zFx x h)
theorem wide_parse (x:S31) (h:OkX x) (b:ByteArray) (hb:Wd (zA8 (zBl x)) b):zBv chkR b=.ok (x,(zA8 b).length) :=
 read_toks h ((toks_of (wd_toks hb (fun t ht=>all_again _ t ht (zFx x h t ht)))).trans (toks_open x h))
theorem par_parse (x:S31) (h:OkX x) (b:ByteArray) (hb:b.data.toList=40 :: 40 :: ((zBl x).data.toList++[32,41,32,41])):zBv chkR b=.ok (x,(zA8 b).length):=by
 refine read_par h (toks_of ?_);rw[hb];have h1:Pf ((zBl x).data.toList++[32,41,32,41]) (zAm x++[sgTk 41,sgTk 41]) :=
  zBK (pc_open _ x (kA2 _) h) (zC2 (b:=[32]) (l:=[]) zBf (zC2 (b:=[41]) (l:=[sgTk 41]) (zB8 41 kCW) (zC2 (b:=[32]) (l:=[]) zBf (zB8 41 kCW)))) kCY
 exact (zC2 (b:=[40]) (l:=[sgTk 40]) (zB8 40 kCW) (zC2 (b:=[40]) (l:=[sgTk 40]) (zB8 40 kCW) h1)).pc
theorem okRef (n:ByteArray) (h:zC0 n=true):OkX (refX n):=ok_of (.inr (.inl ⟨rfl,rfl,h,rfl,rfl⟩)) (fun a h=>by cases h)
theorem okLit (n:ByteArray) (h1:chkR ⟨n,⟨#[49]⟩⟩=0) (h2:negB n=false):OkX ⟨0,⟨n,⟨#[49]⟩⟩,⟨#[]⟩,0,[]⟩:=ok_of (.inl ⟨rfl,h1,h2,.inl rfl,rfl,rfl⟩) (fun a h=>by cases h)
theorem okTwo (op:Int) (h:op=3∨op=4∨op=5∨op=6∨op=9) (a b:S31) (ha:OkX a) (hb:OkX b):OkX (twoX op a b) :=
 ok_of (.inr (.inr (.inr (.inl ⟨h,rfl,rfl,rfl,rfl⟩)))) (fun x hx=>by simp only[kAI,kB9,kCi] at hx;rcases hx with rfl | rfl;exact ha;exact hb)
theorem chkA:chkE xA=0:=(zG4 xA).2 ⟨okTwo 3 kCV _ _ (okLit _ kCU kCU) (okTwo 5 kCV _ _ (okRef _ kCU) (okLit _ kCU kCU)),by rw[zDq.2.1];omega⟩
theorem chkB:chkE xB=0:=(zG4 xB).2 ⟨okTwo 9 kCV _ _ (ok_of (.inr (.inr (.inr (.inr (.inr (.inr (.inr (.inr (.inr ⟨rfl,rfl,kCU,rfl,kCW⟩))))))))) (fun x hx=>by simp only[kAI,kB9,kCi] at hx;rw[hx];exact okRef _ kCU)) (okRef _ kCU),by rw[zDq.2.2.2.1];omega⟩
theorem chkC:chkE xC=0:=(zG4 xC).2 ⟨ok_of (.inr (.inr (.inl ⟨rfl,rfl,rfl,rfl,rfl⟩))) (fun x hx=>by
 simp only[kAI,kB9,kCi] at hx;rw[hx];exact okTwo 5 kCV _ _ (okRef _ kCU) (ok_of (.inr (.inr (.inr (.inr (.inl ⟨rfl,rfl,rfl,kCW,rfl⟩))))) (fun x hx=>by simp only[kAI,kB9,kCi] at hx;rw[hx];exact okRef _ kCU))),by rw[zDq.2.2.2.2.2.1];omega⟩
theorem chkD:chkE xD=0:=(zG4 xD).2 ⟨okTwo 4 kCV _ _ (okRef _ kCU) (okTwo 4 kCV _ _ (okRef _ kCU) (okRef _ kCU)),by rw[zDq.2.2.2.2.2.2.2];omega⟩
theorem szsA:szB xA=true:=kCU
theorem szsB:szB xB=true:=kCU
theorem szsC:szB xC=true:=kCU
theorem szsD:szB xD=true:=kCU
theorem smB:zDv xB=true:=kCU
theorem keysG:strKeys (zEv xB)=[[97],[105]]:=kCU
theorem PrintExpr2 (x:S31) (hc:chkE x=0) (hn:zAH x≤4611686018427387904) (hsz:szB x=true) (htx:txtB x=true) (hlen:(zAy x 0).size≤2000) (v:Value) (w:World) (hv:Vw w x v) (hS:Start w) (hT:Tab w) :
  Calls Tryz.prog 20 #[v] w fun e w'=>e=.returned (.tuple #[.string (zAy x 0),.int .i64 0])∧Below w.heap.size w w':=by
 obtain⟨A,c,rfl,hc1,hc2⟩:=hv.out;have hck:=fun w' (hb:Below w.heap.size w w')=>zEU x hc hn hsz _ w' (hv.below hb) (hS.below hb)
 have htt:=fun w' (hb:Below w.heap.size w w')=>text_calls _ x (kA2 _) htx 0 _ w' (hv.below hb) (hT.below hb)
 have hbig:decide (2000<((zAy x 0).size:Int))=false:=kA8 kCT;clear htx;generalize zAy x 0=r at *;obtain⟨f0,f1,f2,f3,xs⟩:=x;simp only at *;unfold exV at *;simp only at *;have HC:=kA1 hck;have HT:=kA1 htt;clear hck htt hv hS hc2 hc hsz hn hT;go_enter Tryz.func20,Tryz.ntmps20;go_wp2_with fail;have hb0:=(kA3 _ w).alloc (kA2 _) (.cells #[.int .i64 f0,.string f1.f0,.string f1.f1,.string f2,.int .i64 f3,.slice A xs.length c] 31);have hbl:=zA4 w (.cells #[.int .i64 f0,.string f1.f0,.string f1.f1,.string f2,.int .i64 f3,.slice A xs.length c] 31);refine (HC.out _ hb0).mono ?_;rintro e w1 ⟨rfl,hb1⟩;have hbl1:=zA9 hb1 hbl;obtain⟨⟨q0,q1,q2,q3,q4,q5⟩,_,xl⟩:=zA6 hbl1;have hbw:=hb0.trans (hb1.mono kCV);clear hbl hbl1;go_wp2_with fail;refine (HT.out _ hbw).mono ?_;rintro e w2 ⟨rfl,hb2⟩;go_wp2;refine kAi (results_tmp2 rfl _ _ _) rfl ⟨rfl,hbw.trans (hb2.mono hbw.size)⟩
theorem shown2 (chk:S28→Int) (s:ByteArray) (h:Readable chk s) (x:S31) (hr:zCb chk s=(x,0,0)) (hp:zBv chk s=.ok (x,(zA8 s).length)) (hc:chkE x=0) (hn:zAH x≤4611686018427387904) (hsz:szB x=true) (htx:txtB x=true) (hlen:(zAy x 0).size≤2000)
  (w:World) (hS:Start w) (hT:Tab w) :
  Calls Tryz.prog 44 #[.string s] w fun e w'=>e=.returned (.string (zAy x 0))∧Below w.heap.size w w':=by
 have hrd:=zD1 chk s h w hS (fun _=>⟨x,hp,hn⟩);unfold zBF at hrd;rw[hr] at hrd;simp only at hrd;have hpr:=fun v w' (hb:Below w.heap.size w w') (hv:Vw w' x v)=>PrintExpr2 x hc hn hsz htx hlen v w' hv (hS.below hb) (hT.below hb)
 generalize zAy x 0=r at *;have HP:=kA1 hpr;clear hpr h hr hp hc hsz htx hS hT;go_enter Tryz.func44,Tryz.ntmps44;go_wp2_with fail;refine hrd.mono ?_;rintro e w1 ⟨v5,rfl,hx,hb1⟩;obtain⟨A,c,hv5,hc1,hc2⟩:=hx.vw.out;obtain rfl:=zCe hv5;have hvw:=hx.vw;have HX:=kA1 hvw;clear hx hvw hv5 hc2;have hex:exV x (.slice A x.f4.length c)=.agg #[.int .i64 x.f0,.string x.f1.f0,.string x.f1.f1,.string x.f2,.int .i64 x.f3,.slice A x.f4.length c]:=rfl;rw[hex] at HX⊢;have hb2:=hb1.alloc hb1.size (.cells #[.int .i64 x.f0,.string x.f1.f0,.string x.f1.f1,.string x.f2,.int .i64 x.f3,.slice A x.f4.length c] 31);go_wp2_with fail;refine (HP.out _ _ hb2 (HX.out.below ((kA3 _ w1).alloc (kA2 _) _))).mono ?_;rintro e w2 ⟨rfl,hb3⟩;go_wp2;go_ret;exact⟨rfl,hb2.trans (hb3.mono hb2.size)⟩
theorem free_told2 (v:Value) (w:World) (hv:Vw w xB v) (hS:Start w) :
  Calls Tryz.prog 33 #[v] w fun e w'=>∃A c,e=.returned (.tuple #[.slice A 2 c,.int .i64 0])∧2≤c∧Kd.C Kd.string w' A 2 [⟨#[97]⟩,⟨#[105]⟩]∧Below w.heap.size w w':=by
 refine (Free_calls xB chkB (by rw[zDq.2.2.1];omega) szsB smB v w hv hS).mono ?_;rintro e w' ⟨u,ss,base,rfl,hp,ho,_,hb⟩;rw[keysG] at hp;obtain⟨h1,h2⟩:=sorted2 ss hp;rw[h1,h2] at ho;obtain⟨A,c,rfl,h4,h5⟩:=own_texts (xs:=[⟨#[97]⟩,⟨#[105]⟩]) ho;exact⟨A,c,rfl,h4,h5,hb⟩
theorem zDh (w:World) (hS:Start w) (hT:Tab w):Calls Tryz.prog 10 #[] w fun e w'=>e=.returned (.bool true)∧Below w.heap.size w w':=by
 have H1:=kA1 (toks_told);have HRA:=kA1 (fun w (hS:Start w)=>read_told tA plainA xA readA (by rw[lenA];exact parseA chk0) (by rw[zDq.1];omega) w hS);have HRB:=kA1 (fun w (hS:Start w)=>read_told tB plainB xB readB (by rw[lenB];exact parseB chk0) (by rw[zDq.2.2.1];omega) w hS);have HSZ:=kA1 (fun v w (hv:Vw w xA v) (hS:Start w)=>(by simpa[zDq.1,zDq.2.1] using Size_calls xA chkA (by rw[zDq.1];omega) szsA v w hv hS:Calls Tryz.prog 35 #[v] w fun e w'=>e=.returned (.tuple #[.int .i64 5,.int .i64 3,.int .i64 0])∧Below w.heap.size w w'));have HFR:=kA1 (fun v w (hv:Vw w xB v) (hS:Start w)=>free_told2 v w hv hS);have HSC:=kA1 (fun w (hS:Start w) (hT:Tab w)=>(by rw[← textC];exact shown2 chk0 tC (zCi chk0 _ plainC) xC readC (by rw[lenC];exact parseC chk0) chkC (by rw[zDq.2.2.2.2.1];omega) szsC txtC (by rw[textC];show 9≤2000;omega) w hS hT:Calls Tryz.prog 44 #[.string tC] w fun e w'=>e=.returned (.string ⟨#[45,97,32,42,32,98,94,45,50]⟩)∧Below w.heap.size w w'));have HSD:=kA1 (fun w (hS:Start w) (hT:Tab w)=>(by rw[← textD];exact shown2 chk0 tD (zCi chk0 _ plainD) xD readD (by rw[lenD];exact parseD chk0) chkD (by rw[zDq.2.2.2.2.2.2.1];omega) szsD txtD (by rw[textD];show 11≤2000;omega) w hS hT:Calls Tryz.prog 44 #[.string tD] w fun e w'=>e=.returned (.string ⟨#[97,32,45,32,40,98,32,45,32,99,41]⟩)∧Below w.heap.size w w'));have HWE:=kA1 (fun w (hS:Start w)=>wrong_ok chk0 tE (zCi chk0 _ plainE) 2 readE (by rw[placeE];decide) w hS);go_enter Tryz.func10,Tryz.ntmps10;go_wp2_with fail;refine (H1.out _).mono ?_;rintro e w1 ⟨A1,c1,rfl,hc1,hk1,hb1⟩;clear H1;have hk1:=kA1 hk1;go_wp2_with fail;refine (HRA.out _ (hS.below hb1)).mono ?_;rintro e w2 ⟨A2,c2,rfl,hv2,hb2⟩;clear HRA;have hk2:=kA1 (Kd.C_below hk1.out hb2);have hb:=hb1.trans (hb2.mono hb1.size);clear hk1 hb1 hb2;have hl2:xA.f4.length=2:=rfl;rw[hl2] at hv2⊢;have hv2:=kA1 hv2;generalize xA.f0=a0 at *;generalize xA.f1.f0=a1 at *;generalize xA.f1.f1=a2 at *;generalize xA.f2=a3 at *;generalize xA.f3=a4 at *;go_wp2_with fail;have hb3:=hb.alloc hb.size (.cells #[.int .i64 a0,.string a1,.string a2,.string a3,.int .i64 a4,.slice A2 2 c2] 31);have hk3:=kA1 (Kd.C_alloc hk2.out (.cells #[.int .i64 a0,.string a1,.string a2,.string a3,.int .i64 a4,.slice A2 2 c2] 31));refine (HSZ.out _ _ (hv2.out.below ((kA3 _ w2).alloc (kA2 _) _)) (hS.below hb3)).mono ?_;rintro e w3 ⟨rfl,hb4⟩;have hk4:=kA1 (Kd.C_below hk3.out hb4);have hb:=hb3.trans (hb4.mono hb3.size);clear hk2 hk3 hb3 hb4 hv2 HSZ;go_wp2_with fail;refine (HRB.out _ (hS.below hb)).mono ?_;rintro e w4 ⟨A4,c4,rfl,hv4,hb4⟩;clear HRB;have hk5:=kA1 (Kd.C_below hk4.out hb4);have hb:=hb.trans (hb4.mono hb.size);clear hk4 hb4;have hl4:xB.f4.length=2:=rfl;rw[hl4] at hv4⊢;have hv4:=kA1 hv4;generalize xB.f0=b0 at *;generalize xB.f1.f0=b1 at *;generalize xB.f1.f1=b2 at *;generalize xB.f2=b3 at *;generalize xB.f3=b4 at *;go_wp2_with fail;have hb3:=hb.alloc hb.size (.cells #[.int .i64 b0,.string b1,.string b2,.string b3,.int .i64 b4,.slice A4 2 c4] 31);have hk3:=kA1 (Kd.C_alloc hk5.out (.cells #[.int .i64 b0,.string b1,.string b2,.string b3,.int .i64 b4,.slice A4 2 c4] 31));refine (HFR.out _ _ (hv4.out.below ((kA3 _ w4).alloc (kA2 _) _)) (hS.below hb3)).mono ?_;rintro e w5 ⟨A5,c5,rfl,hc5,hf5,hb4⟩;have hk4:=kA1 (Kd.C_below hk3.out hb4);have hb:=hb3.trans (hb4.mono hb3.size);have hf5:=kA1 hf5;clear hk3 hk5 hb3 hb4 hv4 HFR;go_wp2_with fail;refine (HSC.out _ (hS.below hb) (hT.below hb)).mono ?_;rintro e w6 ⟨rfl,hb6⟩;have hk6:=kA1 (Kd.C_below hk4.out hb6);have hf6:=kA1 (Kd.C_below hf5.out hb6);have hb:=hb.trans (hb6.mono hb.size);clear hb6 hk4 hf5 HSC;go_wp2_with fail;refine (HSD.out _ (hS.below hb) (hT.below hb)).mono ?_;rintro e w7 ⟨rfl,hb6⟩;have hk7:=kA1 (Kd.C_below hk6.out hb6);have hf7:=kA1 (Kd.C_below hf6.out hb6);have hb:=hb.trans (hb6.mono hb.size);clear hb6 hk6 hf6 HSD;go_wp2_with fail;refine (HWE.out _ (hS.below hb)).mono ?_;rintro e w8 ⟨rfl,hb6⟩;have hk8:=kA1 (Kd.C_below hk7.out hb6);have hf8:=kA1 (Kd.C_below hf7.out hb6);have hb:=hb.trans (hb6.mono hb.size);clear hb6 hk7 hf7 HWE;go_wp2_with fail;have hb:=hb.alloc hb.size (.cells #[.string ⟨#[97]⟩,.string ⟨#[105]⟩] 9);have hk9:=kA1 (Kd.C_alloc hk8.out (.cells #[.string ⟨#[97]⟩,.string ⟨#[105]⟩] 9));refine (metewandkit_EqTexts.calls 10 A5 c5 [⟨#[97]⟩,⟨#[105]⟩] (some ⟨w8.heap.size,0,none⟩) 2 [⟨#[97]⟩,⟨#[105]⟩] true _ (Kd.C_alloc hf8.out _) hc5 (lit_texts w8 [⟨#[97]⟩,⟨#[105]⟩] kCW) (kA2 _) eqt).mono ?_;rintro e w9 ⟨rfl,hd9⟩;obtain⟨k9,hd9⟩:=hd9.out;subst hd9;have hk10:=kA1 (Kd.C_drewN hk9.out k9);have hb:=zA3 hb k9;clear hk8 hk9 hf8;go_wp2_with fail;have hlit:=lit_toks ((w8.alloc (.cells #[.string ⟨#[97]⟩,.string ⟨#[105]⟩] 9)).drewN k9) [⟨0,⟨#[97,49]⟩,0⟩,⟨4,⟨#[43]⟩,2⟩,⟨2,⟨#[50]⟩,3⟩,⟨3,⟨#[109,47,115]⟩,4⟩] kCW;rw[show ((w8.alloc (.cells #[.string ⟨#[97]⟩,.string ⟨#[105]⟩] 9)).drewN k9).heap.size=w8.heap.size+1 from by simp] at hlit;have hb:=hb.alloc hb.size (.cells (flat [⟨0,⟨#[97,49]⟩,0⟩,⟨4,⟨#[43]⟩,2⟩,⟨2,⟨#[50]⟩,3⟩,⟨3,⟨#[109,47,115]⟩,4⟩]).toArray 47);refine (metewandkit_EqTokens.calls 10 A1 c1 [⟨0,⟨#[97,49]⟩,0⟩,⟨4,⟨#[43]⟩,2⟩,⟨2,⟨#[50]⟩,3⟩,⟨3,⟨#[109,47,115]⟩,4⟩] (some ⟨w8.heap.size+1,0,none⟩) 4 [⟨0,⟨#[97,49]⟩,0⟩,⟨4,⟨#[43]⟩,2⟩,⟨2,⟨#[50]⟩,3⟩,⟨3,⟨#[109,47,115]⟩,4⟩] true _ (Kd.C_alloc hk10.out _) hc1 hlit (kA2 _) eqk).mono ?_;rintro e w10 ⟨rfl,hd⟩;obtain⟨k10,hd⟩:=hd.out;subst hd;have hb:=zA3 hb k10;go_wp2;go_ret;exact⟨rfl,hb⟩
end Go.Proofs.YtjaobihcdkjmbaaGreatDoor
end
section
namespace Go.Proofs.YtjaobihcdkjmbaaGreatDoor
open Go.RowKit Go.Maps Go.Proofs.YtjaobihcdkjmbaaGreatDoorW.PrintWords Go.Proofs.YtjaobihcdkjmbaaGreatDoor.PReadTokens
theorem par_size (s:ByteArray):((⟨#[40,40]⟩:ByteArray)++s++⟨#[32,41,32,41]⟩).size=2+s.size+4:=by
 rw[kBD,kBD];rfl
def parB (s:ByteArray):ByteArray:=(⟨#[40,40]⟩:ByteArray)++s++⟨#[32,41,32,41]⟩
theorem parB_data (s:ByteArray):(parB s).data.toList=40 :: 40 :: (s.data.toList++[32,41,32,41]):=by
 unfold parB;rw[zAl,zAl];simp
theorem parB_size (s:ByteArray):(parB s).size=s.size+6:=by unfold parB;rw[par_size];omega
theorem zFh (A:Option Addr) (l:List Int) (c:Nat) (hl:l.length≤9223372036854775807) (w:World) (hc:Kd.C (Kd.int .i64) w A l.length l) (hS:Start w) (hT:Tab w) :
  Calls Tryz.prog 5 #[.slice A l.length c] w fun e w'=>e=.returned (.bool true)∧Below w.heap.size w w':=by
 have hr:=NewRod_calls A l c hl w hc;have HS:=kA1 hS;have HT:=kA1 hT;clear hc hS hT hl;go_enter Tryz.func5,Tryz.ntmps5;go_wp2_with fail;refine hr.mono ?_;rintro e w1 ⟨rfl,r1,hb1⟩;clear hr;have hx:=zF9 3 kCW w.heap.size 0 w1 r1 kCW;go_wp2_with fail;refine hx.mono ?_;rintro e w2 ⟨x,vx,rfl,hx1,hx2,r2,g2⟩;have hb2:Below w.heap.size w w2:=hb1.grown g2 (kAX r1.lt) (fun k e=>by injection e with e;omega);have hlt1:=r1.lt;have hsz12:=g2.size;clear hx hb1 g2 r1;obtain⟨v5,Ax,nx,cx,rfl,rfl,_,hMx⟩:=hx2.cells;unfold exV at *;have hbA:=(kA3 w2.heap.size w2).alloc (kA2 _) (.cells #[.int .i64 x.f0,.string x.f1.f0,.string x.f1.f1,.string x.f2,.int .i64 x.f3,.slice Ax nx cx] 31);have hb3:=hb2.trans (hbA.mono hb2.size);have kx:(w2.alloc (.cells #[.int .i64 x.f0,.string x.f1.f0,.string x.f1.f1,.string x.f2,.int .i64 x.f3,.slice Ax nx cx] 31)).heap[w2.heap.size]?=some (.cells #[.int .i64 x.f0,.string x.f1.f0,.string x.f1.f1,.string x.f2,.int .i64 x.f3,.slice Ax nx cx] 31 (0,0)):=zA4 w2 _;have hx3:=hx2.below hbA;have r3:=r2.below hbA;obtain⟨W3,hW3⟩:∃X,X=w2.alloc (.cells #[.int .i64 x.f0,.string x.f1.f0,.string x.f1.f1,.string x.f2,.int .i64 x.f3,.slice Ax nx cx] 31):=⟨_,rfl⟩;rw[← hW3] at hb3 kx hx3 r3;have ht:=ExprText_calls x (made_ref 3 x hx1 kCW) _ W3 hx3.vw;unfold exV at ht;obtain⟨⟨c0,c1,c2,c3,c4,c5⟩,_,xl⟩:=zA6 kx;have hok:=made_ok 3 x hx1;have hdp:=made_depth 3 x hx1;have hnd:=(made_few 3 kCW x hx1);have htx:=zFQ 3 x hx1;have hWide:=wide_parse x hok;have hPar:=par_parse x hok;have hBad:=text_bad x hok;have hFew:=text_few x hok;have hSml:=all_small (zBl x);have HB3:=kA1 hb3;have KX:=kA1 kx;have HX3:=kA1 hx3;have HW3:=kA1 hW3;have HWide:=kA1 hWide;have HPar:=kA1 hPar;have HSml:=kA1 hSml;clear hb2 hx2 r2 hMx hbA hb3 kx hx3 hW3 hx1 hok hWide hPar hSml;go_upto_region 3 with (fail);rw[← HW3.out];clear HW3;go_wp2_with fail;refine ht.mono ?_;rintro e w4 ⟨rfl,hb4⟩;clear ht c0 c1 c2 c3 c4 c5 xl;have HB4:=kA1 (HB3.out.trans (hb4.mono HB3.out.size));have KX4:=kA1 (zA9 hb4 KX.out);have HX4:=kA1 (HX3.out.below hb4);have r4:=r3.below hb4;have hsz24:w2.heap.size≤w4.heap.size:=by have:=zA5 KX4.out;omega
 clear HB3 KX HX3 hb4 r3;generalize zBl x=s at *;clear htx;by_cases hs6:s.size≤600
 ·have hptz:(parB s).size≤2000:=by rw[parB_size];omega
  have hpp:=HPar.out (parB s) (parB_data s);obtain⟨pt,hpt⟩:∃b,b=parB s:=⟨_,rfl⟩;rw[← hpt] at hptz hpp;unfold parB at hpt;have HPP:=kA1 hpp;have HPT:=kA1 hpt;have hnd2:zAH x≤4611686018427387904:=kCT
  have hd30:zAC x≤30:=kCT
  clear hpp hpt HPar;have htk:=zDG s kCT w4;unfold zEc at htk;rw[hBad] at htk;obtain⟨ts,hts⟩:∃ts,ts=zA8 s:=⟨_,rfl⟩;rw[← hts] at htk hFew hBad HSml HWide;clear hts hBad;go_wp2_with fail;refine htk.mono ?_;rintro e w5 ⟨v,rfl,ho,hb5⟩;obtain⟨At,ct,rfl,hct,hC⟩:=ho.C;have HO:=kA1 ho;have HC:=kA1 hC;have HB5:=kA1 (HB4.out.trans (hb5.mono HB4.out.size));have KX5:=kA1 (zA9 hb5 KX4.out);have HX5:=kA1 (HX4.out.below hb5);have r5:=r4.below hb5;clear HB4 KX4 HX4 hb5 r4 htk ho hC;have hd1:decide ((s.size:Int)<ts.length)=false:=kA8 kCT;have hd2:decide ((600:Int)<s.size)=false:=kA8 kCT;have hd1n:decide (s.size<ts.length)=false:=kA8 kCT;go_upto_region 7 with (fail)
  try simp only[hd1n]
  go_wp2_with fail;go_loopg [9] ts.length (fun k v9 wr=>∃j:Nat,v9=.int .i64 j∧j+k=ts.length∧Hid (Below w5.heap.size w5 wr))
  case atStart=>exact⟨0,rfl,kCT,kA1 (kA3 _ _)⟩
  case round =>
   obtain⟨j,rfl,hj,hb⟩:=hrel;have hgR:w5.grownBy wr (some w.heap.size):=kAe (kAF _ _) hb.out;have hltb:w.heap.size<w4.heap.size:=kBa hlt1 (kAB hsz12 hsz24);by_cases hjl:j<ts.length
   ·obtain⟨g,c',he,c0,c1,c2⟩:=(HO.out.kept hltb hgR).cells hjl;injection he with hA _ hc';subst hc';subst hA;have hts:=HSml.out ts[j] (kAA hjl);generalize ts[j]=t at *;have hdt:decide ((s.size:Int)<t.f1.size)=false:=kA8 kCT;clear hgR;go_wp2_with fail;go_roundg (gk-1)
    case measure=>omega
    case rel=>exact⟨j+1,by go_num,kCT,hb⟩
   ·obtain rfl:j=ts.length:=kCT
    have hB6:=HB5.out.trans (hb.out.mono HB5.out.size);have r6:=r5.below hb.out;have ho6:=HO.out.kept hltb hgR;have hbl:=Blanked_calls w.heap.size (0+cost 3) w4.heap.size At ct ts wr r6 (by have h3:cost 3≤1000:=kCW;omega) ho6 hltb kCT (fun t ht=>by have:=HSml.out t ht;omega);have hx6:=HX5.out.below hb.out;have kx6:=zA9 hb.out KX5.out;have HX6:=kA1 hx6;have KX6:=kA1 kx6;have HB6:=kA1 hB6;clear HX5 KX5 HB5 hB6 r5 ho6 hx6 kx6 HO HC hgR;go_upto_region 12 with (fail);go_wp2_with fail;refine hbl.mono ?_;rintro e w7 ⟨b,rfl,hwd,hbz,hg7⟩;have hB7:=HB6.out.grown hg7 HB6.out.size (fun k e=>by injection e with e;omega);have hwp:=HWide.out b hwd;have HX7:=kA1 (HX6.out.grown hg7 (fun k hk=>by simp only[From] at hk;omega));have KX7:=kA1 (zAe hg7 KX6.out kCT);have HB7:=kA1 hB7;have HWP:=kA1 hwp;clear HX6 KX6 HB6 hbl hwd hg7 hB7 hwp r6 hb;by_cases hb9:1990<b.size
    ·have hd9:decide ((1990:Int)<b.size)=true:=kA7 kCT;have htd:=zDh w7 (HS.out.below HB7.out) (HT.out.below HB7.out);go_wp2_with fail;refine htd.mono ?_;rintro e w8 ⟨rfl,hb8⟩;go_wp2;go_ret;exact⟨rfl,HB7.out.trans (hb8.mono HB7.out.size)⟩
    ·have hd9:decide ((1990:Int)<b.size)=false:=kA8 kCT;have hre:=ReadExpr2 chkR b (readT_all b kCT) w7 (HS.out.below HB7.out) (fun _=>⟨x,HWP.out,hnd2⟩);unfold zBF at hre;rw[readS_ok HWP.out hd30] at hre;go_wp2_with fail;refine hre.mono ?_;rintro e w8 ⟨u5,rfl,hxa,hb8⟩;obtain⟨v6,Au,nu,cu,hv6,rfl,_,_⟩:=hxa.cells;obtain rfl:u5=.slice Au nu cu:=by unfold exV at hv6;injection hv6 with hv6;simpa using hv6
     clear hv6;unfold exV at *;have hbA:=(kA3 w8.heap.size w8).alloc (kA2 _) (.cells #[.int .i64 x.f0,.string x.f1.f0,.string x.f1.f1,.string x.f2,.int .i64 x.f3,.slice Au nu cu] 31);have hx8:=(HX7.out.below hb8).below hbA;have hxa9:=hxa.below hbA;have kp:(w8.alloc (.cells #[.int .i64 x.f0,.string x.f1.f0,.string x.f1.f1,.string x.f2,.int .i64 x.f3,.slice Au nu cu] 31)).heap[w8.heap.size]?=some (.cells #[.int .i64 x.f0,.string x.f1.f0,.string x.f1.f1,.string x.f2,.int .i64 x.f3,.slice Au nu cu] 31 (0,0)):=zA4 w8 _;have kx8:=zA9 hbA (zA9 hb8 KX7.out);have hB9:=(HB7.out.trans (hb8.mono HB7.out.size)).trans (hbA.mono (kAB HB7.out.size hb8.size));obtain⟨W9,hW9⟩:∃X,X=w8.alloc (.cells #[.int .i64 x.f0,.string x.f1.f0,.string x.f1.f1,.string x.f2,.int .i64 x.f3,.slice Au nu cu] 31):=⟨_,rfl⟩;obtain⟨P,hP⟩:∃k,k=w8.heap.size:=⟨_,rfl⟩;rw[← hW9] at hx8 hxa9 kp kx8 hB9;rw[← hP] at kp;have hre2:=ReadExpr2 chkR pt (readT_all pt hptz) W9 (HS.out.below hB9) (fun _=>⟨x,HPP.out,hnd2⟩);unfold zBF at hre2;rw[readS_ok HPP.out hd30] at hre2;have HX9:=kA1 hx8;have HY9:=kA1 hxa9;have KP:=kA1 kp;have KX9:=kA1 kx8;have HB9:=kA1 hB9;have HW9:=kA1 hW9;have HP:=kA1 hP;clear hx8 hxa9 kp kx8 hB9 hW9 hP hbA hb8 hxa HX7 KX7 HB7 hre HPP HWP;go_upto_region 16 with (fail);rw[← HW9.out];clear HW9;go_wp2_with fail;rw[← HPT.out];refine hre2.mono ?_;rintro e wa ⟨u5,rfl,hxb,hba⟩;obtain⟨v6,Ab,nb,cb,hv6,rfl,_,_⟩:=hxb.cells;obtain rfl:u5=.slice Ab nb cb:=by unfold exV at hv6;injection hv6 with hv6;simpa using hv6
     clear hv6 hre2;unfold exV at *;have hbA:=(kA3 wa.heap.size wa).alloc (kA2 _) (.cells #[.int .i64 x.f0,.string x.f1.f0,.string x.f1.f1,.string x.f2,.int .i64 x.f3,.slice Ab nb cb] 31);have hbA':=hba.trans (hbA.mono hba.size);have hx8:=HX9.out.below hbA';have hxa9:=HY9.out.below hbA';have hxb9:=hxb.below hbA;have kx8:=zA9 hbA' KX9.out;have kp8:=zA9 hbA' KP.out;have kq:(wa.alloc (.cells #[.int .i64 x.f0,.string x.f1.f0,.string x.f1.f1,.string x.f2,.int .i64 x.f3,.slice Ab nb cb] 31)).heap[wa.heap.size]?=some (.cells #[.int .i64 x.f0,.string x.f1.f0,.string x.f1.f1,.string x.f2,.int .i64 x.f3,.slice Ab nb cb] 31 (0,0)):=zA4 wa _;have hBb:=HB9.out.trans (hbA'.mono HB9.out.size);obtain⟨Wb,hWb⟩:∃X,X=wa.alloc (.cells #[.int .i64 x.f0,.string x.f1.f0,.string x.f1.f1,.string x.f2,.int .i64 x.f3,.slice Ab nb cb] 31):=⟨_,rfl⟩;obtain⟨Qb,hQ⟩:∃k,k=wa.heap.size:=⟨_,rfl⟩;rw[← hWb] at hx8 hxa9 hxb9 kx8 kp8 kq hBb;rw[← hQ] at kq;have HXb:=kA1 hx8;have HYb:=kA1 hxa9;have HZb:=kA1 hxb9;have KXb:=kA1 kx8;have KPb:=kA1 kp8;have KQb:=kA1 kq;have HBb:=kA1 hBb;have HWb:=kA1 hWb;have HQ:=kA1 hQ;clear hx8 hxa9 hxb9 kx8 kp8 kq hBb hWb hQ hbA hbA' hba hxb HX9 HY9 KX9 KP HB9;rw[HP.out] at KPb;rw[HQ.out] at KQb;go_upto_region 17 with (fail);rw[← HWb.out];clear HWb;have he1:=eqx_calls 4 x hdp hnd2 _ _ Wb HXb.out.vw HYb.out.vw;obtain⟨⟨c0,c1,c2,c3,c4,c5⟩,_,xl⟩:=zA6 KXb.out;obtain⟨⟨d0,d1,d2,d3,d4,d5⟩,_,yl⟩:=zA6 KPb.out;go_wp2_with fail;refine he1.mono ?_;rintro e wc ⟨rfl,hbc⟩;clear c0 c1 c2 c3 c4 c5 xl d0 d1 d2 d3 d4 d5 yl he1;have he2:=eqx_calls 4 x hdp hnd2 _ _ wc (HXb.out.below hbc).vw (HZb.out.below hbc).vw;obtain⟨⟨c0,c1,c2,c3,c4,c5⟩,_,xl⟩:=zA6 (zA9 hbc KXb.out);obtain⟨⟨d0,d1,d2,d3,d4,d5⟩,_,yl⟩:=zA6 (zA9 hbc KQb.out);go_wp2_with fail;refine he2.mono ?_;rintro e wd ⟨rfl,hbd⟩;clear c0 c1 c2 c3 c4 c5 xl d0 d1 d2 d3 d4 d5 yl he2;have hBd:=HBb.out.trans ((hbc.trans (hbd.mono hbc.size)).mono HBb.out.size);have htd:=zDh wd (HS.out.below hBd) (HT.out.below hBd);go_wp2_with fail;refine htd.mono ?_;rintro e we ⟨rfl,hbe⟩;go_wp2;go_ret;exact⟨rfl,hBd.trans (hbe.mono hBd.size)⟩
 ·have hs6':decide ((600:Int)<s.size)=true:=kA7 kCT;by_cases hs2:s.size≤2000
  ·have htk:=zDG s hs2 w4;unfold zEc at htk;rw[hBad] at htk;obtain⟨ts,hts⟩:∃ts,ts=zA8 s:=⟨_,rfl⟩;rw[← hts] at htk hFew;clear hts hBad HWide HPar HSml;go_wp2_with fail;refine htk.mono ?_;rintro e w5 ⟨v,rfl,ho,hb5⟩;obtain⟨At,ct,rfl,hct,hC⟩:=ho.C;have hB5:=HB4.out.trans (hb5.mono HB4.out.size);clear htk ho hC;have hd1:decide ((s.size:Int)<ts.length)=false:=kA8 kCT;have htd:=zDh w5 (HS.out.below hB5) (HT.out.below hB5);go_wp2_with fail;refine htd.mono ?_;rintro e we ⟨rfl,hbe⟩;go_wp2;go_ret;exact⟨rfl,hB5.trans (hbe.mono hB5.size)⟩
  ·have htk:=Tokens_large s kCT w4;clear hBad HWide HPar HSml;go_wp2_with fail;refine htk.mono ?_;rintro e w5 ⟨rfl,hb5⟩;have hB5:=HB4.out.trans (hb5.mono HB4.out.size);clear htk;have htd:=zDh w5 (HS.out.below hB5) (HT.out.below hB5);go_wp2_with fail;refine htd.mono ?_;rintro e we ⟨rfl,hbe⟩;go_wp2;go_ret;exact⟨rfl,hB5.trans (hbe.mono hB5.size)⟩
end Go.Proofs.YtjaobihcdkjmbaaGreatDoor
end
section
namespace Go.Proofs.YtjaobihcdkjmbaaGreatDoor
open Go.ChangeMaps (open_string)
open Go.RowKit Go.ChangeShapes Go.WideShapes Go.ChangeAt Go.Proofs.YtjaobihcdkjmbaaGreatDoorW.PrintWords
def aB:Array Value:=#[.slice none 0 0]
theorem zEX (os:Os) (started:os.Started) (H:Type) (enc:TypeId×Value→H) :
  ReturnsInHanded {} Tryz.checked os 5 .any (fun w args=>(Rows.readBlanksSpec.pre enc Tryz.prog Tryz.f5 [] false w args∧laidMetH Tryz.prog laidL w)∧sizedMet enc Tryz.prog Tryz.f5 (OpenSpec.ofChange Rows.readBlanksSpec) false w args)
   (Rows.readBlanksSpec.post enc Tryz.prog Tryz.f5 false true false false):=by
 refine returnsInHanded_of_change_and (C:=Tryz.checked) (X:=fun w _=>laidMetH Tryz.prog laidL w) (fun _ _ _ hh h=>h.of_heap hh) noKnob started kCU Tryz.func5
  (ChangeSpec.witness_shaped (enc:=enc) (C:=Tryz.checked) (os:=os) (X:=fun w _=>laidMetH Tryz.prog laidL w) false (World.doorLaid Tryz.prog 69 os) aB 5 rfl (World.shaped_of_RefB kCU kCU) kCU kCU kCU (door_met os _)) ?_
 intro W base args ds gs before hval0 hW _ _ hL _;have hval:∀(j:Nat) t v,Tryz.f5.params[j]?=some t→args[j]?=some v→Value.okWide Tryz.prog W .any base t v:=hval0;have hW':=hW;obtain⟨p,q,hA0,hV,rfl,hfz,hnd⟩:=hW;have hA:DataW.TrodAll enc Tryz.prog W 0 (fun _=>true) true Tryz.f5.params.toList args.toList ds p:=hA0;have hlt:∀x∈p,x.block<W.heap.size:=fun x hx=>by simpa using hW'.lt x (kCk _ hx)
 have hA2:=hA;rw[Tryz.params5] at hA hval;obtain⟨v0,vs0,d0,ds0,p0,q0,hargs,rfl,rfl,h0,r0⟩:=trodAll_cons hA;obtain⟨rfl,rfl,rfl⟩:=trodAll_nil r0;obtain rfl:args=#[v0]:=by cases args;simp_all
 obtain⟨pp,hpp⟩:∃pp,pp=p0++[]:=⟨_,rfl⟩;rw[← hpp] at hA2 hlt hW';obtain⟨rfl,rfl⟩:=trodVars_none hV;obtain⟨A,c,l,rfl,hl,hc,hC⟩:=ints_in (okWide_slice Tryz.underlying22 (hval 0 22 v0 rfl rfl)) h0;obtain⟨hS,hT⟩:=start_of_laid hL;have e1:Rows.readBlanksSpec.fn H ([d0]++[])={ results:=[.lit (.bool true)],args:=[d0] }:=rfl;refine (zFh A l c hl W hC hS hT).mono fun e W' ⟨he,hb⟩=>?_
 subst he;refine⟨_,rfl,_,_,_,[],pp,[],hW',?_,?_,?_,hb.frame _,fun h=>by cases h⟩
 ·rw[e1];exact trodAll_mk1 (shut_bool Tryz.underlying4 true)
 ·rw[e1];exact trodAll_below hb _ _ _ _ (by rw[Tryz.params5];intro t ht;simp at ht;subst ht;exact⟨kCU,by rw[typesSize];decide⟩) hA2 hlt
 ·rw[e1];rfl
theorem zG8:Rows.ReadBlanksSaid :=
 OpenClaim.holds_of_wide 5 Tryz.f5 rfl rfl rfl rfl rfl rfl rfl ⟨rfl,rfl,rfl,rfl,rfl⟩ rfl rfl rfl rfl rfl zFd Tryz.func5 zEK
  zFE zFD
  (fun os started H enc _=>zEX os started H enc)
theorem zFg (f : FuncId) (fn : Func) (hf : Tryz.pinned.checked.prog.funcNamed "metewand/metewandlaw13.ReadBlanks" = some f) (hfn : Tryz.pinned.checked.prog.funcs[f]? = some fn) :
  true=Tryz.pinned.checked.prog.looks []∧∀(j:Nat) t,fn.params[j]?=some t→Tryz.pinned.checked.prog.wantsStandIn t=false:=by
 obtain rfl : f = 5 := kAg ((show Tryz.prog.funcNamed "metewand/metewandlaw13.ReadBlanks" = some 5 by kernel_rfl).symm.trans hf) |>.symm
 obtain rfl:fn=Tryz.f5:=(kAg (Tryz.func5.symm.trans hfn)).symm;refine⟨zFe,fun j t ht=>?_⟩;rw[Tryz.params5] at ht;have hm:=Array.mem_of_getElem? ht;simp at hm;subst hm;exact (show Tryz.prog.wantsStandIn 22=false by kernel_rfl)
theorem ReadBlanks_card:Rows.ReadBlanksCardSaid :=
 Claim7.holds_tied_plain_at .later [] _ _ _ _ zG8 (fun _ h=>by cases h) kCU (fun _ h=>by cases h) readBlanks_row_tie rfl ⟨rfl,rfl⟩ kCU rfl zFg kCU
end Go.Proofs.YtjaobihcdkjmbaaGreatDoor
end
