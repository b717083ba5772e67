/- The law ReadBlanks answers true for every argument; a part of its proof. -/
import Derived.Test.YtjaobihcdkjmbaaGreatDoorBa
import Derived.Test.YtjaobihcdkjmbaaGreatDoorBb
import Derived.Test.YtjaobihcdkjmbaaGreatDoorB0
import Derived.Test.YtjaobihcdkjmbaaGreatDoorB7
import Derived.Test.YtjaobihcdkjmbaaGreatDoorB8
import Derived.Test.YtjaobihcdkjmbaaGreatDoorB9
import Derived.Test.YtjaobihcdkjmbaaGreatDoorB11
import Derived.Test.YtjaobihcdkjmbaaGreatDoorB12
import Derived.Test.YtjaobihcdkjmbaaGreatDoorB15
import Derived.Test.YtjaobihcdkjmbaaGreatDoorB17
import Derived.Test.YtjaobihcdkjmbaaGreatDoorB18
set_option linter.unusedVariables false
set_option linter.unusedSimpArgs false
namespace Go.Proofs.YtjaobihcdkjmbaaGreatDoor.PReadTokens
end Go.Proofs.YtjaobihcdkjmbaaGreatDoor.PReadTokens
namespace Go.Proofs.YtjaobihcdkjmbaaGreatDoorW.PrintWords
end Go.Proofs.YtjaobihcdkjmbaaGreatDoorW.PrintWords
set_option maxRecDepth 100000
set_option maxHeartbeats 8000000
section
namespace Go.Proofs.YtjaobihcdkjmbaaGreatDoor
open Go.RowKit Go.Proofs.YtjaobihcdkjmbaaGreatDoorW.PrintWords Go.Proofs.YtjaobihcdkjmbaaGreatDoor.PReadTokens
def negB (s:ByteArray):Bool:=match s.data.toList with | []=>false | c :: _=>c==45
def zBr (s:ByteArray):ByteArray:=if negB s then s.extract 1 s.size else s
def digC (c:UInt8):Bool:=decide (48≤c.toNat)&&decide (c.toNat≤57)
def zDH (s:ByteArray):Bool:=match (zBr s).data.toList with | []=>false | c :: _=>c==48
def zCX (s:ByteArray):Bool:=decide (0<(zBr s).size) && !(zDH s&&(decide (1<(zBr s).size)||decide (1<s.size)))&&(zBr s).data.toList.all digC
theorem prefix_neg (s:ByteArray):stringslite_HasPrefix.f s ⟨#[45]⟩=some (negB s):=by
 unfold stringslite_HasPrefix.f negB;have s2:(⟨#[45]⟩:ByteArray).size=1:=rfl;rw[s2]
 cases hl:s.data.toList with
 | nil =>
  have hz:s.size=0:=by show s.data.toList.length=0;rw[hl];rfl
  simp[hz]
 | cons c r =>
  have hz:s.size=r.length+1:=by show s.data.toList.length=_;rw[hl];rfl
  have he:(s.extract 0 1).toList=[c]:=by
   rw[kAR,kBp,hl];rfl
  have h45:(⟨#[45]⟩:ByteArray).toList=[45]:=by rw[kAR]
  simp only[Int.toNat_natCast];rw[kAa kCT,kAa kCT,kAa kCT,he,h45];simp
theorem trim_f (s:ByteArray):strings_TrimPrefix.f s ⟨#[45]⟩=some (zBr s):=by
 unfold strings_TrimPrefix.f stringslite_TrimPrefix.f zBr;rw[prefix_neg];have s2:(⟨#[45]⟩:ByteArray).size=1:=rfl
 cases hn:negB s
 ·simp
 ·have h1:1≤s.size:=by
   unfold negB at hn
   cases hl:s.data.toList with
   | nil=>rw[hl] at hn;cases hn
   | cons c r=>show 1≤s.data.toList.length;rw[hl];simp
  simp[s2];omega
theorem zEF (s:ByteArray) (w:World):Calls Tryz.prog 124 #[.string s,.string ⟨#[45]⟩] w fun e w'=>e=.returned (.string (zBr s))∧∃n,w'=w.drewN n :=
 (strings_TrimPrefix.calls s ⟨#[45]⟩ (zBr s) w (trim_f s)).mono fun _ _ ⟨a,b⟩=>⟨a,b.out⟩
theorem zEh (s:ByteArray):(zBr s).size≤s.size:=by
 unfold zBr;split
 ·simp
 ·exact kA2 _
theorem rune_digC (s:ByteArray) (pos:Nat) (h:pos<s.size) :
  digC (s[pos]'h)=(decide ((48:Int)≤((Utf8.decode s pos).1:Nat))&&decide ((((Utf8.decode s pos).1:Nat):Int)≤57))∧(digC (s[pos]'h)=true→(Utf8.decode s pos).2=1):=by
 by_cases ha:(s[pos]'h).toNat<128
 ·rw[decode_ascii s pos h ha];refine⟨?_,fun _=>rfl⟩;unfold digC;simp only;congr 1<;>exact decide_eq_decide.2 kCT
 ·have hh:=(decode_high s pos h kCT).1;have e:digC (s[pos]'h)=false:=by
   unfold digC;rw[kAQ];exact .inr (kA8 kCT)
  rw[e];refine⟨?_,fun h=>by cases h⟩;symm;rw[kAQ];exact .inr (kA8 kCT)
theorem all_drop (s:ByteArray) (pos:Nat) (h:pos<s.size):(s.data.toList.drop pos).all digC=(digC (s[pos]'h)&&(s.data.toList.drop (pos+1)).all digC):=by
 rw[kAr (show pos<s.data.toList.length from h)];rfl
theorem zER (s:ByteArray) (hs:s.size≤9223372036854775807) (w:World):Calls Tryz.prog 256 #[.string s] w fun e w'=>e=.returned (.bool (zCX s))∧Below w.heap.size w w':=by
 have htp:=kA1 (fun w=>zEF s w);have hts:=zEh s;obtain⟨t,ht⟩:∃t,t=zBr s:=⟨_,rfl⟩;have hz:zDH s=match t.data.toList with | []=>false | c :: _=>c==48:=by rw[ht];rfl
 have hform:zCX s=(decide (0<t.size) && !(zDH s&&(decide (1<t.size)||decide (1<s.size)))&&t.data.toList.all digC):=by rw[ht];rfl
 rw[← ht] at htp hts;clear ht;generalize zCX s=R at *;by_cases h0:t.size=0
 ·have hemp:t.toList=[]:=str_empty h0;have hR:R=false:=by rw[hform,h0];rfl
  subst hR;clear hform hz h0;go_enter Tryz.func256,Tryz.ntmps256;go_wp2_with (go_at_call 124;refine (htp.out _).mono ?_;rintro e w1 ⟨rfl,k,rfl⟩);go_ret;exact⟨rfl,zA3 (kA3 _ w) k⟩
 ·have hp:0<t.size:=kCT
  have hemp:t.toList.isEmpty=false:=str_some hp;have hzh:zDH s=decide (((t[0]'hp).toNat:Int)=48):=by
   rw[hz]
   cases hl:t.data.toList with
   | nil=>exfalso;have:t.size=t.data.toList.length:=rfl;rw[hl,List.length_nil] at this;omega
   | cons c r =>
    have e:t[0]'hp=c:=by
     show t.data.toList[0]'hp=c;simp[hl]
    rw[e];simp only;rw[kCv];simp only[kAx,kAN];rw[← kCO];constructor
    ·intro h;rw[h];rfl
    ·intro h;have:c.toNat=48:=kCT
     rw[this];rfl
  rw[kA7 hp,kCM,hzh] at hform;clear hz hzh h0;by_cases hbad:((t[0]'hp).toNat:Int)=48∧(1<t.size∨1<s.size)
  ·obtain⟨hb48,hbig⟩:=hbad;have q48:(((t[0]'hp).toNat:Int)==48)=true:=kAx.2 hb48;have hR:R=false:=by
    rw[hform,kA7 hb48,kCM];rcases hbig with h | h
    ·rw[kA7 h];rfl
    ·rw[kA7 h,Bool.or_true];rfl
   subst hR;clear hform hb48;by_cases hb1:1<t.size
   ·have e1:decide (1<(t.size:Int))=true:=kA7 kCT;go_enter Tryz.func256,Tryz.ntmps256;go_wp2_with (go_at_call 124;refine (htp.out _).mono ?_;rintro e w1 ⟨rfl,k,rfl⟩);go_ret;exact⟨rfl,zA3 (kA3 _ w) k⟩
   ·have e1:decide (1<(t.size:Int))=false:=kA8 kCT;have e2:decide (1<(s.size:Int))=true:=kA7 kCT;go_enter Tryz.func256,Tryz.ntmps256;go_wp2_with (go_at_call 124;refine (htp.out _).mono ?_;rintro e w1 ⟨rfl,k,rfl⟩);go_ret;exact⟨rfl,zA3 (kA3 _ w) k⟩
  ·have hR:R=t.data.toList.all digC:=by
    rw[hform];by_cases h48:((t[0]'hp).toNat:Int)=48
    ·have hb:¬(1<t.size∨1<s.size):=fun h=>hbad ⟨h48,h⟩
     rw[kA8 (show ¬1<t.size by omega),kA8 (show ¬1<s.size by omega)];simp
    ·rw[kA8 h48];rfl
   have hc:((((t[0]'hp).toNat:Int)==48)=true∧decide (1<(t.size:Int))=false∧decide (1<(s.size:Int))=false)∨((((t[0]'hp).toNat:Int)==48)=false):=by
    by_cases h48:((t[0]'hp).toNat:Int)=48
    ·have hb:¬(1<t.size∨1<s.size):=fun h=>hbad ⟨h48,h⟩
     exact .inl ⟨kAx.2 h48,kA8 kCT,kA8 kCT⟩
    ·exact .inr (kAd.2 h48)
   have HR:=kA1 hR;clear hform hR hbad;rcases hc with⟨q48,e1,e2⟩ | q48
   all_goals
    go_enter Tryz.func256,Tryz.ntmps256;go_wp2_with (go_at_call 124;refine (htp.out _).mono ?_;rintro e w1 ⟨rfl,k,rfl⟩);have hb1:Below w.heap.size w (w.drewN k):=zA3 (kA3 _ w) k;have hse:(w.drewN k).heap.size=w.heap.size:=by rw[World.heap_drewN]
    generalize w.drewN k=w1 at *;have hit:IterAt w1 t 0 (w1.iter t 0):=⟨(kA3 _ _).alloc (kA2 _) _,World.iter_heap _ _ _⟩;replace hse:=kA1 hse;rw[← hse.out];go_loopg [] t.size (fun k wr=>∃pos,pos+k=t.size∧IterAt w1 t pos wr∧Hid (R=(t.data.toList.drop pos).all digC))
    case atStart=>exact⟨0,kCT,hit,kA1 (by rw[HR.out,kBZ])⟩
    case round =>
     clear hit q48;obtain⟨pos,hpos,hat,Hn⟩:=hrel;by_cases hq:pos<t.size
     ·have hnx:=fun ty=>zDx (P:=Tryz.prog) wr w1.heap.size t pos ty hat.iter hq
      have hin:=hat.next (pos+(Utf8.decode t pos).2)
      have hdg:=rune_digC t pos hq;have had:=all_drop t pos hq;obtain⟨d,hd⟩:∃d,d=digC t[pos]:=⟨_,rfl⟩;rw[← hd] at hdg had;clear hd
      cases d
      ·have Hres:Hid (R=false):=kA1 (by rw[Hn.out,had];rfl);have hd1:=hdg.1;clear hdg had hat;have hbw:=hin.below_;generalize ((Utf8.decode t pos).1:Int)=c at *;generalize (Utf8.decode t pos).2=wd at *;by_cases hlo:c<48
       ·have c1:decide (c<48)=true:=kA7 hlo;clear hd1;go_wp2;go_ret;exact⟨by rw[Hres.out];rfl,hb1.trans (hbw.mono hb1.size)⟩
       ·have c1:decide (c<48)=false:=kA8 hlo;have c2:decide (57<c)=true:=by
         rw[kA7 (show (48:Int)≤c by omega),kCM] at hd1;have:=kBm hd1.symm;exact kA7 kCT
        clear hd1;go_wp2;go_ret;exact⟨by rw[Hres.out];rfl,hb1.trans (hbw.mono hb1.size)⟩
      ·have Hn':Hid (R=(t.data.toList.drop (pos+1)).all digC):=kA1 (by rw[Hn.out,had];rfl);have hd1:=hdg.1;have hwd:=hdg.2 rfl;rw[hwd] at hin hnx;clear hdg had hat hwd;generalize ((Utf8.decode t pos).1:Int)=c at *;rw[eq_comm,kAj] at hd1;have l1:=kAl hd1.1;have l2:=kAl hd1.2;have c1:decide (c<48)=false:=kA8 kCT;have c2:decide (57<c)=false:=kA8 kCT;clear hd1;go_wp2;go_roundg (gk-1)
       case measure=>omega
       case rel=>exact⟨pos+1,kCT,hin,Hn'⟩
     ·have hnx:=fun ty=>zDi (P:=Tryz.prog) wr w1.heap.size t pos ty hat.iter hq
      have hbw:=hat.below_;have Hres:Hid (R=true):=kA1 (by
       rw[Hn.out,kBx (show t.data.toList.length≤pos from kCr.1 hq)];rfl)
      clear hat;go_wp2;go_ret;exact⟨by rw[Hres.out];rfl,hb1.trans (hbw.mono hb1.size)⟩
section
attribute [local go_sem] Oper.semAt_some
def numV (s:ByteArray):Int:=(if negB s then -1 else 1)*(decV (zBr s).data.toList:Int)
theorem zDL {W W':World} {base n sz:Nat} {e:TypeId} {v:Value} {xs:List Value} (h:W.ownsRow base e sz v n xs) {k:Nat} (hk:k<base) (hg:W.grownBy W' (some k)):W'.ownsRow base e sz v n xs:=by
  refine World.ownsRow.kept h hg ?_
  cases hv:v.ownBlock with
  | none=>exact .inl rfl
  | some b=>refine .inr (fun e=>?_);injection e with e;have:=(kBo h b hv).1;omega
theorem zEp {W W':World} {base n sz:Nat} {e:TypeId} {v:Value} {xs:List Value} (h:W.ownsRow base e sz v n xs) (hg:W.grownBy W' none):W'.ownsRow base e sz v n xs:=by
  refine World.ownsRow.kept h hg ?_
  cases hv:v.ownBlock with
  | none=>exact .inl rfl
  | some b=>exact .inr (fun e=>by cases e)
theorem reps_u32 (w:World) (xs:List Int):Reps (U32.K w) 1 xs (xs.map (Value.int .u32)):=by
  have key:∀(ts pre:List Int),Reps (U32.K w) 1 pre (pre.map (Value.int .u32))→Reps (U32.K w) 1 (pre++ts) ((pre++ts).map (Value.int .u32)):=by
    intro ts
    induction ts with
    | nil=>intro pre h;simpa using h
    | cons t ts ih =>
      intro pre h;have:=ih (pre++[t]) (by rw[kCP];exact Reps.snoc h rfl rfl);simpa using this
  exact key xs [] (Reps.none _ _)
theorem own_u32 {w:World} {base:Nat} {v:Value} {xs:List Int} (h:w.ownsRow base 270 1 v xs.length (xs.map (Value.int .u32))):∃A c,v=.slice A xs.length c∧xs.length≤c∧U32.C w A xs.length xs :=
  zBY.reads ⟨_,h,reps_u32 w xs⟩
theorem zCx (cs:List ByteArray):(zBw cs).length=cs.length:=by simp[zBw]
theorem zFL (cs:List ByteArray) (c:ByteArray):(zBw (cs++[c])).map (Value.int .u32)=(zBw cs).map (Value.int .u32)++[.int .u32 (decV c.data.toList)]:=by simp[zBw]
theorem LN_put {W:World} {z:Int} {v:Value} {R:Nat} {d:Option (List Deferred)} (h:LN W z v) (hR:W.heap[R]?=some (.deferred d)):LN (W.putObj R (.deferred none)) z v:=by
  obtain⟨l,A,c',h1,h2,h3,h4,h5⟩:=h.out;refine⟨l,A,c',h1,h2,h3,?_,h5⟩;by_cases hn:l=[]
  · subst hn
    exact⟨h4.1,kCV,fun h=>by simp at h⟩
  · obtain⟨ad,rfl,hc⟩:=C_cells h4 hn
    refine zEb kCT (fun i hi=>?_);have h6:=hc i hi;have hne:(ad.add i).block≠R:=by
      intro e;simp only[World.cell?,e,hR] at h6
      cases h6
    have hh:=kAp (w:=W) (o:=.deferred none) (r:=R) (k:=(ad.add i).block) hne;simpa[World.cell?,hh] using h6
theorem read_LN (n:Nat) (s:ByteArray) (hd:Digs (zBr s).data.toList) (h0:0<(zBr s).size) (h4:(zBr s).size≤900) (w:World) :
    CallsIn Fence.wide n Tryz.prog 189 #[.string s] w fun e w'=>∃v,e=.returned v∧LN w' (numV s) v∧Below w.heap.size w w':=by
  have hD:Fence.wide.depth.isSome=false:=rfl;have hF227:Fence.wide.fn 227:=trivial;have hF228:Fence.wide.fn 228:=trivial;have hF229:Fence.wide.fn 229:=trivial;have hpre:=fun w=>(kBl (n:=n-1)).2 ((strings_HasPrefix.calls s ⟨#[45]⟩ (negB s) w (by unfold strings_HasPrefix.f;rw[prefix_neg];rfl)).mono fun _ _ ⟨a,b⟩=>(⟨a,b.out⟩:_∧∃n,_))
  obtain⟨z,hz⟩:∃z,z=numV s:=⟨_,rfl⟩;rw[← hz];unfold numV at hz;obtain⟨t,ht⟩:∃t,t=zBr s:=⟨_,rfl⟩;have hchk:=chunksOf_val hd;rw[← ht] at hd h0 h4 hchk hz;unfold zBr at ht;rw[← hchk.1] at hz;have hcne:=chunksOf_ne h0;have hclen:=chunkF_length (t.size+1) t;replace hclen:(zB5 t).length≤t.size+1:=hclen;have HV:=kA1 hchk;have HNE:=kA1 hcne;have HD:=kA1 hd;clear hchk hcne hd;refine kCp Tryz.func189 rfl trivial ?_ rfl;simp only[Tryz.ntmps189,kAc,List.length_cons,List.length_nil,Nat.reduceAdd,Nat.reduceSub,kAY,Array.replicate_zero,kBj,kAP,List.nil_append,List.cons_append]
  cases hneg:negB s
  · rw[hneg] at hpre hz ht
    obtain rfl:t=s:=ht;replace hz:z=1*val (zBw (zB5 t)):=hz;clear hneg;replace hz:=kA1 hz
    gi_wp2_with (gi_at_call 227;refine (hpre _).mono ?_;rintro e w2 ⟨rfl,hk⟩;have hb2:Below w.heap.size w w2:=(by obtain⟨k,rfl⟩:=hk;exact zA3 ((kA3 _ w).alloc (kA2 _) _) k);have hR2:w2.heap[w.heap.size]?=some (.cells #[.int .i64 0,.slice none 0 0] 234 (0,0)):=(by obtain⟨k,rfl⟩:=hk;exact zAS (zA4 w _) k);clear hk)
    obtain⟨w3,hw3⟩:∃w3,w3=w2:=⟨_,rfl⟩;subst hw3;have hb3:=hb2;have hR3:=hR2;clear hb2 hR2
    gi_wp2_with (gi_at_call 228;refine (zG3 (n-1) t _).mono ?_;rintro e w' ⟨rfl,rfl⟩)
    obtain⟨W,hW⟩:∃W,W=((w3.alloc (.cells #[.slice none 0 0] 232)).alloc (.cells #[.string t] 9)):=⟨_,rfl⟩;have hz3:W.heap.size=w3.heap.size+2:=by rw[hW];simp
    have hl3:w.heap.size<w3.heap.size:=zA5 hR3;have hbW:Below w.heap.size w W:=by rw[hW];exact (hb3.alloc hb3.size _).alloc kCX _
    have hR:W.heap[w.heap.size]?=some (.cells #[.int .i64 0,.slice none 0 0] 234 (0,0)):=by
      rw[hW];exact (kA4 _ _ _ kCX).trans ((kA4 _ _ _ hl3).trans hR3)
    have hQ:W.heap[w3.heap.size]?=some (.cells #[.slice none 0 0] 232 (0,0)):=by
      rw[hW];exact (kA4 _ _ _ kCV).trans (zA4 w3 _)
    have hB:W.heap[w3.heap.size+1]?=some (.cells #[.string t] 9 (0,0)):=by
      rw[hW];exact zAu _ _ _ kCV
    rw[← hW];clear hW hb3 hR3 hpre;refine zD2 (bb:=w3.heap.size+1) (s:=t)
      (fun c=>#[.string t,undef,.pointer (some ⟨w.heap.size,0,none⟩),.int .i64 1,.pointer (some ⟨w3.heap.size,0,none⟩),.string c,undef,undef,.string t,.bool false,undef,undef,.string t,
        .func (.func 257) #[] #[.pointer (some ⟨w3.heap.size+1,0,none⟩)],.string c,undef,undef,undef,undef,undef,undef,undef,undef,undef,undef,undef,undef,undef])
      rfl kCT hB
      (fun pre X=>∃v,X.ownsRow (W.heap.size+2) 270 1 v pre.length ((zBw pre).map (Value.int .u32))∧X.heap[w3.heap.size]?=some (.cells #[v] 232 (0,0))∧X.heap[w.heap.size]?=some (.cells #[.int .i64 0,.slice none 0 0] 234 (0,0))∧Below w.heap.size w X)
      ?hI ⟨_,kCh _ _ _ _,hQ,hR,hbW⟩ ?hI1 ?assign ?body ?done
    case hI =>
      rintro pre A B k⟨v,ho,hq,hr,hb⟩ hk hg;exact⟨v,zDL ho kCT hg,(hg.block _ (zA5 hq) kCZ).trans hq,(hg.block _ (zA5 hr) kCZ).trans hr,hb.grown hg hb.size (fun j e=>by injection e with e;omega)⟩
    case hI1 =>
      rintro A B⟨v,ho,hq,hr,hb⟩ hg;exact⟨v,zEp ho hg,(hg.block _ (zA5 hq) kCV).trans hq,(hg.block _ (zA5 hr) kCV).trans hr,hb.grown hg hb.size (fun j e=>by cases e)⟩
    case assign =>
      intro l c A K hK
      gi_wp2
      exact hK
    case body =>
      rintro pre c A W0⟨v,ho,hq,hr,hb⟩ hrest hlt hg hz0;have hcc:=HV.out.2.2 c (by obtain⟨rest,hrest⟩:=hrest;rw[hrest];simp);have hplen:pre.length≤1000:=by
        obtain⟨rest,hrest⟩:=hrest;rw[hrest,kAv] at hclen;omega
      have hq0:W0.heap[w3.heap.size]?=some (.cells #[v] 232 (0,0)):=(hg.block _ (zA5 hq) kCZ).trans hq;have hr0:W0.heap[w.heap.size]?=some (.cells #[.int .i64 0,.slice none 0 0] 234 (0,0)):=(hg.block _ (zA5 hr) kCZ).trans hr;have ho0:=zDL ho (k:=w.heap.size+1+(W.heap.size-w.heap.size)) (W':=W0) kCT (by rw[show w.heap.size+1+(W.heap.size-w.heap.size)=W.heap.size+1 by omega];exact hg);have hbw:Below w.heap.size w W0:=hb.grown hg hb.size (fun k e=>by injection e with e;omega);have hat:=fun wx=>(kBl (n:=n-1-1-1)).2 (zGd c (by have:=hcc.2.2;have e:c.size=c.data.toList.length:=rfl;omega) (decV c.data.toList) (atoi_dec hcc.1 hcc.2.1 hcc.2.2) wx)
      obtain⟨m,hm⟩:∃m:Int,m=(decV c.data.toList:Int):=⟨_,rfl⟩;rw[← hm] at hat;have hmlo:0≤m:=kCT
      have hmhi:m<1000000000:=by
        have h1:=zFZ hcc.1;have h2:10 ^ c.data.toList.length≤10 ^ 9:=kCm kCT hcc.2.2;omega
      replace hm:=kA1 hm;have hat2:∀l wx,CallsIn (Fence.wide.inRound l) (n-1-1-1) Tryz.prog 216 #[.string c] wx fun e w''=>e=.returned (.tuple #[.int .i64 m,.nilIface])∧Below wx.heap.size wx w'':=fun _=>hat
      have hF216:(Fence.wide.inRound (W.heap.size+1)).fn 216:=trivial;have hwm:m % 4294967296=m:=kCT
      clear hat hcc hrest;have HQ0:=kA1 hq0;clear hq
      gi_wp2
      refine⟨trivial,(hat2 _ _).mono ?_⟩;rintro e w1 ⟨rfl,hb1⟩;have hq1:=zA9 hb1 hq0;have q0:=zA1 hq1 0;have q1:=zA2 hq1 0;have hbx:=hbw.trans (hb1.mono hbw.size);have hrx:=zA9 hb1 hr0;have hs1:=hb1.size;have HB1:=kA1 hb1;have ho1:=zBU ho0 hb1;have hge:W.heap.size+2≤w1.heap.size:=kCT
      have hqlt:=zA5 hq1;clear hq0 hr0 hat2 ho ho0 hbw;obtain⟨i0,hi,iz0,iz1,iz2⟩:=info_parts info270;have HO:=zBU ho1 ((kA3 _ w1).alloc (kA2 _) (.cells #[.int .u32 m] 270));have HC:∀j u,([Value.int .u32 m]:List Value)[j]?=some u→(w1.alloc (.cells #[.int .u32 m] 270)).cell? ((⟨w1.heap.size,0,none⟩:Addr).add j)=some u:=by simpa using kBP (zA4 w1 (.cells #[.int .u32 m] 270))
      have hqne:some w3.heap.size≠v.ownBlock:=fun e=>by have:=(kBo HO _ e.symm).1;omega
      have H1:=kA1 HO;have H2:=kA1 HC;have hnb:=fun j (hj:some j=v.ownBlock)=>(kBo H1.out _ hj.symm).1
      have HNB:=kA1 hnb;have hbb1:pre.length+1≤maxLen:=kDb
      have hbb2:(pre.length+1)*4≤140737488355328:=kCT
      have hbb3:W.heap.size+2≤(w1.alloc (.cells #[.int .u32 m] 270)).heap.size:=kCX
      clear HO HC ho1 hnb
      gi_wp2_with (gi_at_builtin;go_loud (refine kC4 _ rfl _ _ 232 rfl (W.heap.size+2) 270 i0 (.int .u32 0) 1 4 Tryz.underlying232 hi iz0 iz1 iz2 rfl (kCn 0) v pre.length ((zBw pre).map (Value.int .u32)) rfl H1.out ⟨w1.heap.size,0,none⟩ 1 1 [.int .u32 m] rfl rfl H2.out kDm hbb1 hbb2 hbb3 ?_);intro v' w4 hown' hgrow _;obtain⟨Av,cv,rfl⟩:=zC3 hown';have hq2:=(hgrow.block (w3.heap.size) kCX hqne).trans ((kA4 _ _ _ hqlt).trans hq1);have c1:=zA1 hq2 0;have c2:=zA2 hq2 0;have HQ2:=kA1 hq2;have HO2:=kA1 hown';clear hown' hq2)
      have hgB:∀j,j<W.heap.size+2→∀o,w1.heap[j]?=some o→w4.heap[j]?=some o:=fun j hj o ho=>(hgrow.block j (by have:=zA5 ho;simp;omega) (fun e=>by have:=HNB.out j e;omega)).trans ((kA4 _ _ _ (zA5 ho)).trans ho)
      have hbx4:Below w.heap.size w w4:=(hbx.alloc hbx.size (.cells #[.int .u32 m] 270)).grown hgrow kCX (fun k e=>by have:=HNB.out k e.symm;omega);refine⟨?_,⟨.slice Av (pre.length+1) cv,?_,zA7 HQ2.out 0 _,?_,?_⟩,?_⟩
      · exact ((KeepsOthers.mk HB1.out.size (fun k o hk _=>zA9 HB1.out hk)).trans ((kCz w1 (.cells #[.int .u32 m] 270)).trans (kCb hgrow (fun j o hj ho=>by
          obtain⟨cells,hc⟩:=zD6 H1.out j hj;rw[hc] at ho;cases ho;rfl)))).trans (kBA _ _ _)
      · rw[kAv,zFL,← hm.out]
        exact zDL (k:=w3.heap.size) HO2.out kCT (kAf _ _ _ _)
      · exact (kA5 _ _ _ _ kCX).trans (hgB _ kCT _ hrx)
      · exact hbx4.setCell (p:=⟨w3.heap.size,0,none⟩) kCX _
      · have hbl:=zA5 hB
        have hbA:w3.heap.size+1<W0.heap.size:=kCT
        have hB0:W0.heap[w3.heap.size+1]?=w1.heap[w3.heap.size+1]?:=(HB1.out.block _ hbA).symm;refine (kA5 _ _ _ _ kCV).trans ?_;rw[hB0];exact (hgrow.block _ kCX (fun e=>by have:=HNB.out _ e;omega)).trans (kA4 _ _ _ kCT)
    case done =>
      rintro X⟨v,ho,h1,h4',h5⟩ hdef;rw[hz3] at hdef;rw[← zCx] at ho;obtain⟨A,c,rfl,hc,hC⟩:=own_u32 ho;have q0:=zA1 h1 0;have hmf:=zEP 1 A (zBw (zB5 t)) c X kCV HNE.out hc (.inl (by rw[zCx];omega)) hC HV.out.2.1;have hmi:=(kBl (n:=n-1)).2 hmf;rw[← hz.out] at hmi;have HMI:=kA1 hmi;clear hmi hmf hC ho;generalize (zBw (zB5 t)).length=NL at *
      gi_wp2_with (gi_at_call 229;refine HMI.out.mono ?_;rintro e w1 ⟨v,rfl,hv,hb1⟩;obtain⟨lv,gv,cv,rfl,hrest⟩:=hv.out;have hr1:=zA9 hb1 h4';have d0:=zA1 hr1 0;have d1:=zA1 hr1 1;have f0:=zA2 hr1 0;have f1:=zA2 hr1 1;have HR1:=kA1 hr1;have HV1:=kA1 hv;clear hr1 hv hrest)
      have hdl:=zA5 hdef;have hd1:=zA9 hb1 hdef;have hYd:((w1.setCell ⟨w.heap.size,0,none⟩ (.int .i64 (Int.sign z))).setCell ⟨w.heap.size,1,none⟩ (.slice gv lv.length cv)).heap[(w3.heap.size+2)]?=some (.deferred (some [])):=(kA5 _ _ _ _ kD3).trans ((kA5 _ _ _ _ kD3).trans hd1);have hY:=zBP (.int .i64 (Int.sign z)) (.slice gv lv.length cv) HR1.out;have hYv:=zCP HV1.out HR1.out (.int .i64 (Int.sign z)) (.slice gv lv.length cv);have hYb:=((h5.trans (hb1.mono h5.size)).setCell (p:=⟨w.heap.size,0,none⟩) (kA2 _) (.int .i64 (Int.sign z))).setCell (p:=⟨w.heap.size,1,none⟩) (kA2 _) (.slice gv lv.length cv);generalize (w1.setCell ⟨w.heap.size,0,none⟩ (.int .i64 (Int.sign z))).setCell ⟨w.heap.size,1,none⟩ (.slice gv lv.length cv)=Y at *;refine⟨kCV,.inl ⟨_,_,rfl,kC8 hYd,?_⟩⟩;have j0:=(kAp (w:=Y) (o:=.deferred none) (r:=(w3.heap.size+2)) kCT).trans hY;refine⟨_,zAg Tryz.results189 _ _ w.heap.size 234 _ (0,0) _ rfl j0 Tryz.underlying234 rfl zBT,_,rfl,LN_put hYv hYd,hYb.grown (zAt _ _ _) hYb.size (fun k e=>by injection e with e;omega)⟩
  · rw[hneg] at hpre hz ht
    have ht':s.extract 1 s.size=t:=by rw[ht];rfl
    have hs1:1≤s.size:=by have e:t.size=s.size-1:=by rw[← ht'];simp
                          omega
    have hsb:s.size≤1000:=by have e:t.size=s.size-1:=by rw[← ht'];simp
                             omega
    replace hz:z=-1*val (zBw (zB5 t)):=hz;clear ht hneg;replace ht':=kA1 ht';replace hz:=kA1 hz
    gi_wp2_with (gi_at_call 227;refine (hpre _).mono ?_;rintro e w2 ⟨rfl,hk⟩;have hb2:Below w.heap.size w w2:=(by obtain⟨k,rfl⟩:=hk;exact zA3 ((kA3 _ w).alloc (kA2 _) _) k);have hR2:w2.heap[w.heap.size]?=some (.cells #[.int .i64 0,.slice none 0 0] 234 (0,0)):=(by obtain⟨k,rfl⟩:=hk;exact zAS (zA4 w _) k);clear hk)
    gi_region
    all_goals
      try rw[ht'.out]
    have hb3:Below w.heap.size w w2.drew:=hb2.drew;have hR3:w2.drew.heap[w.heap.size]?=some (.cells #[.int .i64 0,.slice none 0 0] 234 (0,0)):=hR2;clear hb2 hR2;generalize w2.drew=w3 at *
    gi_wp2_with (gi_at_call 228;refine (zG3 (n-1) t _).mono ?_;rintro e w' ⟨rfl,rfl⟩)
    obtain⟨W,hW⟩:∃W,W=((w3.alloc (.cells #[.slice none 0 0] 232)).alloc (.cells #[.string t] 9)):=⟨_,rfl⟩;have hz3:W.heap.size=w3.heap.size+2:=by rw[hW];simp
    have hl3:w.heap.size<w3.heap.size:=zA5 hR3;have hbW:Below w.heap.size w W:=by rw[hW];exact (hb3.alloc hb3.size _).alloc kCX _
    have hR:W.heap[w.heap.size]?=some (.cells #[.int .i64 0,.slice none 0 0] 234 (0,0)):=by
      rw[hW];exact (kA4 _ _ _ kCX).trans ((kA4 _ _ _ hl3).trans hR3)
    have hQ:W.heap[w3.heap.size]?=some (.cells #[.slice none 0 0] 232 (0,0)):=by
      rw[hW];exact (kA4 _ _ _ kCV).trans (zA4 w3 _)
    have hB:W.heap[w3.heap.size+1]?=some (.cells #[.string t] 9 (0,0)):=by
      rw[hW];exact zAu _ _ _ kCV
    rw[← hW];clear hW hb3 hR3 hpre;refine zD2 (bb:=w3.heap.size+1) (s:=t)
      (fun c=>#[.string t,undef,.pointer (some ⟨w.heap.size,0,none⟩),.int .i64 (-1),.pointer (some ⟨w3.heap.size,0,none⟩),.string c,undef,undef,.string s,.bool true,.string s,.string t,.string t,
        .func (.func 257) #[] #[.pointer (some ⟨w3.heap.size+1,0,none⟩)],.string c,undef,undef,undef,undef,undef,undef,undef,undef,undef,undef,undef,undef,undef])
      rfl kCT hB
      (fun pre X=>∃v,X.ownsRow (W.heap.size+2) 270 1 v pre.length ((zBw pre).map (Value.int .u32))∧X.heap[w3.heap.size]?=some (.cells #[v] 232 (0,0))∧X.heap[w.heap.size]?=some (.cells #[.int .i64 0,.slice none 0 0] 234 (0,0))∧Below w.heap.size w X)
      ?hI ⟨_,kCh _ _ _ _,hQ,hR,hbW⟩ ?hI1 ?assign ?body ?done
    case hI =>
      rintro pre A B k⟨v,ho,hq,hr,hb⟩ hk hg;exact⟨v,zDL ho kCT hg,(hg.block _ (zA5 hq) kCZ).trans hq,(hg.block _ (zA5 hr) kCZ).trans hr,hb.grown hg hb.size (fun j e=>by injection e with e;omega)⟩
    case hI1 =>
      rintro A B⟨v,ho,hq,hr,hb⟩ hg;exact⟨v,zEp ho hg,(hg.block _ (zA5 hq) kCV).trans hq,(hg.block _ (zA5 hr) kCV).trans hr,hb.grown hg hb.size (fun j e=>by cases e)⟩
    case assign =>
      intro l c A K hK
      gi_wp2
      exact hK
    case body =>
      rintro pre c A W0⟨v,ho,hq,hr,hb⟩ hrest hlt hg hz0;have hcc:=HV.out.2.2 c (by obtain⟨rest,hrest⟩:=hrest;rw[hrest];simp);have hplen:pre.length≤1000:=by
        obtain⟨rest,hrest⟩:=hrest;rw[hrest,kAv] at hclen;omega
      have hq0:W0.heap[w3.heap.size]?=some (.cells #[v] 232 (0,0)):=(hg.block _ (zA5 hq) kCZ).trans hq;have hr0:W0.heap[w.heap.size]?=some (.cells #[.int .i64 0,.slice none 0 0] 234 (0,0)):=(hg.block _ (zA5 hr) kCZ).trans hr;have ho0:=zDL ho (k:=w.heap.size+1+(W.heap.size-w.heap.size)) (W':=W0) kCT (by rw[show w.heap.size+1+(W.heap.size-w.heap.size)=W.heap.size+1 by omega];exact hg);have hbw:Below w.heap.size w W0:=hb.grown hg hb.size (fun k e=>by injection e with e;omega);have hat:=fun wx=>(kBl (n:=n-1-1-1)).2 (zGd c (by have:=hcc.2.2;have e:c.size=c.data.toList.length:=rfl;omega) (decV c.data.toList) (atoi_dec hcc.1 hcc.2.1 hcc.2.2) wx)
      obtain⟨m,hm⟩:∃m:Int,m=(decV c.data.toList:Int):=⟨_,rfl⟩;rw[← hm] at hat;have hmlo:0≤m:=kCT
      have hmhi:m<1000000000:=by
        have h1:=zFZ hcc.1;have h2:10 ^ c.data.toList.length≤10 ^ 9:=kCm kCT hcc.2.2;omega
      replace hm:=kA1 hm;have hat2:∀l wx,CallsIn (Fence.wide.inRound l) (n-1-1-1) Tryz.prog 216 #[.string c] wx fun e w''=>e=.returned (.tuple #[.int .i64 m,.nilIface])∧Below wx.heap.size wx w'':=fun _=>hat
      have hF216:(Fence.wide.inRound (W.heap.size+1)).fn 216:=trivial;have hwm:m % 4294967296=m:=kCT
      clear hat hcc hrest;have HQ0:=kA1 hq0;clear hq
      gi_wp2
      refine⟨trivial,(hat2 _ _).mono ?_⟩;rintro e w1 ⟨rfl,hb1⟩;have hq1:=zA9 hb1 hq0;have q0:=zA1 hq1 0;have q1:=zA2 hq1 0;have hbx:=hbw.trans (hb1.mono hbw.size);have hrx:=zA9 hb1 hr0;have hs1:=hb1.size;have HB1:=kA1 hb1;have ho1:=zBU ho0 hb1;have hge:W.heap.size+2≤w1.heap.size:=kCT
      have hqlt:=zA5 hq1;clear hq0 hr0 hat2 ho ho0 hbw;obtain⟨i0,hi,iz0,iz1,iz2⟩:=info_parts info270;have HO:=zBU ho1 ((kA3 _ w1).alloc (kA2 _) (.cells #[.int .u32 m] 270));have HC:∀j u,([Value.int .u32 m]:List Value)[j]?=some u→(w1.alloc (.cells #[.int .u32 m] 270)).cell? ((⟨w1.heap.size,0,none⟩:Addr).add j)=some u:=by simpa using kBP (zA4 w1 (.cells #[.int .u32 m] 270))
      have hqne:some w3.heap.size≠v.ownBlock:=fun e=>by have:=(kBo HO _ e.symm).1;omega
      have H1:=kA1 HO;have H2:=kA1 HC;have hnb:=fun j (hj:some j=v.ownBlock)=>(kBo H1.out _ hj.symm).1
      have HNB:=kA1 hnb;have hbb1:pre.length+1≤maxLen:=kDb
      have hbb2:(pre.length+1)*4≤140737488355328:=kCT
      have hbb3:W.heap.size+2≤(w1.alloc (.cells #[.int .u32 m] 270)).heap.size:=kCX
      clear HO HC ho1 hnb
      gi_wp2_with (gi_at_builtin;go_loud (refine kC4 _ rfl _ _ 232 rfl (W.heap.size+2) 270 i0 (.int .u32 0) 1 4 Tryz.underlying232 hi iz0 iz1 iz2 rfl (kCn 0) v pre.length ((zBw pre).map (Value.int .u32)) rfl H1.out ⟨w1.heap.size,0,none⟩ 1 1 [.int .u32 m] rfl rfl H2.out kDm hbb1 hbb2 hbb3 ?_);intro v' w4 hown' hgrow _;obtain⟨Av,cv,rfl⟩:=zC3 hown';have hq2:=(hgrow.block (w3.heap.size) kCX hqne).trans ((kA4 _ _ _ hqlt).trans hq1);have c1:=zA1 hq2 0;have c2:=zA2 hq2 0;have HQ2:=kA1 hq2;have HO2:=kA1 hown';clear hown' hq2)
      have hgB:∀j,j<W.heap.size+2→∀o,w1.heap[j]?=some o→w4.heap[j]?=some o:=fun j hj o ho=>(hgrow.block j (by have:=zA5 ho;simp;omega) (fun e=>by have:=HNB.out j e;omega)).trans ((kA4 _ _ _ (zA5 ho)).trans ho)
      have hbx4:Below w.heap.size w w4:=(hbx.alloc hbx.size (.cells #[.int .u32 m] 270)).grown hgrow kCX (fun k e=>by have:=HNB.out k e.symm;omega);refine⟨?_,⟨.slice Av (pre.length+1) cv,?_,zA7 HQ2.out 0 _,?_,?_⟩,?_⟩
      · exact ((KeepsOthers.mk HB1.out.size (fun k o hk _=>zA9 HB1.out hk)).trans ((kCz w1 (.cells #[.int .u32 m] 270)).trans (kCb hgrow (fun j o hj ho=>by
          obtain⟨cells,hc⟩:=zD6 H1.out j hj;rw[hc] at ho;cases ho;rfl)))).trans (kBA _ _ _)
      · rw[kAv,zFL,← hm.out]
        exact zDL (k:=w3.heap.size) HO2.out kCT (kAf _ _ _ _)
      · exact (kA5 _ _ _ _ kCX).trans (hgB _ kCT _ hrx)
      · exact hbx4.setCell (p:=⟨w3.heap.size,0,none⟩) kCX _
      · have hbl:=zA5 hB
        have hbA:w3.heap.size+1<W0.heap.size:=kCT
        have hB0:W0.heap[w3.heap.size+1]?=w1.heap[w3.heap.size+1]?:=(HB1.out.block _ hbA).symm;refine (kA5 _ _ _ _ kCV).trans ?_;rw[hB0];exact (hgrow.block _ kCX (fun e=>by have:=HNB.out _ e;omega)).trans (kA4 _ _ _ kCT)
    case done =>
      rintro X⟨v,ho,h1,h4',h5⟩ hdef;rw[hz3] at hdef;rw[← zCx] at ho;obtain⟨A,c,rfl,hc,hC⟩:=own_u32 ho;have q0:=zA1 h1 0;have hmf:=zEP (-1) A (zBw (zB5 t)) c X kCV HNE.out hc (.inl (by rw[zCx];omega)) hC HV.out.2.1;have hmi:=(kBl (n:=n-1)).2 hmf;rw[← hz.out] at hmi;have HMI:=kA1 hmi;clear hmi hmf hC ho;generalize (zBw (zB5 t)).length=NL at *
      gi_wp2_with (gi_at_call 229;refine HMI.out.mono ?_;rintro e w1 ⟨v,rfl,hv,hb1⟩;obtain⟨lv,gv,cv,rfl,hrest⟩:=hv.out;have hr1:=zA9 hb1 h4';have d0:=zA1 hr1 0;have d1:=zA1 hr1 1;have f0:=zA2 hr1 0;have f1:=zA2 hr1 1;have HR1:=kA1 hr1;have HV1:=kA1 hv;clear hr1 hv hrest)
      have hdl:=zA5 hdef;have hd1:=zA9 hb1 hdef;have hYd:((w1.setCell ⟨w.heap.size,0,none⟩ (.int .i64 (Int.sign z))).setCell ⟨w.heap.size,1,none⟩ (.slice gv lv.length cv)).heap[(w3.heap.size+2)]?=some (.deferred (some [])):=(kA5 _ _ _ _ kD3).trans ((kA5 _ _ _ _ kD3).trans hd1);have hY:=zBP (.int .i64 (Int.sign z)) (.slice gv lv.length cv) HR1.out;have hYv:=zCP HV1.out HR1.out (.int .i64 (Int.sign z)) (.slice gv lv.length cv);have hYb:=((h5.trans (hb1.mono h5.size)).setCell (p:=⟨w.heap.size,0,none⟩) (kA2 _) (.int .i64 (Int.sign z))).setCell (p:=⟨w.heap.size,1,none⟩) (kA2 _) (.slice gv lv.length cv);generalize (w1.setCell ⟨w.heap.size,0,none⟩ (.int .i64 (Int.sign z))).setCell ⟨w.heap.size,1,none⟩ (.slice gv lv.length cv)=Y at *;refine⟨kCV,.inl ⟨_,_,rfl,kC8 hYd,?_⟩⟩;have j0:=(kAp (w:=Y) (o:=.deferred none) (r:=(w3.heap.size+2)) kCT).trans hY;refine⟨_,zAg Tryz.results189 _ _ w.heap.size 234 _ (0,0) _ rfl j0 Tryz.underlying234 rfl zBT,_,rfl,LN_put hYv hYd,hYb.grown (zAt _ _ _) hYb.size (fun k e=>by injection e with e;omega)⟩
end
end Go.Proofs.YtjaobihcdkjmbaaGreatDoor
end
