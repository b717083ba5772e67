/- The law ReadFree answers true for every argument; a part of its proof. -/
import Derived.Test.YtjaobihcdkjmbaaGreatDoorF17
set_option linter.unusedVariables false
set_option linter.unusedSimpArgs false
section
namespace Go.Proofs.YtjaobihcdkjmbaaGreatDoor
open Go.RowKit Go.Proofs.YtjaobihcdkjmbaaGreatDoorW.PrintWords Go.Proofs.YtjaobihcdkjmbaaGreatDoor.PReadTokens
def decF (acc:Nat) (l:List UInt8):Nat:=l.foldl (fun a c=>a * 10+(c.toNat - 48)) acc
def decV (l:List UInt8):Nat:=decF 0 l
def Digs (l:List UInt8):Prop:=∀ c ∈ l,48≤c.toNat∧c.toNat≤57
theorem decF_nil (acc:Nat):decF acc []=acc:=id (Eq.refl _)
theorem decF_cons (acc:Nat) (c:UInt8) (r:List UInt8):decF acc (c :: r)=decF (acc * 10+(c.toNat - 48)) r:=id (Eq.refl _)
theorem step_mul (acc d B X:Nat):(acc * 10+d) * B+X=acc * (B * 10)+((0 * 10+d) * B+X):=by
 rw [Nat.add_mul,Nat.zero_mul,Nat.zero_add,Nat.mul_assoc acc,Nat.mul_comm 10 B]
 omega
theorem decF_eq:∀ (l:List UInt8) (acc:Nat),decF acc l=acc * 10 ^ l.length+decF 0 l
 | [],acc=>by rw [decF_nil,decF_nil];show acc=acc * 1+0;omega
 | c :: r,acc=>by
  rw [decF_cons,decF_cons,List.length_cons,decF_eq r (acc * 10+(c.toNat - 48)),decF_eq r (0 * 10+(c.toNat - 48)),Nat.pow_succ]
  exact step_mul _ _ _ _
theorem decF_app:∀ (a b:List UInt8) (acc:Nat),decF acc (a++b)=decF (decF acc a) b
 | [],b,acc=>by rw [List.nil_append,decF_nil]
 | c :: r,b,acc=>by rw [List.cons_append,decF_cons,decF_cons];exact decF_app r b _
theorem decV_app (a b:List UInt8):decV (a++b)=decV a * 10 ^ b.length+decV b:=by
 unfold decV
 rw [decF_app,decF_eq b (decF 0 a)]
theorem Digs.tail {c:UInt8} {r:List UInt8} (h:Digs (c :: r)):Digs r:=fun x hx=>h x (List.mem_cons_of_mem _ hx)
theorem Digs.take {l:List UInt8} (h:Digs l) (n:Nat):Digs (l.take n):=fun x hx=>h x (List.mem_of_mem_take hx)
theorem Digs.drop {l:List UInt8} (h:Digs l) (n:Nat):Digs (l.drop n):=fun x hx=>h x (List.mem_of_mem_drop hx)
theorem decV_cons (c:UInt8) (r:List UInt8):decV (c :: r)=(c.toNat - 48) * 10 ^ r.length+decV r:=by
 unfold decV
 rw [decF_cons,decF_eq,Nat.zero_mul,Nat.zero_add]
theorem decV_lt:∀ {l:List UInt8},Digs l→decV l < 10 ^ l.length
 | [],_=>by show 0 < 1;omega
 | c :: r,h=>by
  have h1:=decV_lt (l:=r) h.tail
  have h2:=h c (List.mem_cons_self ..)
  rw [decV_cons,List.length_cons,Nat.pow_succ]
  generalize 10 ^ r.length=B at *
  have h3:(c.toNat - 48) * B≤9 * B:=Nat.mul_le_mul_right _ (by omega)
  omega
theorem parse_dec:∀ (l:List UInt8) (acc:Nat),Digs l→decF acc l < 1844674407370955162→Lib.parseUint10 acc l=.ok (decF acc l)
 | [],acc,_,_=>by rw [decF_nil];rfl
 | c :: r,acc,hd,hlt=>by
  have h2:=hd c (List.mem_cons_self ..)
  have hlt':decF (acc * 10+(c.toNat - 48)) r < 1844674407370955162:=by rwa [decF_cons] at hlt
  have hmono:acc * 10+(c.toNat - 48)≤decF (acc * 10+(c.toNat - 48)) r:=by
   rw [decF_eq]
   have h1:0 < 10 ^ r.length:=Nat.pow_pos (by omega)
   generalize 10 ^ r.length=B at *
   generalize acc * 10+(c.toNat - 48)=y at *
   have:=Nat.mul_le_mul_left y h1
   omega
  have ih:=parse_dec r (acc * 10+(c.toNat - 48)) hd.tail hlt'
  rw [Lib.parseUint10,if_pos h2,if_neg (by omega),if_neg (by omega),decF_cons]
  exact ih
theorem atoi_dec {l:List UInt8} (h:Digs l) (h0:l≠[]) (h9:l.length≤9):Lib.atoiAll l=.ok (decV l:Int):=by
 have hlt:=decV_lt h
 have h10:10 ^ l.length≤10 ^ 9:=Nat.pow_le_pow_right (by omega) h9
 have hp:=parse_dec l 0 h (by show decV l < _;omega)
 cases l with
 | nil=>exact absurd rfl h0
 | cons c r =>
  have h2:=h c (List.mem_cons_self ..)
  unfold Lib.atoiAll
  simp only
  rw [if_neg (by omega)]
  unfold Lib.parseMag
  rw [if_neg (by simp),hp]
  have e1:¬ c.toNat=45:=by omega
  simp only [e1,not_false_eq_true,true_and,false_and,if_false]
  show (if 9223372036854775808≤decV (c :: r) then _ else _)=_
  rw [if_neg (by omega)]
  rfl
def numsOf (cs:List ByteArray):List Int:=cs.map fun c=>(decV c.data.toList:Int)
theorem extract_lo (t:ByteArray) (a:Nat):(t.extract 0 a).data.toList=t.data.toList.take a:=by
 rw [Lib.extract_data,List.drop_zero,Nat.sub_zero]
theorem extract_hi (t:ByteArray) (a:Nat):(t.extract a t.size).data.toList=t.data.toList.drop a:=by
 rw [Lib.extract_data]
 exact List.take_of_length_le (by simp)
theorem chunk_num (t:ByteArray) (h:Digs t.data.toList) (h0:t.size≠0):Digs (t.extract (t.size - 9) t.size).data.toList∧(t.extract (t.size - 9) t.size).data.toList≠[]∧(t.extract (t.size - 9) t.size).data.toList.length≤9:=by
 rw [extract_hi]
 have hl:t.data.toList.length=t.size:=rfl
 refine ⟨h.drop _,?_,?_⟩
 ·intro e
  have:=congrArg List.length e
  rw [List.length_drop,hl] at this
  simp at this
  omega
 ·rw [List.length_drop,hl];omega
theorem chunks_val (k:Nat):∀ t:ByteArray,Digs t.data.toList→t.size < k→val (numsOf (chunkF k t))=decV t.data.toList∧Limb (numsOf (chunkF k t))∧∀ c ∈ chunkF k t,Digs c.data.toList∧c.data.toList≠[]∧c.data.toList.length≤9:=by
 induction k with
 | zero=>intro t _ h;omega
 | succ k ih =>
  intro t hd hk
  have hl:t.data.toList.length=t.size:=rfl
  rw [chunkF]
  by_cases h0:t.size=0
  ·rw [if_pos h0]
   have e:t.data.toList=[]:=List.eq_nil_of_length_eq_zero h0
   refine ⟨by rw [e];rfl,fun x hx=>by simp [numsOf] at hx,fun c hc=>by simp at hc⟩
  ·rw [if_neg h0]
   have hc:=chunk_num t hd h0
   have hlo:(t.extract 0 (t.size - 9)).data.toList=t.data.toList.take (t.size - 9):=extract_lo _ _
   have hhi:(t.extract (t.size - 9) t.size).data.toList=t.data.toList.drop (t.size - 9):=extract_hi _ _
   have hsz:(t.extract 0 (t.size - 9)).size < k:=by simp;omega
   obtain ⟨i1,i2,i3⟩:=ih _ (by rw [hlo];exact hd.take _) hsz
   have hlt:=decV_lt hc.1
   have h10:10 ^ (t.extract (t.size - 9) t.size).data.toList.length≤10 ^ 9:=Nat.pow_le_pow_right (by omega) hc.2.2
   refine ⟨?_,?_,?_⟩
   ·show val ((decV (t.extract (t.size - 9) t.size).data.toList:Int) :: numsOf (chunkF k (t.extract 0 (t.size - 9))))=_
    simp only [val]
    rw [i1,hlo,hhi]
    have e:=decV_app (t.data.toList.take (t.size - 9)) (t.data.toList.drop (t.size - 9))
    rw [List.take_append_drop,List.length_drop,hl] at e
    rw [e]
    by_cases h9:t.size≤9
    ·have e0:t.size - 9=0:=by omega
     rw [e0,List.take_zero]
     have:decV ([]:List UInt8)=0:=rfl
     rw [this]
     generalize decV (List.drop 0 t.data.toList)=b
     omega
    ·rw [show t.size - (t.size - 9)=9 by omega]
     generalize decV (List.take (t.size - 9) t.data.toList)=a
     generalize decV (List.drop (t.size - 9) t.data.toList)=b
     have h9:(10:Nat) ^ 9=1000000000:=rfl
     rw [h9]
     omega
   ·intro x hx
    rcases List.mem_cons.1 (show x ∈ (decV (t.extract (t.size - 9) t.size).data.toList:Int) :: numsOf (chunkF k (t.extract 0 (t.size - 9))) from hx) with rfl | hx
    ·constructor <;> omega
    ·exact i2 x hx
   ·intro c hcm
    rcases List.mem_cons.1 hcm with rfl | hcm
    ·exact hc
    ·exact i3 c hcm
theorem chunksOf_val {s:ByteArray} (h:Digs s.data.toList):val (numsOf (chunksOf s))=decV s.data.toList∧Limb (numsOf (chunksOf s))∧∀ c ∈ chunksOf s,Digs c.data.toList∧c.data.toList≠[]∧c.data.toList.length≤9 :=
 chunks_val _ s h (Nat.lt_succ_self _)
theorem chunksOf_ne {s:ByteArray} (h:0 < s.size):numsOf (chunksOf s)≠[]:=by
 unfold chunksOf
 rw [chunkF,if_neg (by omega)]
 simp [numsOf]
end Go.Proofs.YtjaobihcdkjmbaaGreatDoor
end
section
namespace Go.Proofs.YtjaobihcdkjmbaaGreatDoor
open Go.RowKit Go.Proofs.YtjaobihcdkjmbaaGreatDoorW.PrintWords Go.Proofs.YtjaobihcdkjmbaaGreatDoor.PReadTokens
def negB (s:ByteArray):Bool:=match s.data.toList with | []=>false | c :: _=>c == 45
def trimB (s:ByteArray):ByteArray:=if negB s then s.extract 1 s.size else s
def digC (c:UInt8):Bool:=decide (48≤c.toNat) && decide (c.toNat≤57)
def zeroHead (s:ByteArray):Bool:=match (trimB s).data.toList with | []=>false | c :: _=>c == 48
def formB (s:ByteArray):Bool:=decide (0 < (trimB s).size) && !(zeroHead s && (decide (1 < (trimB s).size) || decide (1 < s.size))) && (trimB s).data.toList.all digC
theorem prefix_neg (s:ByteArray):stringslite_HasPrefix.f s ⟨#[45]⟩=some (negB s):=by
 unfold stringslite_HasPrefix.f negB
 have s2:(⟨#[45]⟩:ByteArray).size=1:=rfl
 rw [s2]
 cases hl:s.data.toList with
 | nil =>
  have hz:s.size=0:=by show s.data.toList.length=0;rw [hl];rfl
  simp [hz]
 | cons c r =>
  have hz:s.size=r.length+1:=by show s.data.toList.length=_;rw [hl];rfl
  have he:(s.extract 0 1).toList=[c]:=by
   rw [ByteArray.toList_eq,Lib.extract_data,hl];rfl
  have h45:(⟨#[45]⟩:ByteArray).toList=[45]:=by rw [ByteArray.toList_eq]
  simp only [Int.toNat_natCast]
  rw [if_pos (by omega),if_pos (by omega),if_pos (by omega),he,h45]
  simp
theorem trim_f (s:ByteArray):strings_TrimPrefix.f s ⟨#[45]⟩=some (trimB s):=by
 unfold strings_TrimPrefix.f stringslite_TrimPrefix.f trimB
 rw [prefix_neg]
 have s2:(⟨#[45]⟩:ByteArray).size=1:=rfl
 cases hn:negB s
 ·simp
 ·have h1:1≤s.size:=by
   unfold negB at hn
   cases hl:s.data.toList with
   | nil=>rw [hl] at hn;cases hn
   | cons c r=>show 1≤s.data.toList.length;rw [hl];simp
  simp [s2]
  omega
theorem trim_calls (s:ByteArray) (w:World):Calls Tryz.prog 124 #[.string s,.string ⟨#[45]⟩] w fun e w'=>e=.returned (.string (trimB s))∧∃ n,w'=w.drewN n :=
 (strings_TrimPrefix.calls s ⟨#[45]⟩ (trimB s) w (trim_f s)).mono fun _ _ ⟨a,b⟩=>⟨a,b.out⟩
theorem trim_size (s:ByteArray):(trimB s).size≤s.size:=by
 unfold trimB
 split
 ·simp
 ·exact Nat.le_refl _
theorem rune_digC (s:ByteArray) (pos:Nat) (h:pos < s.size) :
  digC (s[pos]'h)=(decide ((48:Int)≤((Utf8.decode s pos).1:Nat)) && decide ((((Utf8.decode s pos).1:Nat):Int)≤57))∧(digC (s[pos]'h)=true→(Utf8.decode s pos).2=1):=by
 by_cases ha:(s[pos]'h).toNat < 128
 ·rw [decode_ascii s pos h ha]
  refine ⟨?_,fun _=>rfl⟩
  unfold digC
  simp only
  congr 1 <;> exact decide_eq_decide.2 (by omega)
 ·have hh:=(decode_high s pos h (by omega)).1
  have e:digC (s[pos]'h)=false:=by
   unfold digC
   rw [Bool.and_eq_false_iff]
   exact .inr (decide_eq_false (by omega))
  rw [e]
  refine ⟨?_,fun h=>by cases h⟩
  symm
  rw [Bool.and_eq_false_iff]
  exact .inr (decide_eq_false (by omega))
theorem all_drop (s:ByteArray) (pos:Nat) (h:pos < s.size):(s.data.toList.drop pos).all digC=(digC (s[pos]'h) && (s.data.toList.drop (pos+1)).all digC):=by
 rw [List.drop_eq_getElem_cons (show pos < s.data.toList.length from h)]
 rfl
set_option maxRecDepth 100000 in
set_option maxHeartbeats 4000000 in
theorem form_calls (s:ByteArray) (hs:s.size≤9223372036854775807) (w:World):Calls Tryz.prog 256 #[.string s] w fun e w'=>e=.returned (.bool (formB s))∧Below w.heap.size w w':=by
 have htp:=Lib.hid (fun w=>trim_calls s w)
 have hts:=trim_size s
 obtain ⟨t,ht⟩:∃ t,t=trimB s:=⟨_,rfl⟩
 have hz:zeroHead s=match t.data.toList with | []=>false | c :: _=>c == 48:=by rw [ht];rfl
 have hform:formB s=(decide (0 < t.size) && !(zeroHead s && (decide (1 < t.size) || decide (1 < s.size))) && t.data.toList.all digC):=by rw [ht];rfl
 rw [← ht] at htp hts
 clear ht
 generalize formB s=R at *
 by_cases h0:t.size=0
 ·have hemp:t.toList=[]:=str_empty h0
  have hR:R=false:=by rw [hform,h0];rfl
  subst hR
  clear hform hz h0
  go_enter Tryz.func256,Tryz.ntmps256
  go_wp2_with (go_at_call 124;refine (htp.out _).mono ?_;rintro e w1 ⟨rfl,k,rfl⟩)
  go_ret
  exact ⟨rfl,pw_below_drewN (Below.refl _ w) k⟩
 ·have hp:0 < t.size:=by omega
  have hemp:t.toList.isEmpty=false:=str_some hp
  have hzh:zeroHead s=decide (((t[0]'hp).toNat:Int)=48):=by
   rw [hz]
   cases hl:t.data.toList with
   | nil=>exfalso;have:t.size=t.data.toList.length:=rfl;rw [hl,List.length_nil] at this;omega
   | cons c r =>
    have e:t[0]'hp=c:=by
     show t.data.toList[0]'hp=c
     simp [hl]
    rw [e]
    simp only
    rw [Bool.eq_iff_iff]
    simp only [beq_iff_eq,decide_eq_true_eq]
    rw [← UInt8.toNat_inj]
    constructor
    ·intro h;rw [h];rfl
    ·intro h;have:c.toNat=48:=by omega
     rw [this];rfl
  rw [decide_eq_true hp,Bool.true_and,hzh] at hform
  clear hz hzh h0
  by_cases hbad:((t[0]'hp).toNat:Int)=48∧(1 < t.size∨1 < s.size)
  ·obtain ⟨hb48,hbig⟩:=hbad
   have q48:(((t[0]'hp).toNat:Int) == 48)=true:=beq_iff_eq.2 hb48
   have hR:R=false:=by
    rw [hform,decide_eq_true hb48,Bool.true_and]
    rcases hbig with h | h
    ·rw [decide_eq_true h];rfl
    ·rw [decide_eq_true h,Bool.or_true];rfl
   subst hR
   clear hform hb48
   by_cases hb1:1 < t.size
   ·have e1:decide (1 < (t.size:Int))=true:=decide_eq_true (by omega)
    go_enter Tryz.func256,Tryz.ntmps256
    go_wp2_with (go_at_call 124;refine (htp.out _).mono ?_;rintro e w1 ⟨rfl,k,rfl⟩)
    go_ret
    exact ⟨rfl,pw_below_drewN (Below.refl _ w) k⟩
   ·have e1:decide (1 < (t.size:Int))=false:=decide_eq_false (by omega)
    have e2:decide (1 < (s.size:Int))=true:=decide_eq_true (by omega)
    go_enter Tryz.func256,Tryz.ntmps256
    go_wp2_with (go_at_call 124;refine (htp.out _).mono ?_;rintro e w1 ⟨rfl,k,rfl⟩)
    go_ret
    exact ⟨rfl,pw_below_drewN (Below.refl _ w) k⟩
  ·have hR:R=t.data.toList.all digC:=by
    rw [hform]
    by_cases h48:((t[0]'hp).toNat:Int)=48
    ·have hb:¬ (1 < t.size∨1 < s.size):=fun h=>hbad ⟨h48,h⟩
     rw [decide_eq_false (show ¬ 1 < t.size by omega),decide_eq_false (show ¬ 1 < s.size by omega)]
     simp
    ·rw [decide_eq_false h48];rfl
   have hc:((((t[0]'hp).toNat:Int) == 48)=true∧decide (1 < (t.size:Int))=false∧decide (1 < (s.size:Int))=false)∨((((t[0]'hp).toNat:Int) == 48)=false):=by
    by_cases h48:((t[0]'hp).toNat:Int)=48
    ·have hb:¬ (1 < t.size∨1 < s.size):=fun h=>hbad ⟨h48,h⟩
     exact .inl ⟨beq_iff_eq.2 h48,decide_eq_false (by omega),decide_eq_false (by omega)⟩
    ·exact .inr (beq_eq_false_iff_ne.2 h48)
   have HR:=Lib.hid hR
   clear hform hR hbad
   rcases hc with ⟨q48,e1,e2⟩ | q48
   all_goals
    go_enter Tryz.func256,Tryz.ntmps256
    go_wp2_with (go_at_call 124;refine (htp.out _).mono ?_;rintro e w1 ⟨rfl,k,rfl⟩)
    have hb1:Below w.heap.size w (w.drewN k):=pw_below_drewN (Below.refl _ w) k
    have hse:(w.drewN k).heap.size=w.heap.size:=by rw [World.heap_drewN]
    generalize w.drewN k=w1 at *
    have hit:IterAt w1 t 0 (w1.iter t 0):=⟨(Below.refl _ _).alloc (Nat.le_refl _) _,World.iter_heap _ _ _⟩
    replace hse:=Lib.hid hse
    rw [← hse.out]
    go_loopg [] t.size (fun k wr=>∃ pos,pos+k=t.size∧IterAt w1 t pos wr∧Hid (R=(t.data.toList.drop pos).all digC))
    case atStart=>exact ⟨0,by omega,hit,Lib.hid (by rw [HR.out,List.drop_zero])⟩
    case round =>
     clear hit q48
     obtain ⟨pos,hpos,hat,Hn⟩:=hrel
     by_cases hq:pos < t.size
     ·have hnx:=fun ty=>run_next_gen (P:=Tryz.prog) wr w1.heap.size t pos ty hat.iter hq
      have hin:=hat.next (pos+(Utf8.decode t pos).2)
      have hdg:=rune_digC t pos hq
      have had:=all_drop t pos hq
      obtain ⟨d,hd⟩:∃ d,d=digC t[pos]:=⟨_,rfl⟩
      rw [← hd] at hdg had
      clear hd
      cases d
      ·have Hres:Hid (R=false):=Lib.hid (by rw [Hn.out,had];rfl)
       have hd1:=hdg.1
       clear hdg had hat
       have hbw:=hin.below_
       generalize ((Utf8.decode t pos).1:Int)=c at *
       generalize (Utf8.decode t pos).2=wd at *
       by_cases hlo:c < 48
       ·have c1:decide (c < 48)=true:=decide_eq_true hlo
        clear hd1
        go_wp2
        go_ret
        exact ⟨by rw [Hres.out];rfl,hb1.trans (hbw.mono hb1.size)⟩
       ·have c1:decide (c < 48)=false:=decide_eq_false hlo
        have c2:decide (57 < c)=true:=by
         rw [decide_eq_true (show (48:Int)≤c by omega),Bool.true_and] at hd1
         have:=of_decide_eq_false hd1.symm
         exact decide_eq_true (by omega)
        clear hd1
        go_wp2
        go_ret
        exact ⟨by rw [Hres.out];rfl,hb1.trans (hbw.mono hb1.size)⟩
      ·have Hn':Hid (R=(t.data.toList.drop (pos+1)).all digC):=Lib.hid (by rw [Hn.out,had];rfl)
       have hd1:=hdg.1
       have hwd:=hdg.2 rfl
       rw [hwd] at hin hnx
       clear hdg had hat hwd
       generalize ((Utf8.decode t pos).1:Int)=c at *
       rw [eq_comm,Bool.and_eq_true] at hd1
       have l1:=of_decide_eq_true hd1.1
       have l2:=of_decide_eq_true hd1.2
       have c1:decide (c < 48)=false:=decide_eq_false (by omega)
       have c2:decide (57 < c)=false:=decide_eq_false (by omega)
       clear hd1
       go_wp2
       go_roundg (gk - 1)
       case measure=>omega
       case rel=>exact ⟨pos+1,by omega,hin,Hn'⟩
     ·have hnx:=fun ty=>run_next_stop (P:=Tryz.prog) wr w1.heap.size t pos ty hat.iter hq
      have hbw:=hat.below_
      have Hres:Hid (R=true):=Lib.hid (by
       rw [Hn.out,List.drop_eq_nil_of_le (show t.data.toList.length≤pos from Nat.not_lt.1 hq)];rfl)
      clear hat
      go_wp2
      go_ret
      exact ⟨by rw [Hres.out];rfl,hb1.trans (hbw.mono hb1.size)⟩
end Go.Proofs.YtjaobihcdkjmbaaGreatDoor
end
section
namespace Go.Proofs.YtjaobihcdkjmbaaGreatDoor
open Go.RowKit Go.Proofs.YtjaobihcdkjmbaaGreatDoorW.PrintWords Go.Proofs.YtjaobihcdkjmbaaGreatDoor.PReadTokens
attribute [local go_sem] Oper.semAt_some
def numV (s:ByteArray):Int:=(if negB s then -1 else 1) * (decV (trimB s).data.toList:Int)
theorem own_kept {W W':World} {base n sz:Nat} {e:TypeId} {v:Value} {xs:List Value} (h:W.ownsRow base e sz v n xs) {k:Nat} (hk:k < base) (hg:W.grownBy W' (some k)):W'.ownsRow base e sz v n xs:=by
  refine World.ownsRow.kept h hg ?_
  cases hv:v.ownBlock with
  | none=>exact .inl rfl
  | some b=>refine .inr (fun e=>?_);injection e with e;have:=(World.ownsRow.lt h b hv).1;omega
theorem own_kept_none {W W':World} {base n sz:Nat} {e:TypeId} {v:Value} {xs:List Value} (h:W.ownsRow base e sz v n xs) (hg:W.grownBy W' none):W'.ownsRow base e sz v n xs:=by
  refine World.ownsRow.kept h hg ?_
  cases hv:v.ownBlock with
  | none=>exact .inl rfl
  | some b=>exact .inr (fun e=>by cases e)
theorem reps_u32 (w:World) (xs:List Int):Reps (U32.K w) 1 xs (xs.map (Value.int .u32)):=by
  have key:∀ (ts pre:List Int),Reps (U32.K w) 1 pre (pre.map (Value.int .u32))→Reps (U32.K w) 1 (pre++ts) ((pre++ts).map (Value.int .u32)):=by
    intro ts
    induction ts with
    | nil=>intro pre h;simpa using h
    | cons t ts ih =>
      intro pre h
      have:=ih (pre++[t]) (by rw [List.map_append];exact Reps.snoc h rfl rfl)
      simpa using this
  exact key xs [] (Reps.none _ _)
theorem own_u32 {w:World} {base:Nat} {v:Value} {xs:List Int} (h:w.ownsRow base 270 1 v xs.length (xs.map (Value.int .u32))):∃ A c,v=.slice A xs.length c∧xs.length≤c∧U32.C w A xs.length xs :=
  OwnRow.reads ⟨_,h,reps_u32 w xs⟩
theorem numsOf_length (cs:List ByteArray):(numsOf cs).length=cs.length:=by simp [numsOf]
theorem numsOf_snoc (cs:List ByteArray) (c:ByteArray):(numsOf (cs++[c])).map (Value.int .u32)=(numsOf cs).map (Value.int .u32)++[.int .u32 (decV c.data.toList)]:=by simp [numsOf]
theorem LN_put {W:World} {z:Int} {v:Value} {R:Nat} {d:Option (List Deferred)} (h:LN W z v) (hR:W.heap[R]?=some (.deferred d)):LN (W.putObj R (.deferred none)) z v:=by
  obtain ⟨l,A,c',h1,h2,h3,h4,h5⟩:=h.out
  refine ⟨l,A,c',h1,h2,h3,?_,h5⟩
  by_cases hn:l=[]
  · subst hn
    exact ⟨h4.1,by simp,fun h=>by simp at h⟩
  · obtain ⟨ad,rfl,hc⟩:=C_cells h4 hn
    refine cells_C (by omega) (fun i hi=>?_)
    have h6:=hc i hi
    have hne:(ad.add i).block≠R:=by
      intro e
      simp only [World.cell?,e,hR] at h6
      cases h6
    have hh:=World.putObj_heap_other (w:=W) (o:=.deferred none) (r:=R) (k:=(ad.add i).block) hne
    simpa [World.cell?,hh] using h6
set_option maxRecDepth 100000 in
set_option maxHeartbeats 8000000 in
theorem read_LN (n:Nat) (s:ByteArray) (hd:Digs (trimB s).data.toList) (h0:0 < (trimB s).size) (h4:(trimB s).size≤900) (w:World) :
    CallsIn Fence.wide n Tryz.prog 189 #[.string s] w fun e w'=>∃ v,e=.returned v∧LN w' (numV s) v∧Below w.heap.size w w':=by
  have hD:Fence.wide.depth.isSome=false:=rfl
  have hF227:Fence.wide.fn 227:=trivial
  have hF228:Fence.wide.fn 228:=trivial
  have hF229:Fence.wide.fn 229:=trivial
  have hpre:=fun w=>(callsIn_wide (n:=n - 1)).2 ((strings_HasPrefix.calls s ⟨#[45]⟩ (negB s) w (by unfold strings_HasPrefix.f;rw [prefix_neg];rfl)).mono fun _ _ ⟨a,b⟩=>(⟨a,b.out⟩:_∧∃ n,_))
  obtain ⟨z,hz⟩:∃ z,z=numV s:=⟨_,rfl⟩
  rw [← hz]
  unfold numV at hz
  obtain ⟨t,ht⟩:∃ t,t=trimB s:=⟨_,rfl⟩
  have hchk:=chunksOf_val hd
  rw [← ht] at hd h0 h4 hchk hz
  unfold trimB at ht
  rw [← hchk.1] at hz
  have hcne:=chunksOf_ne h0
  have hclen:=chunkF_length (t.size+1) t
  replace hclen:(chunksOf t).length≤t.size+1:=hclen
  have HV:=Lib.hid hchk
  have HNE:=Lib.hid hcne
  have HD:=Lib.hid hd
  clear hchk hcne hd
  refine callsIn_of_wp_marks Tryz.func189 rfl trivial ?_ rfl
  simp only [Tryz.ntmps189,List.size_toArray,List.length_cons,List.length_nil,Nat.reduceAdd,Nat.reduceSub,Array.replicate_succ,Array.replicate_zero,List.push_toArray,List.append_toArray,List.nil_append,List.cons_append]
  cases hneg:negB s
  · rw [hneg] at hpre hz ht
    obtain rfl:t=s:=ht
    replace hz:z=1 * val (numsOf (chunksOf t)):=hz
    clear hneg
    replace hz:=Lib.hid hz
    gi_wp2_with (gi_at_call 227;refine (hpre _).mono ?_;rintro e w2 ⟨rfl,hk⟩;have hb2:Below w.heap.size w w2:=(by obtain ⟨k,rfl⟩:=hk;exact pw_below_drewN ((Below.refl _ w).alloc (Nat.le_refl _) _) k);have hR2:w2.heap[w.heap.size]?=some (.cells #[.int .i64 0,.slice none 0 0] 234 (0,0)):=(by obtain ⟨k,rfl⟩:=hk;exact blk_drewN (blk_new w _) k);clear hk)
    obtain ⟨w3,hw3⟩:∃ w3,w3=w2:=⟨_,rfl⟩
    subst hw3
    have hb3:=hb2
    have hR3:=hR2
    clear hb2 hR2
    gi_wp2_with (gi_at_call 228;refine (chunks_in (n - 1) t _).mono ?_;rintro e w' ⟨rfl,rfl⟩)
    obtain ⟨W,hW⟩:∃ W,W=((w3.alloc (.cells #[.slice none 0 0] 232)).alloc (.cells #[.string t] 9)):=⟨_,rfl⟩
    have hz3:W.heap.size=w3.heap.size+2:=by rw [hW];simp
    have hl3:w.heap.size < w3.heap.size:=blk_lt hR3
    have hbW:Below w.heap.size w W:=by rw [hW];exact (hb3.alloc hb3.size _).alloc (by simp;omega) _
    have hR:W.heap[w.heap.size]?=some (.cells #[.int .i64 0,.slice none 0 0] 234 (0,0)):=by
      rw [hW];exact (Below.heap_alloc _ _ _ (by simp;omega)).trans ((Below.heap_alloc _ _ _ hl3).trans hR3)
    have hQ:W.heap[w3.heap.size]?=some (.cells #[.slice none 0 0] 232 (0,0)):=by
      rw [hW];exact (Below.heap_alloc _ _ _ (by simp)).trans (blk_new w3 _)
    have hB:W.heap[w3.heap.size+1]?=some (.cells #[.string t] 9 (0,0)):=by
      rw [hW];exact alloc_at _ _ _ (by simp)
    rw [← hW]
    clear hW hb3 hR3 hpre
    refine wpIn_range_chunks (bb:=w3.heap.size+1) (s:=t)
      (fun c=>#[.string t,undef,.pointer (some ⟨w.heap.size,0,none⟩),.int .i64 1,.pointer (some ⟨w3.heap.size,0,none⟩),.string c,undef,undef,.string t,.bool false,undef,undef,.string t,
        .func (.func 257) #[] #[.pointer (some ⟨w3.heap.size+1,0,none⟩)],.string c,undef,undef,undef,undef,undef,undef,undef,undef,undef,undef,undef,undef,undef])
      rfl (by omega) hB
      (fun pre X=>∃ v,X.ownsRow (W.heap.size+2) 270 1 v pre.length ((numsOf pre).map (Value.int .u32))∧X.heap[w3.heap.size]?=some (.cells #[v] 232 (0,0))∧X.heap[w.heap.size]?=some (.cells #[.int .i64 0,.slice none 0 0] 234 (0,0))∧Below w.heap.size w X)
      ?hI ⟨_,World.ownsRow_nil _ _ _ _,hQ,hR,hbW⟩ ?hI1 ?assign ?body ?done
    case hI =>
      rintro pre A B k ⟨v,ho,hq,hr,hb⟩ hk hg
      exact ⟨v,own_kept ho (by omega) hg,(hg.block _ (blk_lt hq) (by intro e;injection e with e;omega)).trans hq,(hg.block _ (blk_lt hr) (by intro e;injection e with e;omega)).trans hr,hb.grown hg hb.size (fun j e=>by injection e with e;omega)⟩
    case hI1 =>
      rintro A B ⟨v,ho,hq,hr,hb⟩ hg
      exact ⟨v,own_kept_none ho hg,(hg.block _ (blk_lt hq) (by simp)).trans hq,(hg.block _ (blk_lt hr) (by simp)).trans hr,hb.grown hg hb.size (fun j e=>by cases e)⟩
    case assign =>
      intro l c A K hK
      gi_wp2
      exact hK
    case body =>
      rintro pre c A W0 ⟨v,ho,hq,hr,hb⟩ hrest hlt hg hz0
      have hcc:=HV.out.2.2 c (by obtain ⟨rest,hrest⟩:=hrest;rw [hrest];simp)
      have hplen:pre.length≤1000:=by
        obtain ⟨rest,hrest⟩:=hrest
        rw [hrest,List.length_append] at hclen
        omega
      have hq0:W0.heap[w3.heap.size]?=some (.cells #[v] 232 (0,0)):=(hg.block _ (blk_lt hq) (by intro e;injection e with e;omega)).trans hq
      have hr0:W0.heap[w.heap.size]?=some (.cells #[.int .i64 0,.slice none 0 0] 234 (0,0)):=(hg.block _ (blk_lt hr) (by intro e;injection e with e;omega)).trans hr
      have ho0:=own_kept ho (k:=w.heap.size+1+(W.heap.size - w.heap.size)) (W':=W0) (by omega) (by rw [show w.heap.size+1+(W.heap.size - w.heap.size)=W.heap.size+1 by omega];exact hg)
      have hbw:Below w.heap.size w W0:=hb.grown hg hb.size (fun k e=>by injection e with e;omega)
      have hat:=fun wx=>(callsIn_wide (n:=n - 1 - 1 - 1)).2 (Atoi_is c (by have:=hcc.2.2;have e:c.size=c.data.toList.length:=rfl;omega) (decV c.data.toList) (atoi_dec hcc.1 hcc.2.1 hcc.2.2) wx)
      obtain ⟨m,hm⟩:∃ m:Int,m=(decV c.data.toList:Int):=⟨_,rfl⟩
      rw [← hm] at hat
      have hmlo:0≤m:=by omega
      have hmhi:m < 1000000000:=by
        have h1:=decV_lt hcc.1
        have h2:10 ^ c.data.toList.length≤10 ^ 9:=Nat.pow_le_pow_right (by omega) hcc.2.2
        omega
      replace hm:=Lib.hid hm
      have hat2:∀ l wx,CallsIn (Fence.wide.inRound l) (n - 1 - 1 - 1) Tryz.prog 216 #[.string c] wx fun e w''=>e=.returned (.tuple #[.int .i64 m,.nilIface])∧Below wx.heap.size wx w'':=fun _=>hat
      have hF216:(Fence.wide.inRound (W.heap.size+1)).fn 216:=trivial
      have hwm:m % 4294967296=m:=by omega
      clear hat hcc hrest
      have HQ0:=Lib.hid hq0
      clear hq
      gi_wp2
      refine ⟨trivial,(hat2 _ _).mono ?_⟩
      rintro e w1 ⟨rfl,hb1⟩
      have hq1:=bcell hb1 hq0
      have q0:=blk_cell hq1 0
      have q1:=blk_frozen hq1 0
      have hbx:=hbw.trans (hb1.mono hbw.size)
      have hrx:=bcell hb1 hr0
      have hs1:=hb1.size
      have HB1:=Lib.hid hb1
      have ho1:=pw_own_below ho0 hb1
      have hge:W.heap.size+2≤w1.heap.size:=by omega
      have hqlt:=blk_lt hq1
      clear hq0 hr0 hat2 ho ho0 hbw
      obtain ⟨i0,hi,iz0,iz1,iz2⟩:=info_parts info270
      have HO:=pw_own_below ho1 ((Below.refl _ w1).alloc (Nat.le_refl _) (.cells #[.int .u32 m] 270))
      have HC:∀ j u,([Value.int .u32 m]:List Value)[j]?=some u→(w1.alloc (.cells #[.int .u32 m] 270)).cell? ((⟨w1.heap.size,0,none⟩:Addr).add j)=some u:=by simpa using World.news_of_block (blk_new w1 (.cells #[.int .u32 m] 270))
      have hqne:some w3.heap.size≠v.ownBlock:=fun e=>by have:=(World.ownsRow.lt HO _ e.symm).1;omega
      have H1:=Lib.hid HO
      have H2:=Lib.hid HC
      have hnb:=fun j (hj:some j=v.ownBlock)=>(World.ownsRow.lt H1.out _ hj.symm).1
      have HNB:=Lib.hid hnb
      have hbb1:pre.length+1≤maxLen:=by unfold maxLen;omega
      have hbb2:(pre.length+1) * 4≤140737488355328:=by omega
      have hbb3:W.heap.size+2≤(w1.alloc (.cells #[.int .u32 m] 270)).heap.size:=by simp;omega
      clear HO HC ho1 hnb
      gi_wp2_with (gi_at_builtin;go_loud (refine wpListIn_append_own _ rfl _ _ 232 rfl (W.heap.size+2) 270 i0 (.int .u32 0) 1 4 Tryz.underlying232 hi iz0 iz1 iz2 rfl (Nat.zero_lt_succ 0) v pre.length ((numsOf pre).map (Value.int .u32)) rfl H1.out ⟨w1.heap.size,0,none⟩ 1 1 [.int .u32 m] rfl rfl H2.out (by simp [Value.oneCell']) hbb1 hbb2 hbb3 ?_);intro v' w4 hown' hgrow _;obtain ⟨Av,cv,rfl⟩:=own_slice hown';have hq2:=(hgrow.block (w3.heap.size) (by simp;omega) hqne).trans ((Below.heap_alloc _ _ _ hqlt).trans hq1);have c1:=blk_cell hq2 0;have c2:=blk_frozen hq2 0;have HQ2:=Lib.hid hq2;have HO2:=Lib.hid hown';clear hown' hq2)
      have hgB:∀ j,j < W.heap.size+2→∀ o,w1.heap[j]?=some o→w4.heap[j]?=some o:=fun j hj o ho=>(hgrow.block j (by have:=blk_lt ho;simp;omega) (fun e=>by have:=HNB.out j e;omega)).trans ((Below.heap_alloc _ _ _ (blk_lt ho)).trans ho)
      have hbx4:Below w.heap.size w w4:=(hbx.alloc hbx.size (.cells #[.int .u32 m] 270)).grown hgrow (by simp;omega) (fun k e=>by have:=HNB.out k e.symm;omega)
      refine ⟨?_,⟨.slice Av (pre.length+1) cv,?_,blk_set HQ2.out 0 _,?_,?_⟩,?_⟩
      · exact ((KeepsOthers.mk HB1.out.size (fun k o hk _=>bcell HB1.out hk)).trans ((KeepsOthers.alloc w1 (.cells #[.int .u32 m] 270)).trans (KeepsOthers.of_grownBy hgrow (fun j o hj ho=>by
          obtain ⟨cells,hc⟩:=own_typed H1.out j hj
          rw [hc] at ho;cases ho;rfl)))).trans (KeepsOthers.setCell _ _ _)
      · rw [List.length_append,numsOf_snoc,← hm.out]
        exact own_kept (k:=w3.heap.size) HO2.out (by omega) (Lib.grownBy_setCell _ _ _ _)
      · exact (Below.heap_setCell _ _ _ _ (by simp;omega)).trans (hgB _ (by omega) _ hrx)
      · exact hbx4.setCell (p:=⟨w3.heap.size,0,none⟩) (by simp;omega) _
      · have hbl:=blk_lt hB
        have hbA:w3.heap.size+1 < W0.heap.size:=by omega
        have hB0:W0.heap[w3.heap.size+1]?=w1.heap[w3.heap.size+1]?:=(HB1.out.block _ hbA).symm
        refine (Below.heap_setCell _ _ _ _ (by simp)).trans ?_
        rw [hB0]
        exact (hgrow.block _ (by simp;omega) (fun e=>by have:=HNB.out _ e;omega)).trans (Below.heap_alloc _ _ _ (by omega))
    case done =>
      rintro X ⟨v,ho,h1,h4',h5⟩ hdef
      rw [hz3] at hdef
      rw [← numsOf_length] at ho
      obtain ⟨A,c,rfl,hc,hC⟩:=own_u32 ho
      have q0:=blk_cell h1 0
      have hmf:=made_LN 1 A (numsOf (chunksOf t)) c X (by simp) HNE.out hc (.inl (by rw [numsOf_length];omega)) hC HV.out.2.1
      have hmi:=(callsIn_wide (n:=n - 1)).2 hmf
      rw [← hz.out] at hmi
      have HMI:=Lib.hid hmi
      clear hmi hmf hC ho
      generalize (numsOf (chunksOf t)).length=NL at *
      gi_wp2_with (gi_at_call 229;refine HMI.out.mono ?_;rintro e w1 ⟨v,rfl,hv,hb1⟩;obtain ⟨lv,gv,cv,rfl,hrest⟩:=hv.out;have hr1:=bcell hb1 h4';have d0:=blk_cell hr1 0;have d1:=blk_cell hr1 1;have f0:=blk_frozen hr1 0;have f1:=blk_frozen hr1 1;have HR1:=Lib.hid hr1;have HV1:=Lib.hid hv;clear hr1 hv hrest)
      have hdl:=blk_lt hdef
      have hd1:=bcell hb1 hdef
      have hYd:((w1.setCell ⟨w.heap.size,0,none⟩ (.int .i64 (Int.sign z))).setCell ⟨w.heap.size,1,none⟩ (.slice gv lv.length cv)).heap[(w3.heap.size+2)]?=some (.deferred (some [])):=(Below.heap_setCell _ _ _ _ (by simp <;> omega)).trans ((Below.heap_setCell _ _ _ _ (by simp <;> omega)).trans hd1)
      have hY:=set2_fin (.int .i64 (Int.sign z)) (.slice gv lv.length cv) HR1.out
      have hYv:=LN_far HV1.out HR1.out (.int .i64 (Int.sign z)) (.slice gv lv.length cv)
      have hYb:=((h5.trans (hb1.mono h5.size)).setCell (p:=⟨w.heap.size,0,none⟩) (Nat.le_refl _) (.int .i64 (Int.sign z))).setCell (p:=⟨w.heap.size,1,none⟩) (Nat.le_refl _) (.slice gv lv.length cv)
      generalize (w1.setCell ⟨w.heap.size,0,none⟩ (.int .i64 (Int.sign z))).setCell ⟨w.heap.size,1,none⟩ (.slice gv lv.length cv)=Y at *
      refine ⟨by simp,.inl ⟨_,_,rfl,run_takeDeferred hYd,?_⟩⟩
      have j0:=(World.putObj_heap_other (w:=Y) (o:=.deferred none) (r:=(w3.heap.size+2)) (by omega)).trans hY
      refine ⟨_,results_c Tryz.results189 _ _ w.heap.size 234 _ (0,0) _ rfl j0 Tryz.underlying234 rfl size234,_,rfl,LN_put hYv hYd,hYb.grown (grown_putObj _ _ _) hYb.size (fun k e=>by injection e with e;omega)⟩
  · rw [hneg] at hpre hz ht
    have ht':s.extract 1 s.size=t:=by rw [ht];rfl
    have hs1:1≤s.size:=by
     have e:t.size=s.size - 1:=by rw [← ht'];simp
     omega
    have hsb:s.size≤1000:=by
     have e:t.size=s.size - 1:=by rw [← ht'];simp
     omega
    replace hz:z=-1 * val (numsOf (chunksOf t)):=hz
    clear ht hneg
    replace ht':=Lib.hid ht'
    replace hz:=Lib.hid hz
    gi_wp2_with (gi_at_call 227;refine (hpre _).mono ?_;rintro e w2 ⟨rfl,hk⟩;have hb2:Below w.heap.size w w2:=(by obtain ⟨k,rfl⟩:=hk;exact pw_below_drewN ((Below.refl _ w).alloc (Nat.le_refl _) _) k);have hR2:w2.heap[w.heap.size]?=some (.cells #[.int .i64 0,.slice none 0 0] 234 (0,0)):=(by obtain ⟨k,rfl⟩:=hk;exact blk_drewN (blk_new w _) k);clear hk)
    gi_region
    all_goals
      try rw [ht'.out]
    have hb3:Below w.heap.size w w2.drew:=hb2.drew
    have hR3:w2.drew.heap[w.heap.size]?=some (.cells #[.int .i64 0,.slice none 0 0] 234 (0,0)):=hR2
    clear hb2 hR2
    generalize w2.drew=w3 at *
    gi_wp2_with (gi_at_call 228;refine (chunks_in (n - 1) t _).mono ?_;rintro e w' ⟨rfl,rfl⟩)
    obtain ⟨W,hW⟩:∃ W,W=((w3.alloc (.cells #[.slice none 0 0] 232)).alloc (.cells #[.string t] 9)):=⟨_,rfl⟩
    have hz3:W.heap.size=w3.heap.size+2:=by rw [hW];simp
    have hl3:w.heap.size < w3.heap.size:=blk_lt hR3
    have hbW:Below w.heap.size w W:=by rw [hW];exact (hb3.alloc hb3.size _).alloc (by simp;omega) _
    have hR:W.heap[w.heap.size]?=some (.cells #[.int .i64 0,.slice none 0 0] 234 (0,0)):=by
      rw [hW];exact (Below.heap_alloc _ _ _ (by simp;omega)).trans ((Below.heap_alloc _ _ _ hl3).trans hR3)
    have hQ:W.heap[w3.heap.size]?=some (.cells #[.slice none 0 0] 232 (0,0)):=by
      rw [hW];exact (Below.heap_alloc _ _ _ (by simp)).trans (blk_new w3 _)
    have hB:W.heap[w3.heap.size+1]?=some (.cells #[.string t] 9 (0,0)):=by
      rw [hW];exact alloc_at _ _ _ (by simp)
    rw [← hW]
    clear hW hb3 hR3 hpre
    refine wpIn_range_chunks (bb:=w3.heap.size+1) (s:=t)
      (fun c=>#[.string t,undef,.pointer (some ⟨w.heap.size,0,none⟩),.int .i64 (-1),.pointer (some ⟨w3.heap.size,0,none⟩),.string c,undef,undef,.string s,.bool true,.string s,.string t,.string t,
        .func (.func 257) #[] #[.pointer (some ⟨w3.heap.size+1,0,none⟩)],.string c,undef,undef,undef,undef,undef,undef,undef,undef,undef,undef,undef,undef,undef])
      rfl (by omega) hB
      (fun pre X=>∃ v,X.ownsRow (W.heap.size+2) 270 1 v pre.length ((numsOf pre).map (Value.int .u32))∧X.heap[w3.heap.size]?=some (.cells #[v] 232 (0,0))∧X.heap[w.heap.size]?=some (.cells #[.int .i64 0,.slice none 0 0] 234 (0,0))∧Below w.heap.size w X)
      ?hI ⟨_,World.ownsRow_nil _ _ _ _,hQ,hR,hbW⟩ ?hI1 ?assign ?body ?done
    case hI =>
      rintro pre A B k ⟨v,ho,hq,hr,hb⟩ hk hg
      exact ⟨v,own_kept ho (by omega) hg,(hg.block _ (blk_lt hq) (by intro e;injection e with e;omega)).trans hq,(hg.block _ (blk_lt hr) (by intro e;injection e with e;omega)).trans hr,hb.grown hg hb.size (fun j e=>by injection e with e;omega)⟩
    case hI1 =>
      rintro A B ⟨v,ho,hq,hr,hb⟩ hg
      exact ⟨v,own_kept_none ho hg,(hg.block _ (blk_lt hq) (by simp)).trans hq,(hg.block _ (blk_lt hr) (by simp)).trans hr,hb.grown hg hb.size (fun j e=>by cases e)⟩
    case assign =>
      intro l c A K hK
      gi_wp2
      exact hK
    case body =>
      rintro pre c A W0 ⟨v,ho,hq,hr,hb⟩ hrest hlt hg hz0
      have hcc:=HV.out.2.2 c (by obtain ⟨rest,hrest⟩:=hrest;rw [hrest];simp)
      have hplen:pre.length≤1000:=by
        obtain ⟨rest,hrest⟩:=hrest
        rw [hrest,List.length_append] at hclen
        omega
      have hq0:W0.heap[w3.heap.size]?=some (.cells #[v] 232 (0,0)):=(hg.block _ (blk_lt hq) (by intro e;injection e with e;omega)).trans hq
      have hr0:W0.heap[w.heap.size]?=some (.cells #[.int .i64 0,.slice none 0 0] 234 (0,0)):=(hg.block _ (blk_lt hr) (by intro e;injection e with e;omega)).trans hr
      have ho0:=own_kept ho (k:=w.heap.size+1+(W.heap.size - w.heap.size)) (W':=W0) (by omega) (by rw [show w.heap.size+1+(W.heap.size - w.heap.size)=W.heap.size+1 by omega];exact hg)
      have hbw:Below w.heap.size w W0:=hb.grown hg hb.size (fun k e=>by injection e with e;omega)
      have hat:=fun wx=>(callsIn_wide (n:=n - 1 - 1 - 1)).2 (Atoi_is c (by have:=hcc.2.2;have e:c.size=c.data.toList.length:=rfl;omega) (decV c.data.toList) (atoi_dec hcc.1 hcc.2.1 hcc.2.2) wx)
      obtain ⟨m,hm⟩:∃ m:Int,m=(decV c.data.toList:Int):=⟨_,rfl⟩
      rw [← hm] at hat
      have hmlo:0≤m:=by omega
      have hmhi:m < 1000000000:=by
        have h1:=decV_lt hcc.1
        have h2:10 ^ c.data.toList.length≤10 ^ 9:=Nat.pow_le_pow_right (by omega) hcc.2.2
        omega
      replace hm:=Lib.hid hm
      have hat2:∀ l wx,CallsIn (Fence.wide.inRound l) (n - 1 - 1 - 1) Tryz.prog 216 #[.string c] wx fun e w''=>e=.returned (.tuple #[.int .i64 m,.nilIface])∧Below wx.heap.size wx w'':=fun _=>hat
      have hF216:(Fence.wide.inRound (W.heap.size+1)).fn 216:=trivial
      have hwm:m % 4294967296=m:=by omega
      clear hat hcc hrest
      have HQ0:=Lib.hid hq0
      clear hq
      gi_wp2
      refine ⟨trivial,(hat2 _ _).mono ?_⟩
      rintro e w1 ⟨rfl,hb1⟩
      have hq1:=bcell hb1 hq0
      have q0:=blk_cell hq1 0
      have q1:=blk_frozen hq1 0
      have hbx:=hbw.trans (hb1.mono hbw.size)
      have hrx:=bcell hb1 hr0
      have hs1:=hb1.size
      have HB1:=Lib.hid hb1
      have ho1:=pw_own_below ho0 hb1
      have hge:W.heap.size+2≤w1.heap.size:=by omega
      have hqlt:=blk_lt hq1
      clear hq0 hr0 hat2 ho ho0 hbw
      obtain ⟨i0,hi,iz0,iz1,iz2⟩:=info_parts info270
      have HO:=pw_own_below ho1 ((Below.refl _ w1).alloc (Nat.le_refl _) (.cells #[.int .u32 m] 270))
      have HC:∀ j u,([Value.int .u32 m]:List Value)[j]?=some u→(w1.alloc (.cells #[.int .u32 m] 270)).cell? ((⟨w1.heap.size,0,none⟩:Addr).add j)=some u:=by simpa using World.news_of_block (blk_new w1 (.cells #[.int .u32 m] 270))
      have hqne:some w3.heap.size≠v.ownBlock:=fun e=>by have:=(World.ownsRow.lt HO _ e.symm).1;omega
      have H1:=Lib.hid HO
      have H2:=Lib.hid HC
      have hnb:=fun j (hj:some j=v.ownBlock)=>(World.ownsRow.lt H1.out _ hj.symm).1
      have HNB:=Lib.hid hnb
      have hbb1:pre.length+1≤maxLen:=by unfold maxLen;omega
      have hbb2:(pre.length+1) * 4≤140737488355328:=by omega
      have hbb3:W.heap.size+2≤(w1.alloc (.cells #[.int .u32 m] 270)).heap.size:=by simp;omega
      clear HO HC ho1 hnb
      gi_wp2_with (gi_at_builtin;go_loud (refine wpListIn_append_own _ rfl _ _ 232 rfl (W.heap.size+2) 270 i0 (.int .u32 0) 1 4 Tryz.underlying232 hi iz0 iz1 iz2 rfl (Nat.zero_lt_succ 0) v pre.length ((numsOf pre).map (Value.int .u32)) rfl H1.out ⟨w1.heap.size,0,none⟩ 1 1 [.int .u32 m] rfl rfl H2.out (by simp [Value.oneCell']) hbb1 hbb2 hbb3 ?_);intro v' w4 hown' hgrow _;obtain ⟨Av,cv,rfl⟩:=own_slice hown';have hq2:=(hgrow.block (w3.heap.size) (by simp;omega) hqne).trans ((Below.heap_alloc _ _ _ hqlt).trans hq1);have c1:=blk_cell hq2 0;have c2:=blk_frozen hq2 0;have HQ2:=Lib.hid hq2;have HO2:=Lib.hid hown';clear hown' hq2)
      have hgB:∀ j,j < W.heap.size+2→∀ o,w1.heap[j]?=some o→w4.heap[j]?=some o:=fun j hj o ho=>(hgrow.block j (by have:=blk_lt ho;simp;omega) (fun e=>by have:=HNB.out j e;omega)).trans ((Below.heap_alloc _ _ _ (blk_lt ho)).trans ho)
      have hbx4:Below w.heap.size w w4:=(hbx.alloc hbx.size (.cells #[.int .u32 m] 270)).grown hgrow (by simp;omega) (fun k e=>by have:=HNB.out k e.symm;omega)
      refine ⟨?_,⟨.slice Av (pre.length+1) cv,?_,blk_set HQ2.out 0 _,?_,?_⟩,?_⟩
      · exact ((KeepsOthers.mk HB1.out.size (fun k o hk _=>bcell HB1.out hk)).trans ((KeepsOthers.alloc w1 (.cells #[.int .u32 m] 270)).trans (KeepsOthers.of_grownBy hgrow (fun j o hj ho=>by
          obtain ⟨cells,hc⟩:=own_typed H1.out j hj
          rw [hc] at ho;cases ho;rfl)))).trans (KeepsOthers.setCell _ _ _)
      · rw [List.length_append,numsOf_snoc,← hm.out]
        exact own_kept (k:=w3.heap.size) HO2.out (by omega) (Lib.grownBy_setCell _ _ _ _)
      · exact (Below.heap_setCell _ _ _ _ (by simp;omega)).trans (hgB _ (by omega) _ hrx)
      · exact hbx4.setCell (p:=⟨w3.heap.size,0,none⟩) (by simp;omega) _
      · have hbl:=blk_lt hB
        have hbA:w3.heap.size+1 < W0.heap.size:=by omega
        have hB0:W0.heap[w3.heap.size+1]?=w1.heap[w3.heap.size+1]?:=(HB1.out.block _ hbA).symm
        refine (Below.heap_setCell _ _ _ _ (by simp)).trans ?_
        rw [hB0]
        exact (hgrow.block _ (by simp;omega) (fun e=>by have:=HNB.out _ e;omega)).trans (Below.heap_alloc _ _ _ (by omega))
    case done =>
      rintro X ⟨v,ho,h1,h4',h5⟩ hdef
      rw [hz3] at hdef
      rw [← numsOf_length] at ho
      obtain ⟨A,c,rfl,hc,hC⟩:=own_u32 ho
      have q0:=blk_cell h1 0
      have hmf:=made_LN (-1) A (numsOf (chunksOf t)) c X (by simp) HNE.out hc (.inl (by rw [numsOf_length];omega)) hC HV.out.2.1
      have hmi:=(callsIn_wide (n:=n - 1)).2 hmf
      rw [← hz.out] at hmi
      have HMI:=Lib.hid hmi
      clear hmi hmf hC ho
      generalize (numsOf (chunksOf t)).length=NL at *
      gi_wp2_with (gi_at_call 229;refine HMI.out.mono ?_;rintro e w1 ⟨v,rfl,hv,hb1⟩;obtain ⟨lv,gv,cv,rfl,hrest⟩:=hv.out;have hr1:=bcell hb1 h4';have d0:=blk_cell hr1 0;have d1:=blk_cell hr1 1;have f0:=blk_frozen hr1 0;have f1:=blk_frozen hr1 1;have HR1:=Lib.hid hr1;have HV1:=Lib.hid hv;clear hr1 hv hrest)
      have hdl:=blk_lt hdef
      have hd1:=bcell hb1 hdef
      have hYd:((w1.setCell ⟨w.heap.size,0,none⟩ (.int .i64 (Int.sign z))).setCell ⟨w.heap.size,1,none⟩ (.slice gv lv.length cv)).heap[(w3.heap.size+2)]?=some (.deferred (some [])):=(Below.heap_setCell _ _ _ _ (by simp <;> omega)).trans ((Below.heap_setCell _ _ _ _ (by simp <;> omega)).trans hd1)
      have hY:=set2_fin (.int .i64 (Int.sign z)) (.slice gv lv.length cv) HR1.out
      have hYv:=LN_far HV1.out HR1.out (.int .i64 (Int.sign z)) (.slice gv lv.length cv)
      have hYb:=((h5.trans (hb1.mono h5.size)).setCell (p:=⟨w.heap.size,0,none⟩) (Nat.le_refl _) (.int .i64 (Int.sign z))).setCell (p:=⟨w.heap.size,1,none⟩) (Nat.le_refl _) (.slice gv lv.length cv)
      generalize (w1.setCell ⟨w.heap.size,0,none⟩ (.int .i64 (Int.sign z))).setCell ⟨w.heap.size,1,none⟩ (.slice gv lv.length cv)=Y at *
      refine ⟨by simp,.inl ⟨_,_,rfl,run_takeDeferred hYd,?_⟩⟩
      have j0:=(World.putObj_heap_other (w:=Y) (o:=.deferred none) (r:=(w3.heap.size+2)) (by omega)).trans hY
      refine ⟨_,results_c Tryz.results189 _ _ w.heap.size 234 _ (0,0) _ rfl j0 Tryz.underlying234 rfl size234,_,rfl,LN_put hYv hYd,hYb.grown (grown_putObj _ _ _) hYb.size (fun k e=>by injection e with e;omega)⟩
end Go.Proofs.YtjaobihcdkjmbaaGreatDoor
end
