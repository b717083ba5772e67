/- The law ReadBlanks answers true for every argument; a part of its proof. -/
import Derived.Test.YtjaobihcdkjmbaaGreatDoorBa
import Derived.Test.YtjaobihcdkjmbaaGreatDoorBb
import Derived.Test.YtjaobihcdkjmbaaGreatDoorB7
import Derived.Test.YtjaobihcdkjmbaaGreatDoorB9
import Derived.Test.YtjaobihcdkjmbaaGreatDoorB19
import Derived.Test.YtjaobihcdkjmbaaGreatDoorB20
import Derived.Test.YtjaobihcdkjmbaaGreatDoorB22
import Derived.Test.YtjaobihcdkjmbaaGreatDoorB25
import Derived.Test.YtjaobihcdkjmbaaGreatDoorB33
set_option linter.unusedVariables false
set_option linter.unusedSimpArgs false
namespace Go.Proofs.YtjaobihcdkjmbaaGreatDoor.PReadTokens
end Go.Proofs.YtjaobihcdkjmbaaGreatDoor.PReadTokens
namespace Go.Proofs.YtjaobihcdkjmbaaGreatDoorW.PrintWords
end Go.Proofs.YtjaobihcdkjmbaaGreatDoorW.PrintWords
set_option maxHeartbeats 8000000
section
namespace Go.Proofs.YtjaobihcdkjmbaaGreatDoor
open Go.RowKit Go.Proofs.YtjaobihcdkjmbaaGreatDoorW.PrintWords Go.Proofs.YtjaobihcdkjmbaaGreatDoor.PReadTokens
abbrev kt (t:S47):Tk:=(t.f0,t.f1)
theorem toksF_enough:∀(n m:Nat) (s:ByteArray) (a:Nat),a≤s.size→s.size<a+n→s.size<a+m→zBZ n s a=zBZ m s a:=by
 intro n
 induction n with
 | zero=>intro m s a h1 h2;omega
 | succ n ih =>
  intro m s a h1 h2 h3;obtain⟨m,rfl⟩:∃i,m=i+1:=⟨m-1,kCT⟩;unfold zBZ;by_cases hb:zAv s a<s.size
  ·rw[kAa hb,kAa hb];by_cases hk:(zB6 s (zAv s a)).1.f0=-1
   ·rw[kAa hk,kAa hk]
   ·rw[kA9 hk,kA9 hk];have hm:=zDI s _ hb hk;have hsk:a≤zAv s a:=Nat.le_add_right _ _;rw[ih m s _ hm.2 kCT kCT]
  ·rw[kA9 hb,kA9 hb]
def Tks (s:ByteArray) (a:Nat):List S47:=zBZ (s.size+1) s a
theorem Tks_zero (s:ByteArray):Tks s 0=zA8 s:=rfl
theorem zDn (s:ByteArray) (a:Nat) (h:a≤s.size) :
  Tks s a=if zAv s a<s.size then (if (zB6 s (zAv s a)).1.f0=-1 then [(zB6 s (zAv s a)).1] else (zB6 s (zAv s a)).1 :: Tks s (zB6 s (zAv s a)).2) else []:=by
 unfold Tks
 conv=>lhs;unfold zBZ
 by_cases hb:zAv s a<s.size
 ·rw[kAa hb,kAa hb];by_cases hk:(zB6 s (zAv s a)).1.f0=-1
  ·rw[kAa hk,kAa hk]
  ·rw[kA9 hk,kA9 hk];have hm:=zDI s _ hb hk;rw[toksF_enough s.size (s.size+1) s _ hm.2 kCT kCT]
 ·rw[kA9 hb,kA9 hb]
def Lies (s:ByteArray) (a:Nat) (b:List UInt8):Prop:=∃r,zAz s a=b++r
theorem zEu {s:ByteArray} {a:Nat} {b c:List UInt8}:Lies s a (b++c)↔Lies s a b∧Lies s (a+b.length) c:=by
 constructor
 ·rintro⟨r,h⟩;refine⟨⟨c++r,by rw[h,kAV]⟩,⟨r,?_⟩⟩;unfold zAz at h⊢;rw[← kC0,h,kAV,List.drop_left]
 ·rintro⟨⟨r,h1⟩,⟨q,h2⟩⟩;refine⟨q,?_⟩;unfold zAz at h1 h2 ⊢;rw[← kC0,h1,List.drop_left] at h2;rw[h1,h2,kAV]
theorem lies_all (s:ByteArray):Lies s 0 s.data.toList:=⟨[],by unfold zAz;simp⟩
theorem zDD {s:ByteArray} {a:Nat} {c:UInt8} {b:List UInt8} (h:Lies s a (c :: b)):∃hl:a<s.size,s[a]'hl=c:=by
 obtain⟨r,h⟩:=h;unfold zAz at h;have hl:a<s.size:=by
  have h2:=congrArg List.length h;rw[kAn] at h2;have:s.data.toList.length=s.size:=rfl;simp at h2;omega
 refine⟨hl,?_⟩;rw[kAr (show a<s.data.toList.length from hl)] at h;injection h
theorem lies_le {s:ByteArray} {a:Nat} {b:List UInt8} (h:Lies s a b) (ha:a≤s.size):a+b.length≤s.size:=by
 obtain⟨r,h⟩:=h;have h2:=congrArg List.length h;rw[bytesAt_length,kAv] at h2;omega
theorem zDE {s:ByteArray} {a:Nat} {b:List UInt8} (h:Lies s a b):(s.extract a (a+b.length)).data.toList=b:=by
 obtain⟨r,h⟩:=h;rw[kBp];unfold zAz at h;rw[h,show a+b.length-a=b.length by omega,List.take_left]
theorem zDl {s:ByteArray} {a:Nat} {b:List UInt8} (h:Lies s a b):zAz s a=b++zAz s (a+b.length):=by
 obtain⟨r,h⟩:=h;unfold zAz at h⊢;rw[← kC0,h,List.drop_left]
abbrev sr (c:UInt8):Int:=srt c.toNat
def Sep (s:ByteArray) (e:Nat):Prop:=∀h:e<s.size,okC [2,3,4] (s[e]'h)=false
theorem run_ends {ks:List Int} {s:ByteArray} {e:Nat} (h:∀h:e<s.size,okC ks (s[e]'h)=false):zBb ks (zAz s e)=0:=by
 unfold zBb zAz;by_cases hl:e<s.size
 ·rw[kAr (show e<s.data.toList.length from hl),kBc];have:okC ks (s.data.toList[e]'(show e<s.data.toList.length from hl))=false:=h hl;rw[this];rfl
 ·rw[kBx (show s.data.toList.length≤e by have:s.data.toList.length=s.size:=rfl;omega)];rfl
theorem run_all {ks:List Int} {b r:List UInt8} (h:b.all (okC ks)=true):zBb ks (b++r)=b.length+zBb ks r:=by
 unfold zBb
 induction b with
 | nil=>simp
 | cons c b ih =>
  rw[List.all_cons,kAj] at h;rw[List.cons_append,kBc,h.1,kAa rfl,List.length_cons,ih h.2,List.length_cons];omega
theorem zF6 {ks:List Int} {c:UInt8}:okC ks c=true↔sr c∈ks:=by unfold okC;simp
theorem zEk {s:ByteArray} {a:Nat} {c:UInt8} {b:List UInt8} (h:Lies s a (c :: b)) (hc:sr c≠1):zAv s a=a:=by
 unfold zAv;obtain⟨hl,e⟩:=zDD h;rw[run_ends (fun h=>by rw[e];rw[kCC];intro h2;rw[zF6] at h2;simp at h2;exact hc h2)];omega
def Pf (b:List UInt8) (l:List Tk):Prop:=∀s a,a≤s.size→Lies s a b→(Tks s a).map kt=l++(Tks s (a+b.length)).map kt
def Pc (b:List UInt8) (l:List Tk):Prop:=∀s a,a≤s.size→Lies s a b→Sep s (a+b.length)→(Tks s a).map kt=l++(Tks s (a+b.length)).map kt
theorem Pf.pc {b:List UInt8} {l:List Tk} (h:Pf b l):Pc b l:=fun s a ha hl _=>h s a ha hl
theorem pf_nil:Pf [] []:=fun s a _ _=>rfl
theorem zC2 {b c:List UInt8} {l m:List Tk} (h1:Pf b l) (h2:Pf c m):Pf (b++c) (l++m):=fun s a ha h=>by
 obtain⟨hb,hc⟩:=zEu.1 h;rw[h1 s a ha hb,h2 s _ (lies_le hb ha) hc,kAV,kAv,kBM]
theorem zBJ {b c:List UInt8} {l m:List Tk} (h1:Pf b l) (h2:Pc c m):Pc (b++c) (l++m):=fun s a ha h hs=>by
 obtain⟨hb,hc⟩:=zEu.1 h;rw[kAv,← kBM] at hs⊢;rw[h1 s a ha hb,h2 s _ (lies_le hb ha) hc hs,kAV]
def Brk (c:UInt8):Prop:=okC [2,3,4] c=false
theorem zBK {b:List UInt8} {x:UInt8} {c:List UInt8} {l m:List Tk} (h1:Pc b l) (h2:Pf (x :: c) m) (hx:Brk x):Pf (b++x :: c) (l++m):=fun s a ha h=>by
 obtain⟨hb,hc⟩:=zEu.1 h;obtain⟨hl,e⟩:=zDD hc;rw[h1 s a ha hb (fun h=>by rw[e];exact hx),h2 s _ (lies_le hb ha) hc,kAV,kAv,kBM]
theorem zBf:Pf [32] []:=fun s a ha h=>by
 obtain⟨hl,e⟩:=zDD h;have hsk:zAv s a=zAv s (a+1):=by
  unfold zAv;rw[zDl h];show a+zBb [1] ([32]++zAz s (a+1))=_;rw[run_all kCW];simp only[List.length_singleton];omega
 show (Tks s a).map kt=(Tks s (a+1)).map kt;rw[zDn s a ha,zDn s (a+1) kCT,hsk]
theorem zB8 (c:UInt8) (hc:sr c=5):Pf [c] [sgTk c]:=fun s a ha h=>by
 obtain⟨hl,e⟩:=zDD h;have hsk:zAv s a=a:=zEk h kCT;have ht:zB6 s a=(⟨4,⟨#[c]⟩,a⟩,a+1):=by
  unfold zB6;rw[kCI hl,kA9 (by rw[e];show ¬sr c=2;omega),kA9 (by rw[e];show ¬sr c=4;omega),kAa kDG,e]
 rw[zDn s a ha,hsk,kAa hl,ht,kA9 kCV];rfl
theorem ba_ext {x y:ByteArray} (h:x.data.toList=y.data.toList):x=y:=by
 apply kBX;exact kBV.1 h
theorem pc_name (w:ByteArray) (c:UInt8) (r:List UInt8) (hw:w.data.toList=c :: r) (hc:sr c=2) (hall:w.data.toList.all (okC [2,3,4])=true) (hk:zBQ w≠-1):Pc w.data.toList [(zBQ w,w)]:=fun s a ha h hs=>by
 have h':=h;rw[hw] at h';obtain⟨hl,e⟩:=zDD h';have hsk:zAv s a=a:=zEk h' kCT;have hend:zBo s a=a+w.data.toList.length:=by
  unfold zBo;rw[zDl h,run_all hall,run_ends hs,Nat.add_zero]
 have hex:s.extract a (zBo s a)=w:=ba_ext (by rw[hend];exact zDE h);have ht:zB6 s a=(⟨zBQ w,w,a⟩,a+w.data.toList.length):=by
  unfold zB6;rw[kCI hl,kAa kDG,hex,hend]
 rw[zDn s a ha,hsk,kAa hl,ht,kA9 hk];rfl
theorem pc_num (w:ByteArray) (c:UInt8) (r:List UInt8) (hw:w.data.toList=c :: r) (hall:w.data.toList.all (okC [4])=true) (h0:c.toNat≠48∨w.size=1) (hz:w.size≤400):Pc w.data.toList [(2,w)]:=fun s a ha h hs=>by
 have h':=h;rw[hw] at h';obtain⟨hl,e⟩:=zDD h';have hc:sr c=4:=by
  rw[hw,List.all_cons,kAj,zF6] at hall;simpa using hall.1
 have hsk:zAv s a=a:=zEk h' kCT;have hend:zC4 s a=a+w.data.toList.length:=by
  unfold zC4;rw[zDl h,run_all hall,run_ends (fun h=>?_),Nat.add_zero];have:=hs h;rw[kCC] at this⊢;intro h2;rw[zF6] at h2;apply this;rw[zF6];simp only[kAI,kB9,kCi] at h2⊢;exact .inr (.inr h2)
 have hex:s.extract a (zC4 s a)=w:=ba_ext (by rw[hend];exact zDE h);have hnk:zE9 c.toNat w=2:=by unfold zE9;rw[kAa ⟨h0,hz⟩]
 have ht:zB6 s a=(⟨2,w,a⟩,a+w.data.toList.length):=by
  unfold zB6;rw[kCI hl,kA9 (by rw[e];show ¬sr c=2;omega),kAa kDG,hex,hend,e,hnk]
 rw[zDn s a ha,hsk,kAa hl,ht,kA9 kCV];rfl
theorem brk_all {u r:List UInt8} (h:u.all uchk=true):brk (u++125 :: r)=u.length:=by
 unfold brk
 induction u with
 | nil=>rfl
 | cons c u ih =>
  rw[List.all_cons,kAj] at h;have hc:(c != 125)=true:=by
   have:=h.1;unfold uchk at this;rw[kCR];rintro rfl;exact absurd this kCW
  rw[List.cons_append,kBc,hc,kAa rfl,List.length_cons,ih h.2,List.length_cons]
theorem pf_unit (u:ByteArray) (hu:zCw u=true):Pf (123 :: (u.data.toList++[125])) [(3,u)]:=fun s a ha h=>by
 obtain⟨hl,e⟩:=zDD h;have hall:u.data.toList.all uchk=true:=by unfold zCw at hu;rw[kAj] at hu;exact hu.2
 have hsk:zAv s a=a:=zEk h kCW;obtain⟨_,h1⟩:=zEu (b:=[123]) |>.1 h
 obtain⟨h2,h3⟩:=zEu.1 h1;have hcl:zBc s a=a+1+u.data.toList.length:=by
  unfold zBc;have hb:=zDl h1;simp only[List.length_singleton] at hb;have e2:∀X:List UInt8,u.data.toList.append [125]++X=u.data.toList++125 :: X:=fun X=>by simp
  rw[hb,e2,brk_all hall]
 obtain⟨hl3,_⟩:=zDD h3;simp only[List.length_singleton] at h2 h3 hl3;have hex:s.extract (a+1) (zBc s a)=u:=ba_ext (by rw[hcl];exact zDE h2);have ht:zB6 s a=(⟨3,u,a⟩,a+1+u.data.toList.length+1):=by
  unfold zB6;rw[kCI hl,kA9 (by rw[e];decide),kA9 (by rw[e];decide),kA9 (by rw[e];decide),kAa ⟨by rw[e];rfl,by rw[hcl];exact hl3,by rw[hex];exact hu⟩,hex,hcl]
 rw[zDn s a ha,hsk,kAa hl,ht,kA9 kCV];show _ :: _=_ :: _;congr 2;simp only[List.length_cons,kAv,List.length_nil];rw[show a+1+u.data.toList.length+1=a+(u.data.toList.length+(0+1)+1) by omega]
theorem dig_sr {c:UInt8} (h:digC c=true):sr c=4:=by
 unfold digC at h;rw[kAj,kAN,kAN] at h;unfold sr srt;rw[kA9 kCT,kA9 kCT,kA9 kCT,kAa kCT]
theorem zG1 {w:ByteArray} (h:0<w.size):∃c r,w.data.toList=c :: r:=by
 cases e:w.data.toList with
 | nil=>exfalso;have:w.size=w.data.toList.length:=rfl;rw[e,List.length_nil] at this;omega
 | cons c r=>exact⟨c,r,rfl⟩
theorem zFJ {w:ByteArray} (hf:zCX w=true) (hn:negB w=false) (hz:w.size≤400):Pc w.data.toList [(2,w)]:=by
 have ht:zBr w=w:=by unfold zBr;rw[kA9 (by rw[hn];decide)]
 obtain⟨c,r,hw⟩:=zG1 (zFp hf);unfold zCX at hf;rw[ht,kAj,kAj] at hf;obtain⟨⟨h1,h2⟩,h3⟩:=hf;refine pc_num w c r hw (kBi.2 fun x hx=>zF6.2 (by rw[dig_sr (kBi.1 h3 x hx)];simp)) ?_ hz;by_cases h48:c.toNat=48
 ·refine .inr ?_;have hzh:zDH w=true:=by
   unfold zDH;rw[ht,hw];simp only[kAx];exact kCO.1 h48
  rw[hzh] at h2;simp at h2;have:=zFp (s:=w) (by unfold zCX;rw[ht,kAj,kAj];exact⟨⟨h1,by rw[hzh];simp;omega⟩,h3⟩);omega
 ·exact .inl h48
theorem nameFrom_all:∀(l:List UInt8) (pos:Nat),zBC pos l=true→l.all (okC [2,3,4])=true:=by
 intro l
 induction l with
 | nil=>intro pos _;rfl
 | cons c l ih =>
  intro pos h;unfold zBC at h;rw[kAj] at h;rw[List.all_cons,ih _ h.2,Bool.and_true,zF6];have:=h.1;unfold nchk at this;rw[kCt,kAj,kAx,kAx] at this;rcases this with h | h
  ·rw[show sr c=2 from h];simp
  ·rw[show sr c=4 from h.1];simp
theorem pc_nm {w:ByteArray} (h:zC0 w=true):Pc w.data.toList [(0,w)]:=by
 have hk:zBQ w=0:=by
  unfold zBQ;rw[h];unfold zC0 at h;rw[kAj,kAj] at h;have:=h.1.2;rw[Bool.not_eq_true'] at this;rw[this];rfl
 unfold zC0 at h;rw[kAj,kAj,kAj,kAN] at h;obtain⟨⟨⟨h1,_⟩,_⟩,h4⟩:=h;obtain⟨c,r,hw⟩:=zG1 h1;have hc:sr c=2:=by
  rw[hw] at h4;unfold zBC at h4;rw[kAj] at h4;have:=h4.1;unfold nchk at this;simp at this;exact this
 have:=pc_name w c r hw hc (nameFrom_all _ _ h4) (by rw[hk];decide);rw[hk] at this;exact this
theorem pc_wd (w:ByteArray) (c:UInt8) (r:List UInt8) (hw:w.data.toList=c :: r) (hc:sr c=2) (hall:w.data.toList.all (okC [2,3,4])=true) (hk:zE5 w=true):Pc w.data.toList [(1,w)]:=by
 have h:zBQ w=1:=by unfold zBQ;rw[hk];rfl
 have:=pc_name w c r hw hc hall (by rw[h];decide);rw[h] at this;exact this
theorem ofR_dig:((List.range 100).all fun i=>zCX (ofR (i:Int)) && !negB (ofR (i:Int)))=true:=kCU
theorem ofR_neg:((List.range 9).all fun i=>(ofR (-((i:Int)+1))).data.toList==45 :: (ofR ((i:Int)+1)).data.toList)=true:=kCU
theorem pc_ofR {v:Int} (h0:0≤v) (h1:v≤99):Pc (ofR v).data.toList [(2,ofR v)]:=by
 have:=kBi.1 ofR_dig v.toNat (kBO.2 kCT);rw[kC6 h0,kAj,Bool.not_eq_true'] at this;exact zFJ this.1 this.2 (by have:=zDM v kCT h1;omega)
theorem pc_size {v:Int} (h0:-9≤v) (h1:v≤99):Pc (ofR v).data.toList (zBs v):=by
 unfold zBs;by_cases h:v<0
 ·rw[kAa h];have:=kBi.1 ofR_neg (-v-1).toNat (kBO.2 kCT);rw[kC6 kCT,kAx,show -((-v-1)+1)=v by omega,show (-v-1)+1=-v by omega] at this;rw[this];exact zBJ (b:=[45]) (l:=[sgTk 45]) (zB8 45 kCW) (pc_ofR kCT kCT)
 ·rw[kA9 h];exact pc_ofR kCT h1
theorem zAl (a b:ByteArray):(a++b).data.toList=a.data.toList++b.data.toList:=by simp[kCH]
theorem chk_num {num:S28} (h:chkR num=0):zCX num.f0=true∧(zBr num.f0).size≤400∧zCX num.f1=true∧(zBr num.f1).size≤400∧negB num.f1=false:=by
 unfold chkR at h;by_cases h1:zC8 num.f0=1∨zC8 num.f1=1∨negB num.f1=true∨num.f1=⟨#[48]⟩
 ·rw[kAa h1] at h;cases h
 rw[kA9 h1] at h;by_cases h2:zC8 num.f0≠0∨zC8 num.f1≠0
 ·rw[kAa h2] at h;cases h
 have e0:zC8 num.f0=0:=by
  by_cases e:zC8 num.f0=0
  ·exact e
  ·exact absurd (.inl e) h2
 have e1:zC8 num.f1=0:=by
  by_cases e:zC8 num.f1=0
  ·exact e
  ·exact absurd (.inr e) h2
 have e2:negB num.f1=false:=by
  cases e:negB num.f1
  ·rfl
  ·exact absurd (.inr (.inr (.inl e))) h1
 exact⟨(zD3 e0).1,(zD3 e0).2,(zD3 e1).1,(zD3 e1).2,e2⟩
theorem pc_lit {num:S28} {name:ByteArray} (hc:chkR num=0) (hn:negB num.f0=false) (hu:name=eB∨zCw name=true):Pc (litR num name).data.toList (litTk num name):=by
 obtain⟨f0,z0,f1,z1,n1⟩:=chk_num hc;have t0:zBr num.f0=num.f0:=by unfold zBr;rw[kA9 (by rw[hn];decide)]
 have t1:zBr num.f1=num.f1:=by unfold zBr;rw[kA9 (by rw[n1];decide)]
 rw[t0] at z0;rw[t1] at z1;have p0:=zFJ f0 hn z0;have p1:=zFJ f1 n1 z1;have hN:Pc (litN num).data.toList ((2,num.f0) :: (if num.f1.toList == [49] then [] else [sgTk 124,(2,num.f1)])):=by
  unfold litN;by_cases hb:(num.f1.toList == [49])=true
  ·rw[kAa hb,kAa hb];exact p0
  ·rw[kA9 hb,kA9 hb,zAl,zAl];exact zBJ (l:=[(2,num.f0),sgTk 124]) (zBK (l:=[(2,num.f0)]) p0 (zB8 124 kCW) kCY) p1
 unfold litR litTk;by_cases h0:(name.toList == [])=true
 ·rw[kAa h0,kAa h0,kCg];exact hN
 ·rw[kA9 h0,kA9 h0,zAl,zAl,zAl];have hu':zCw name=true:=by
   rcases hu with rfl | hu
   ·exact absurd (by rw[kAR];rfl) h0
   ·exact hu
  have e:(litN num).data.toList++(⟨#[123]⟩:ByteArray).data.toList++name.data.toList++(⟨#[125]⟩:ByteArray).data.toList=(litN num).data.toList++123 :: (name.data.toList++[125]):=kCV
  rw[e];have:=(zBK hN (pf_unit name hu') kCY).pc;simpa using this
theorem pc_paren (lv want:Int) {t:ByteArray} {l:List Tk} (h:Pc t.data.toList l):Pc (zCS lv want t).data.toList (zDj lv want l):=by
 unfold zCS zDj;by_cases hl:lv<want
 ·rw[kAa hl,kAa hl,zAl,zAl,kAV];exact zBJ (l:=[sgTk 40]) (zB8 40 kCW) (zBK h (zB8 41 kCW) kCY).pc
 ·rw[kA9 hl,kA9 hl];exact h
theorem pf_comma:Pf [44,32] [sgTk 44]:=zC2 (l:=[sgTk 44]) (zB8 44 kCW) zBf
theorem joinTk_cons (t:List Tk) (ts:List (List Tk)):zBH (t :: ts)=t++ts.flatMap fun u=>sgTk 44 :: u:=by
 induction ts generalizing t with
 | nil=>simp[zBH]
 | cons u ts ih=>rw[zBH,ih];simp
inductive PcL:List ByteArray→List (List Tk)→Prop
 | nil:PcL [] []
 | cons {u:ByteArray} {m:List Tk} {ts:List ByteArray} {ls:List (List Tk)} (h:Pc u.data.toList m) (hs:PcL ts ls):PcL (u :: ts) (m :: ls)
theorem pc_fold:∀(ts:List ByteArray) (ls:List (List Tk)) (t:ByteArray) (l:List Tk),Pc t.data.toList l→PcL ts ls →
  Pc (ts.foldl (fun a u=>a++⟨#[44,32]⟩++u) t).data.toList (l++ls.flatMap fun u=>sgTk 44 :: u):=by
 intro ts
 induction ts with
 | nil=>intro ls t l h hs;cases hs;simpa using h
 | cons u ts ih =>
  intro ls t l h hs
  cases hs with
  | cons hu hs =>
   rename_i m ls;have:=ih ls (t++⟨#[44,32]⟩++u) (l++sgTk 44 :: m) (by
    rw[zAl,zAl];have:=zBJ (zBK h pf_comma kCY) hu;simpa using this) hs
   simpa using this
theorem pc_join (ts:List ByteArray) (ls:List (List Tk)) (h:PcL ts ls):Pc (zBz ts).data.toList (zBH ls):=by
 cases h with
 | nil=>exact pf_nil.pc
 | cons h hs=>rw[joinTk_cons];exact pc_fold _ _ _ _ h hs
theorem getD_argsR (l:List S31) (i:Nat) (h:i<l.length):(zG6 l).getD i (0,⟨#[]⟩)=(levR l[i].f0,zBl l[i]):=by
 induction l generalizing i with
 | nil=>simp at h
 | cons x l ih =>
  unfold zG6
  cases i with
  | zero=>rfl
  | succ i=>exact ih i kDy
theorem argR_eq (l:List S31) (i:Nat) (h:i<l.length) (want:Int):argR (zG6 l) i want=zAi l[i] want:=by
 unfold argR zAi;rw[getD_argsR l i h]
theorem openR_eq' (x:S31):zBl x=openRO x.f0 x.f1 x.f2 x.f3 (zG6 x.f4):=by cases x;rfl
theorem pc_two {a b:ByteArray} {c:UInt8} {l m:List Tk} (ha:Pc a.data.toList l) (hb:Pc b.data.toList m) (hc:sr c=5):Pc (a++⟨#[32,c,32]⟩++b).data.toList (l++sgTk c :: m):=by
 rw[zAl,zAl];have:=zBJ (zBK ha (zC2 zBf (zC2 (zB8 c hc) zBf)) kCY) hb;simpa using this
theorem zFI (w:ByteArray) (c:UInt8) (r:List UInt8) (hw:w.data.toList=c :: r) (hc:sr c=2) (hall:w.data.toList.all (okC [2,3,4])=true) (hk:zE5 w=true):Pf (w.data.toList++[32]) [(1,w)]:=by
 have:=zBK (pc_wd w c r hw hc hall hk) zBf kCY;simpa using this
theorem zEM (w:ByteArray) (c:UInt8) (r:List UInt8) (hw:w.data.toList=c :: r) (hc:sr c=2) (hall:w.data.toList.all (okC [2,3,4])=true) (hk:zE5 w=true):Pf (32 :: (w.data.toList++[32])) [(1,w)] :=
 zC2 zBf (zFI w c r hw hc hall hk)
theorem word_tab:Pf [116,97,98,32] [(1,⟨#[116,97,98]⟩)]:=zFI ⟨#[116,97,98]⟩ 116 _ rfl kCW kCW kCU
theorem word_sum:Pf [115,117,109,32] [(1,⟨#[115,117,109]⟩)]:=zFI ⟨#[115,117,109]⟩ 115 _ rfl kCW kCW kCU
theorem word_if:Pf [105,102,32] [(1,⟨#[105,102]⟩)]:=zFI ⟨#[105,102]⟩ 105 _ rfl kCW kCW kCU
theorem word_let:Pf [108,101,116,32] [(1,⟨#[108,101,116]⟩)]:=zFI ⟨#[108,101,116]⟩ 108 _ rfl kCW kCW kCU
theorem word_then:Pf [32,116,104,101,110,32] [(1,⟨#[116,104,101,110]⟩)]:=zEM ⟨#[116,104,101,110]⟩ 116 _ rfl kCW kCW kCU
theorem word_else:Pf [32,101,108,115,101,32] [(1,⟨#[101,108,115,101]⟩)]:=zEM ⟨#[101,108,115,101]⟩ 101 _ rfl kCW kCW kCU
theorem word_in:Pf [32,105,110,32] [(1,⟨#[105,110]⟩)]:=zEM ⟨#[105,110]⟩ 105 _ rfl kCW kCW kCU
theorem pc_open:∀(d:Nat) (x:S31),zAC x≤d→OkX x→Pc (zBl x).data.toList (zAm x):=by
 intro d
 induction d with
 | zero=>intro x h;rw[zAr] at h;omega
 | succ d ih =>
  intro x hd hok;obtain⟨_,hlook,hl⟩:=hok;have hn:=zEr hlook;rw[zAr] at hd;have hx:∀a∈x.f4,Pc (zBl a).data.toList (zAm a):=fun a ha=>ih a kDF (hl a ha)
  have arg:∀(i:Nat) (want:Int),i<x.f4.length→Pc (argR (zG6 x.f4) i want).data.toList (zBp (zBX x.f4) i want):=fun i want hi=>by
   rw[argR_eq _ i hi,argTk_eq _ i hi];exact pc_paren _ _ (hx _ (kAA hi))
  have args:Pc (zBz ((zG6 x.f4).map fun p=>zCS p.1 0 p.2)).data.toList (zBH ((zBX x.f4).map fun p=>zDj p.1 0 p.2)):=by
   rw[zDf,zDU];apply pc_join;have:∀l:List S31,(∀a∈l,Pc (zBl a).data.toList (zAm a))→PcL (l.map fun y=>zAi y 0) (l.map fun y=>tkTk y 0):=by
    intro l
    induction l with
    | nil=>intro _;exact .nil
    | cons a l ih=>intro h;exact .cons (pc_paren _ _ (h a (kAJ ..))) (ih fun b hb=>h b (kAK _ hb))
   exact this _ hx
  rw[zD8,openR_eq'];obtain⟨op,num,name,size,l⟩:=x;simp only at hn arg args ⊢;generalize zG6 l=R at *;generalize zBX l=T at *;rcases hn with⟨rfl,h1,h2,h3,rfl,hk⟩ | ⟨rfl,rfl,hn,rfl,hk⟩ | ⟨rfl,rfl,rfl,rfl,hk⟩ | ⟨ho,rfl,rfl,rfl,hk⟩ | ⟨rfl,rfl,rfl,⟨hs0,hs1⟩,hk⟩ | ⟨rfl,rfl,rfl,rfl,hk0,hk1⟩ | ⟨ho,rfl,hn,⟨hs0,hs1⟩,hk⟩ | ⟨rfl,rfl,rfl,rfl,hk⟩ | ⟨rfl,rfl,hn,rfl,hk⟩ | ⟨rfl,rfl,hn,rfl,hk⟩
  ·exact pc_lit h1 h2 h3
  ·exact pc_nm hn
  ·show Pc (⟨#[45]⟩++argR R 0 2).data.toList (sgTk 45 :: zBp T 0 2);rw[zAl];exact zBJ (l:=[sgTk 45]) (zB8 45 kCW) (arg 0 2 kCT)
  ·rcases ho with rfl | rfl | rfl | rfl | rfl
   ·exact pc_two (arg 0 1 kCT) (arg 1 2 kCT) kCW
   ·exact pc_two (arg 0 1 kCT) (arg 1 2 kCT) kCW
   ·exact pc_two (arg 0 2 kCT) (arg 1 3 kCT) kCW
   ·exact pc_two (arg 0 2 kCT) (arg 1 3 kCT) kCW
   ·show Pc (argR R 0 4++⟨#[91]⟩++argR R 1 0++⟨#[93]⟩).data.toList (zBp T 0 4++sgTk 91 :: (zBp T 1 0++[sgTk 93]));rw[zAl,zAl,zAl];have:=(zBK (zBJ (zBK (arg 0 4 kCT) (zB8 91 kCW) kCY) (arg 1 0 kCT)) (zB8 93 kCW) kCY).pc;simpa using this
  ·show Pc (argR R 0 4++⟨#[94]⟩++ofR size).data.toList (zBp T 0 4++sgTk 94 :: zBs size);rw[zAl,zAl];have:=zBJ (zBK (arg 0 4 kCT) (zB8 94 kCW) kCY) (pc_size hs0 kCT);simpa using this
  ·show Pc (⟨#[91]⟩++zBz (R.map fun p=>zCS p.1 0 p.2)++⟨#[93]⟩).data.toList (sgTk 91 :: (zBH (T.map fun p=>zDj p.1 0 p.2)++[sgTk 93]));rw[zAl,zAl];have:=(zBK (zBJ (zB8 91 kCW) args) (zB8 93 kCW) kCY).pc;simpa using this
  ·have tail:∀(w:ByteArray) (t:List UInt8),Pf t [(1,w)]→Pc (t++name.data.toList++[32,60,32]++(ofR size).data.toList++[32,46,32]++(argR R 0 0).data.toList) ((1,w) :: (0,name) :: sgTk 60 :: (zBs size++sgTk 46 :: zBp T 0 0)):=by
    intro w t ht;have h1:=zBK (zBJ ht (pc_nm hn)) (zC2 zBf (zC2 (zB8 60 kCW) zBf)) kCY;have h2:=zBK (zBJ h1 (pc_size kCT hs1)) (zC2 zBf (zC2 (zB8 46 kCW) zBf)) kCY;have h3:=zBJ h2 (arg 0 0 kCT);simpa using h3
   rcases ho with rfl | rfl
   ·show Pc (⟨#[116,97,98,32]⟩++name++⟨#[32,60,32]⟩++(ofR size)++⟨#[32,46,32]⟩++argR R 0 0).data.toList _;rw[zAl,zAl,zAl,zAl,zAl];exact tail _ _ word_tab
   ·show Pc (⟨#[115,117,109,32]⟩++name++⟨#[32,60,32]⟩++(ofR size)++⟨#[32,46,32]⟩++argR R 0 0).data.toList _;rw[zAl,zAl,zAl,zAl,zAl];exact tail _ _ word_sum
  ·show Pc (⟨#[105,102,32]⟩++argR R 0 1++⟨#[32,60,32]⟩++argR R 1 1++⟨#[32,116,104,101,110,32]⟩++argR R 2 0++⟨#[32,101,108,115,101,32]⟩++argR R 3 0).data.toList
    ((1,⟨#[105,102]⟩) :: (zBp T 0 1++sgTk 60 :: (zBp T 1 1++(1,⟨#[116,104,101,110]⟩) :: (zBp T 2 0++(1,⟨#[101,108,115,101]⟩) :: zBp T 3 0))))
   rw[zAl,zAl,zAl,zAl,zAl,zAl,zAl];have h1:=zBK (zBJ word_if (arg 0 1 kCT)) (zC2 zBf (zC2 (zB8 60 kCW) zBf)) kCY;have h2:=zBK (zBJ h1 (arg 1 1 kCT)) word_then kCY;have h3:=zBK (zBJ h2 (arg 2 0 kCT)) word_else kCY;have h4:=zBJ h3 (arg 3 0 kCT);simpa using h4
  ·show Pc (⟨#[108,101,116,32]⟩++name++⟨#[32,61,32]⟩++argR R 0 0++⟨#[32,105,110,32]⟩++argR R 1 0).data.toList
    ((1,⟨#[108,101,116]⟩) :: (0,name) :: sgTk 61 :: (zBp T 0 0++(1,⟨#[105,110]⟩) :: zBp T 1 0))
   rw[zAl,zAl,zAl,zAl,zAl];have h1:=zBK (zBJ word_let (pc_nm hn)) (zC2 zBf (zC2 (zB8 61 kCW) zBf)) kCY;have h2:=zBK (zBJ h1 (arg 0 0 kCT)) word_in kCY;have h3:=zBJ h2 (arg 1 0 kCT);simpa using h3
  ·show Pc (name++⟨#[40]⟩++zBz (R.map fun p=>zCS p.1 0 p.2)++⟨#[41]⟩).data.toList ((0,name) :: sgTk 40 :: (zBH (T.map fun p=>zDj p.1 0 p.2)++[sgTk 41]));rw[zAl,zAl,zAl];have:=(zBK (zBJ (zBK (pc_nm hn) (zB8 40 kCW) kCY) args) (zB8 41 kCW) kCY).pc;simpa using this
theorem tks_end (b:ByteArray):Tks b b.size=[]:=by
 rw[zDn b _ (kA2 _),kA9 (by unfold zAv;exact kCr.2 (Nat.le_add_right _ _))]
theorem toks_of {b:ByteArray} {l:List Tk} (h:Pc b.data.toList l):(zA8 b).map kt=l:=by
 have h1:=h b 0 (kAT _) (lies_all b) (fun hh=>by exfalso;rw[kAH] at hh;exact Nat.lt_irrefl _ hh);have e:b.data.toList.length=b.size:=rfl;rw[kAH,Tks_zero,e,tks_end] at h1;rw[h1];simp
theorem toks_open (x:S31) (h:OkX x):(zA8 (zBl x)).map kt=zAm x:=toks_of (pc_open _ x (kA2 _) h)
end Go.Proofs.YtjaobihcdkjmbaaGreatDoor
end
