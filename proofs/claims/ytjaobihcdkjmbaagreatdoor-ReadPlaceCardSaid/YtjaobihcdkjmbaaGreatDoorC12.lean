/- The law ReadPlace answers true for every argument; a part of its proof. -/
import Derived.Test.YtjaobihcdkjmbaaGreatDoorCa
import Derived.Test.YtjaobihcdkjmbaaGreatDoorCb
import Derived.Test.YtjaobihcdkjmbaaGreatDoorC0
import Derived.Test.YtjaobihcdkjmbaaGreatDoorC7
import Derived.Test.YtjaobihcdkjmbaaGreatDoorC9
import Derived.Test.YtjaobihcdkjmbaaGreatDoorC11
set_option linter.unusedVariables false
set_option linter.unusedSimpArgs false
namespace Go.Proofs.YtjaobihcdkjmbaaGreatDoor.PReadTokens
end Go.Proofs.YtjaobihcdkjmbaaGreatDoor.PReadTokens
namespace Go.Proofs.YtjaobihcdkjmbaaGreatDoorW.PrintWords
end Go.Proofs.YtjaobihcdkjmbaaGreatDoorW.PrintWords
set_option maxRecDepth 100000
set_option maxHeartbeats 4000000
section
namespace Go.Proofs.YtjaobihcdkjmbaaGreatDoor
open Go.RowKit Go.Proofs.YtjaobihcdkjmbaaGreatDoorW.PrintWords Go.Proofs.YtjaobihcdkjmbaaGreatDoor.PReadTokens
def rdCells (v:Value) (now en R:Nat):Array Value:=#[v,.int .i64 now,.int .i64 en,.func (.func 134) #[] #[],.func (.func 135) #[.pointer (some ⟨R,0,none⟩)] #[]]
structure Rdr (w:World) (R:Nat) (ts:List S47) (now en:Nat):Prop where
 out:∃v base,w.heap[R]?=some (.cells (rdCells v now en R) 97 (0,0))∧zAT w base v ts
def tokP (ts:List S47) (en now:Nat):S47:=if h:now<ts.length then ts[now] else ⟨-1,⟨#[]⟩,en⟩
theorem Rdr.keep {w w':World} {R:Nat} {ts:List S47} {now en:Nat} (h:Rdr w R ts now en) (hb:Below w.heap.size w w'):Rdr w' R ts now en:=by
 obtain⟨v,base,h1,h2⟩:=h.out;exact⟨v,base,zAb hb h1,zBY h2 hb⟩
theorem Rdr.lt {w:World} {R:Nat} {ts:List S47} {now en:Nat} (h:Rdr w R ts now en):R<w.heap.size:=by
 obtain⟨v,base,h1,h2⟩:=h.out;exact zA5 h1
theorem Rdr.set {w:World} {R:Nat} {ts:List S47} {now en:Nat} (h:Rdr w R ts now en) (now':Nat):Rdr (w.setCell ⟨R,1,none⟩ (.int .i64 now')) R ts now' en:=by
 obtain⟨v,base,h1,h2⟩:=h.out;exact⟨v,base,zAa h1 1 _,zFS h2 (own_ne h2 h1 kD0) _⟩
theorem zAT.cells {w:World} {base:Nat} {v:Value} {ts:List S47} (h:zAT w base v ts) {i:Nat} (hi:i<ts.length) :
  ∃g c,v=.slice (some ⟨g,0,none⟩) ts.length c∧w.cell? ⟨g,i*3,none⟩=some (.int .i64 ts[i].f0)∧w.cell? ⟨g,i*3+1,none⟩=some (.string ts[i].f1)∧w.cell? ⟨g,i*3+2,none⟩=some (.int .i64 ts[i].f2):=by
 have hfl:∀(l:List S47) (i:Nat) (hi:i<l.length),(flat l)[i*3]?=some (.int .i64 l[i].f0)∧(flat l)[i*3+1]?=some (.string l[i].f1)∧(flat l)[i*3+2]?=some (.int .i64 l[i].f2):=by
  intro l
  induction l with
  | nil=>intro i hi;simp at hi
  | cons t l ih =>
   intro i hi
   cases i with
   | zero=>exact⟨rfl,rfl,rfl⟩
   | succ i =>
    have:=ih i (by simpa using hi);have e:flat (t :: l)=tokC t++flat l:=by simp[flat]
    have hl:(tokC t).length=3:=rfl;rw[e];refine⟨?_,?_,?_⟩
    ·rw[kCn kCW,hl,show (i+1)*3-3=i*3 by omega];exact this.1
    ·rw[kCn kCW,hl,show (i+1)*3+1-3=i*3+1 by omega];exact this.2.1
    ·rw[kCn kCW,hl,show (i+1)*3+2-3=i*3+2 by omega];exact this.2.2
 rcases h.2 with⟨_,h0⟩ | ⟨g,cap,cur,rfl,hb,hg,_,_,_,ht⟩
 ·omega
 ·obtain⟨f0,f1,f2⟩:=hfl ts i hi;have hc:=World.ownsRow.cells h (g:=g) rfl;have c0:=hc _ _ f0;have c1:=hc _ _ f1;have c2:=hc _ _ f2;rw[zCw] at c0 c1 c2;exact⟨g,cap,rfl,c0,c1,c2⟩
theorem zAe {P:Program} {fn:Func} {p:Tmp} {ty:TypeId} (h:fn.results=#[.cell p ty]) (tmps:Array Value) (w:World) (g:Nat) (t:TypeId) (cs:Array Value) (fr:Nat×Nat) (d:TypeDesc)
  (hp:tmps.getD p undef=.pointer (some ⟨g,0,none⟩)) (hg:w.heap[g]?=some (.cells cs t fr))
  (hu:P.underlying ty=some d) (hd:(match d with | .struct _ | .array _ _=>true | _=>false)=true) (hi:(P.info? ty).map (·.size)=some cs.size) :
  (results fn tmps).run P w=.ok (.agg cs) w:=by
 have hp':tmps[p]?.getD undef=.pointer (some ⟨g,0,none⟩):=by simpa using hp
 simp[results,h,hp',asAddr,kC3 w g t ty cs fr d hg hu hd hi]
theorem zDK:(Tryz.prog.info? 47).map (·.size)=some 3:=kCX
theorem zB6:(Tryz.prog.info? 31).map (·.size)=some 6:=kCX
theorem fin3 {X:World} {R:Nat} {x0 x1 x2:Value} {t:TypeId} (v0 v1 v2:Value) (hR:X.heap[R]?=some (.cells #[x0,x1,x2] t (0,0))) :
  (((X.setCell ⟨R,0,none⟩ v0).setCell ⟨R,1,none⟩ v1).setCell ⟨R,2,none⟩ v2).heap[R]?=some (.cells #[v0,v1,v2] t (0,0)):=zAa (zAa (zAa hR 0 v0) 1 v1) 2 v2
theorem zDQ {B:Nat} {w X:World} {R:Nat} (h:Below B w X) (hB:B≤R) (v0 v1 v2:Value):Below B w (((X.setCell ⟨R,0,none⟩ v0).setCell ⟨R,1,none⟩ v1).setCell ⟨R,2,none⟩ v2) :=
 ((h.setCell (p:=⟨R,0,none⟩) hB _).setCell (p:=⟨R,1,none⟩) hB _).setCell (p:=⟨R,2,none⟩) hB _
theorem peek_some (R:Nat) (ts:List S47) (now en:Nat) (w:World) (h:Rdr w R ts now en) (hn:now<ts.length) :
  Calls Tryz.prog 136 #[.pointer (some ⟨R,0,none⟩)] w fun e w'=>e=.returned (tokV ts[now])∧Below w.heap.size w w':=by
 obtain⟨v,base,h1,h2⟩:=h.out;obtain⟨g,c,rfl,c0,c1,c2⟩:=h2.cells hn;have d0:w.cell? ⟨R,0,none⟩=some (.slice (some ⟨g,0,none⟩) ts.length c):=zA1 h1 0;have d1:w.cell? ⟨R,1,none⟩=some (.int .i64 now):=zA1 h1 1;have hRl:=zA5 h1;have hgl:=kAG w _ c0;simp only at hgl;clear h h1 h2;have hne:((now:Int)==(ts.length:Int))=false:=by rw[kAj];omega
 have hlt:(now:Int)<(ts.length:Int):=kCW
 unfold tokV;generalize ts[now]=t at *;go_enter Tryz.func136,Tryz.ntmps136;go_wp2
 go_quiet (fail)
 generalize nq=n0 at *;go_wp2
 go_region
 all_goals
  go_wp2;refine kAg (zAe Tryz.results136 _ _ w.heap.size 47 #[.int .i64 t.f0,.string t.f1,.int .i64 t.f2] (0,0) _ rfl (fin3 (.int .i64 t.f0) (.string t.f1) (.int .i64 t.f2) (zAp (zA4 w _) _)) Tryz.underlying47 rfl zDK) rfl ⟨rfl,?_⟩;exact zDQ (zA3 ((kA3 _ w).alloc (kA2 _) _) _) (kA2 _) _ _ _
theorem peek_none (R:Nat) (ts:List S47) (en:Nat) (w:World) (h:Rdr w R ts ts.length en) :
  Calls Tryz.prog 136 #[.pointer (some ⟨R,0,none⟩)] w fun e w'=>e=.returned (tokV ⟨-1,⟨#[]⟩,en⟩)∧Below w.heap.size w w':=by
 obtain⟨v,base,h1,h2⟩:=h.out;obtain⟨A,c,rfl⟩:=zC5 h2;have d0:w.cell? ⟨R,0,none⟩=some (.slice A ts.length c):=zA1 h1 0;have d1:w.cell? ⟨R,1,none⟩=some (.int .i64 ts.length):=zA1 h1 1;have d2:w.cell? ⟨R,2,none⟩=some (.int .i64 en):=zA1 h1 2;have hRl:=zA5 h1;clear h h1 h2;go_enter Tryz.func136,Tryz.ntmps136;go_wp2
 go_quiet (fail)
 generalize nq=n0 at *;go_wp2;refine kAg (zAe Tryz.results136 _ _ w.heap.size 47 #[.int .i64 (-1),.string ⟨#[]⟩,.int .i64 en] (0,0) _ rfl (fin3 (.int .i64 (-1)) (.string ⟨#[]⟩) (.int .i64 en) (zAp (zA4 w _) _)) Tryz.underlying47 rfl zDK) rfl ⟨rfl,?_⟩;exact zDQ (zA3 ((kA3 _ w).alloc (kA2 _) _) _) (kA2 _) _ _ _
theorem zBc (R:Nat) (ts:List S47) (now en:Nat) (w:World) (h:Rdr w R ts now en) (hn:now≤ts.length) :
  Calls Tryz.prog 136 #[.pointer (some ⟨R,0,none⟩)] w fun e w'=>e=.returned (tokV (tokP ts en now))∧Below w.heap.size w w':=by
 unfold tokP;by_cases hlt:now<ts.length
 ·rw[kCo hlt];exact peek_some R ts now en w h hlt
 ·rw[dif_neg hlt];obtain rfl:now=ts.length:=kCW
  exact peek_none R ts en w h
def zD7 (t:S47) (x:ByteArray):Bool:=(t.f0==4||t.f0==1)&&t.f1.toList==x.toList
theorem is_any (R:Nat) (ts:List S47) (now en:Nat) (x:ByteArray) (w:World) (h:Rdr w R ts now en) (hn:now≤ts.length) :
  Calls Tryz.prog 178 #[.pointer (some ⟨R,0,none⟩),.string x] w fun e w'=>e=.returned (.bool (zD7 (tokP ts en now) x))∧Below w.heap.size w w':=by
 have hp:=zBc R ts now en w h hn;unfold tokV at hp;generalize tokP ts en now=t at *;obtain⟨r,hr⟩:∃r,r=zD7 t x:=⟨_,rfl⟩;rw[← hr];have Hr:=kA1 hr;clear h hr;go_enter Tryz.func178,Tryz.ntmps178;go_wp2_with (go_at_call 136;refine hp.mono ?_;rintro e w1 ⟨rfl,hb1⟩)
 all_goals
  go_ret;refine⟨?_,(hb1.alloc hb1.size _)⟩;rw[Hr.out]
  simp_all [zD7]
theorem field47_2 (a c:Int) (b:ByteArray) (w:World):(Instr.field 47 (.agg #[.int .i64 a,.string b,.int .i64 c]) 2).run Tryz.prog w=.ok (.int .i64 c) w:=kCX
theorem zBO (a c:Int) (b:ByteArray) (w:World):(Instr.field 47 (.agg #[.int .i64 a,.string b,.int .i64 c]) 0).run Tryz.prog w=.ok (.int .i64 a) w:=kCX
def zAk (n:Int):Ending:=.panicked [{ v:=.iface 137 (.agg #[.int .i64 n]),recovered:=false }]
theorem zDk (R:Nat) (w:World):Calls Tryz.prog 93 #[.pointer (some ⟨R,0,none⟩),.bool true] w fun e w'=>e=.returned (.tuple #[])∧w'=w:=by
 go_enter Tryz.func93,Tryz.ntmps93;go_wp2;exact kBc (kAX rfl _ _ _) rfl ⟨rfl,rfl⟩
theorem zBJ (R:Nat) (ts:List S47) (now en:Nat) (w:World) (h:Rdr w R ts now en) (hn:now≤ts.length) :
  Calls Tryz.prog 93 #[.pointer (some ⟨R,0,none⟩),.bool false] w fun e w'=>e=zAk (tokP ts en now).f2∧Below w.heap.size w w':=by
 have hp:=zBc R ts now en w h hn;unfold tokV at hp;generalize tokP ts en now=t at *;clear h;have hfd:=field47_2 t.f0 t.f2 t.f1;go_enter Tryz.func93,Tryz.ntmps93;go_wp2_with (go_at_call 136;refine hp.mono ?_;rintro e w1 ⟨rfl,hb1⟩);exact⟨rfl,rfl,hb1⟩
theorem zAw {ts:List S47} {en now:Nat} {x:ByteArray} (h:zD7 (tokP ts en now) x=true):now<ts.length:=by
 unfold tokP at h;by_cases hlt:now<ts.length
 ·exact hlt
 ·rw[dif_neg hlt] at h;simp[zD7] at h
structure Took (w:World) (R:Nat) (ts:List S47) (now' en:Nat) (w':World):Prop where
 grown:w.grownBy w' (some R)
 rdr:Rdr w' R ts now' en
theorem Took.refl {w:World} {R:Nat} {ts:List S47} {now en:Nat} (h:Rdr w R ts now en):Took w R ts now en w:=⟨kAJ _ _,h⟩
theorem Took.trans {w w1 w2:World} {R:Nat} {ts:List S47} {n1 n2 en:Nat} (h:Took w R ts n1 en w1) (k:Took w1 R ts n2 en w2):Took w R ts n2 en w2:=⟨kA9 h.grown k.grown,k.rdr⟩
theorem Took.below {w w1 w2:World} {R:Nat} {ts:List S47} {n1 en:Nat} (h:Took w R ts n1 en w1) (hb:Below w1.heap.size w1 w2):Took w R ts n1 en w2:=⟨kAi h.grown hb,h.rdr.keep hb⟩
theorem Took.next {w w1:World} {R:Nat} {ts:List S47} {now en:Nat} (h:Rdr w R ts now en) (hb:Below w.heap.size w w1):Took w R ts (now+1) en (w1.setCell ⟨R,1,none⟩ (.int .i64 ((now:Int)+1))):=by
 have:=(h.keep hb).set (now+1);rw[show (((now+1:Nat)):Int)=(now:Int)+1 by omega] at this;exact⟨kA9 (kAi (kAJ _ _) hb) (kAh _ _ _ _),this⟩
theorem Rdr.cells {w:World} {R:Nat} {ts:List S47} {now en:Nat} (h:Rdr w R ts now en) :
  w.cell? ⟨R,1,none⟩=some (.int .i64 now)∧w.frozen? ⟨R,1,none⟩=false∧w.cell? ⟨R,3,none⟩=some (.func (.func 134) #[] #[])∧w.cell? ⟨R,4,none⟩=some (.func (.func 135) #[.pointer (some ⟨R,0,none⟩)] #[])∧R<w.heap.size:=by
 obtain⟨v,base,h1,h2⟩:=h.out;exact⟨zA1 h1 1,zA2 h1 1,zA1 h1 3,zA1 h1 4,zA5 h1⟩
theorem is_val (R:Nat) (ts:List S47) (now en:Nat) (x:ByteArray) (r:Bool) (w:World) (h:Rdr w R ts now en) (hn:now≤ts.length) (hr:zD7 (tokP ts en now) x=r) :
  Calls Tryz.prog 178 #[.pointer (some ⟨R,0,none⟩),.string x] w fun e w'=>e=.returned (.bool r)∧Below w.heap.size w w':=by
 rw[← hr];exact is_any R ts now en x w h hn
theorem zBR (R:Nat) (ts:List S47) (now en:Nat) (x:ByteArray) (w:World) (h:Rdr w R ts now en) (hl:ts.length≤100000) (hr:zD7 (tokP ts en now) x=true) :
  Calls Tryz.prog 158 #[.pointer (some ⟨R,0,none⟩),.string x] w fun e w'=>e=.returned (.tuple #[])∧Took w R ts (now+1) en w':=by
 have hlt:=zAw hr;have hp:=is_val R ts now en x true w h kCW hr;have Hr:=kA1 hr;have H:=kA1 h;clear hr h;go_enter Tryz.func158,Tryz.ntmps158;go_wp2_with (first
  | (go_at_call 178;refine hp.mono ?_;rintro e w1 ⟨rfl,hb1⟩)
  | (go_at_call 93;refine (zDk R _).mono ?_;rintro e w2 ⟨rfl,rfl⟩;obtain⟨c1,f1,c3,c4,lt⟩:=(H.out.keep hb1).cells))
 exact kBc (kAX rfl _ _ _) rfl ⟨rfl,Took.next H.out hb1⟩
theorem zCx (R:Nat) (ts:List S47) (now en:Nat) (x:ByteArray) (w:World) (h:Rdr w R ts now en) (hn:now≤ts.length) (hr:zD7 (tokP ts en now) x=false) :
  Calls Tryz.prog 158 #[.pointer (some ⟨R,0,none⟩),.string x] w fun e w'=>e=zAk (tokP ts en now).f2∧Below w.heap.size w w':=by
 have hp:=is_val R ts now en x false w h hn hr;have H:=kA1 h;clear hr h;generalize hat:(tokP ts en now).f2=at_;have Hat:=kA1 hat;clear hat;go_enter Tryz.func158,Tryz.ntmps158;go_wp2_with (first
  | (go_at_call 178;refine hp.mono ?_;rintro e w1 ⟨rfl,hb1⟩)
  | (go_at_call 93;refine (zBJ R ts now en _ (H.out.keep hb1) hn).mono ?_;rintro e w2 ⟨rfl,hb2⟩;rw[Hat.out];unfold zAk))
 exact⟨rfl,rfl,hb1.trans (hb2.mono hb1.size)⟩
theorem zAF (R:Nat) (ts:List S47) (now en:Nat) (x:ByteArray) (w:World) (h:Rdr w R ts now en) (hl:ts.length≤100000) (hr:zD7 (tokP ts en now) x=true) :
  Calls Tryz.prog 156 #[.pointer (some ⟨R,0,none⟩),.string x] w fun e w'=>e=.returned (.bool true)∧Took w R ts (now+1) en w':=by
 have hlt:=zAw hr;have hp:=is_val R ts now en x true w h kCW hr;have H:=kA1 h;clear hr h;go_enter Tryz.func156,Tryz.ntmps156;go_wp2_with (go_at_call 178;refine hp.mono ?_;rintro e w1 ⟨rfl,hb1⟩;obtain⟨c1,f1,c3,c4,lt⟩:=(H.out.keep hb1).cells);go_ret;exact⟨rfl,Took.next H.out hb1⟩
theorem zB1 (R:Nat) (ts:List S47) (now en:Nat) (x:ByteArray) (w:World) (h:Rdr w R ts now en) (hn:now≤ts.length) (hr:zD7 (tokP ts en now) x=false) :
  Calls Tryz.prog 156 #[.pointer (some ⟨R,0,none⟩),.string x] w fun e w'=>e=.returned (.bool false)∧Took w R ts now en w':=by
 have hp:=is_val R ts now en x false w h hn hr;have H:=kA1 h;clear hr h;go_enter Tryz.func156,Tryz.ntmps156;go_wp2_with (go_at_call 178;refine hp.mono ?_;rintro e w1 ⟨rfl,hb1⟩);go_ret;exact⟨rfl,(Took.refl H.out).below hb1⟩
theorem zCH (R:Nat) (ts:List S47) (now en:Nat) (k:Int) (w:World) (h:Rdr w R ts now en) (hlt:now<ts.length) (hl:ts.length≤100000) (hr:((tokP ts en now).f0==k)=true) :
  Calls Tryz.prog 157 #[.pointer (some ⟨R,0,none⟩),.int .i64 k] w fun e w'=>e=.returned (.string (tokP ts en now).f1)∧Took w R ts (now+1) en w':=by
 have hp:=zBc R ts now en w h kCW;unfold tokV at hp;generalize tokP ts en now=t at *;have H:=kA1 h;clear h;go_enter Tryz.func157,Tryz.ntmps157;go_wp2_with (first
  | (go_at_call 136;refine hp.mono ?_;rintro e w1 ⟨rfl,hb1⟩;have hn1:=zA4 w1 (tokO t);have hb2:=hb1.alloc hb1.size (tokO t))
  | (go_at_call 93;refine (zDk R _).mono ?_;rintro e w2 ⟨rfl,rfl⟩;obtain⟨c1,f1,c3,c4,lt⟩:=(H.out.keep hb1).cells))
 go_ret;exact⟨rfl,(Took.next H.out hb1).below ((kA3 _ _).alloc (kA2 _) _)⟩
theorem kind_no (R:Nat) (ts:List S47) (now en:Nat) (k:Int) (w:World) (h:Rdr w R ts now en) (hn:now≤ts.length) (hr:((tokP ts en now).f0==k)=false) :
  Calls Tryz.prog 157 #[.pointer (some ⟨R,0,none⟩),.int .i64 k] w fun e w'=>e=zAk (tokP ts en now).f2∧Below w.heap.size w w':=by
 have hp:=zBc R ts now en w h hn;have hm:=fun w' (hb:Below w.heap.size w w')=>zBJ R ts now en w' (h.keep hb) hn
 unfold tokV at hp;unfold zAk at hm;generalize tokP ts en now=t at *;have Hm:=kA1 hm;clear h hm;unfold zAk;go_enter Tryz.func157,Tryz.ntmps157;go_wp2_with (first
  | (go_at_call 136;refine hp.mono ?_;rintro e w1 ⟨rfl,hb1⟩;have hb2:=hb1.alloc hb1.size (tokO t))
  | (go_at_call 93;refine (Hm.out _ hb2).mono ?_;rintro e w2 ⟨rfl,hb3⟩))
 exact⟨rfl,rfl,hb2.trans (hb3.mono hb2.size)⟩
def exV (x:S31) (v5:Value):Value:=.agg #[.int .i64 x.f0,.string x.f1.f0,.string x.f1.f1,.string x.f2,.int .i64 x.f3,v5]
structure Ex (w:World) (S:Nat→Prop) (x:S31) (v:Value):Prop where
 out:∃v5,v=exV x v5∧k31.R 31 w 0 S v5 x.f4
theorem Ex.mono {w:World} {S S':Nat→Prop} {x:S31} {v:Value} (h:Ex w S x v) (hS:∀k,S k→S' k):Ex w S' x v:=by
 obtain⟨v5,h1,h2⟩:=h.out;exact⟨v5,h1,Kd.R_mono h2 hS⟩
theorem Ex.old {w:World} {S S':Nat→Prop} {x:S31} {v:Value} (h:Ex w S x v) (hS:∀k,S k→k<w.heap.size→S' k):Ex w S' x v:=by
 obtain⟨v5,h1,h2⟩:=h.out;exact⟨v5,h1,Kd.R_mono (Kd.R_bound h2) (fun k hk=>hS k hk.1 hk.2.2.1)⟩
theorem Ex.step {w w1:World} {S:Nat→Prop} {x:S31} {v:Value} (h:Ex w S x v) (hs:∀k,S k→k<w.heap.size→w1.heap[k]?=w.heap[k]?):Ex w1 S x v:=by
 obtain⟨v5,h1,h2⟩:=h.out;exact⟨v5,h1,Kd.R_step h2 hs⟩
theorem Ex.grown {w w1:World} {S:Nat→Prop} {x:S31} {v:Value} {R:Nat} (h:Ex w S x v) (hg:w.grownBy w1 (some R)) (hS:∀k,S k→k≠R):Ex w1 S x v :=
 h.step (fun k hk hlt=>hg.block k hlt (fun e=>by injection e with e;exact hS k hk e))
theorem Ex.below {w w1:World} {S:Nat→Prop} {x:S31} {v:Value} (h:Ex w S x v) (hb:Below w.heap.size w w1):Ex w1 S x v:=h.step (fun k _ hlt=>hb.block k hlt)
theorem Ex.leaf {w:World} {S:Nat→Prop} (x:S31) (hx:x.f4=[]):Ex w S x (exV x (.slice none 0 0)):=⟨_,rfl,by rw[hx];exact Kd.R_nil _ _ _ _ _⟩
theorem lit_row {W:World} {S:Nat→Prop} {xs:List S31} {inner:List Value} (hr:Reps (k31.M W 0 S) 6 xs inner) (hS:S W.heap.size) (hm:xs.length≤9223372036854775807) :
  k31.R 31 (W.alloc (.cells inner.toArray 31)) 0 S (.slice (some ⟨W.heap.size,0,none⟩) xs.length xs.length) xs:=by
 refine⟨fun k hk=>by simp[Value.ownBlock] at hk;rw[← hk];exact hS,zC1.lit W 0 (R:=k31.M (W.alloc (.cells inner.toArray 31)) 0 (fun k=>S k∧some k≠(Value.slice (some ⟨W.heap.size,0,none⟩) xs.length xs.length).ownBlock)) (size:=6) (e:=31) (hr.imp_ fun x c hx=>?_) (kAI _) hm⟩;have h1:=k31.M_bound hx;have h2:=k31.M_move (w1:=W.alloc (.cells inner.toArray 31)) (fun k hk=>kA4 _ _ _ hk.2.2.1) h1;exact k31.M_mono (fun k hk=>⟨hk.1,fun e=>by simp[Value.ownBlock] at e;have:=hk.2.2.1;omega⟩) h2
theorem Ex.cells {w:World} {S:Nat→Prop} {x:S31} {v:Value} (h:Ex w S x v) :
  ∃v5 A n c,v=exV x v5∧v5=.slice A n c∧k31.R 31 w 0 S v5 x.f4∧k31.M w 0 S x [.int .i64 x.f0,.string x.f1.f0,.string x.f1.f1,.string x.f2,.int .i64 x.f3,v5]:=by
 obtain⟨v5,h1,h2⟩:=h.out;obtain⟨A,c,h3⟩:=Kd.R_slice h2;exact⟨v5,A,_,c,h1,h3,h2,k31_mkM w 0 S x h2⟩
def set6 (X:World) (R:Nat) (v0 v1 v2 v3 v4 v5:Value):World:=(((((X.setCell ⟨R,0,none⟩ v0).setCell ⟨R,1,none⟩ v1).setCell ⟨R,2,none⟩ v2).setCell ⟨R,3,none⟩ v3).setCell ⟨R,4,none⟩ v4).setCell ⟨R,5,none⟩ v5
theorem fin6 {X:World} {R:Nat} {x0 x1 x2 x3 x4 x5:Value} {t:TypeId} (v0 v1 v2 v3 v4 v5:Value) (hR:X.heap[R]?=some (.cells #[x0,x1,x2,x3,x4,x5] t (0,0))) :
  (set6 X R v0 v1 v2 v3 v4 v5).heap[R]?=some (.cells #[v0,v1,v2,v3,v4,v5] t (0,0)):=zAa (zAa (zAa (zAa (zAa (zAa hR 0 v0) 1 v1) 2 v2) 3 v3) 4 v4) 5 v5
theorem below6 {B:Nat} {w X:World} {R:Nat} (h:Below B w X) (hB:B≤R) (v0 v1 v2 v3 v4 v5:Value):Below B w (set6 X R v0 v1 v2 v3 v4 v5) :=
 (((((h.setCell (p:=⟨R,0,none⟩) hB _).setCell (p:=⟨R,1,none⟩) hB _).setCell (p:=⟨R,2,none⟩) hB _).setCell (p:=⟨R,3,none⟩) hB _).setCell (p:=⟨R,4,none⟩) hB _).setCell (p:=⟨R,5,none⟩) hB _
theorem zCs {X:World} (R:Nat) (v0 v1 v2 v3 v4 v5:Value):X.grownBy (set6 X R v0 v1 v2 v3 v4 v5) (some R) :=
 kA9 (kA9 (kA9 (kA9 (kA9 (kAh _ _ _ _) (kAh _ _ _ _)) (kAh _ _ _ _)) (kAh _ _ _ _)) (kAh _ _ _ _)) (kAh _ _ _ _)
theorem Ex.set6 {X:World} {R:Nat} {S:Nat→Prop} {x:S31} {v:Value} (h:Ex X S x v) (hS:∀k,S k→k≠R) (v0 v1 v2 v3 v4 v5:Value):Ex (set6 X R v0 v1 v2 v3 v4 v5) S x v:=h.grown (zCs R v0 v1 v2 v3 v4 v5) hS
theorem two_calls (op:Int) (a b:S31) (va vb:Value) (S:Nat→Prop) (w:World) (hS:∀k,w.heap.size≤k→S k) (ha:Ex w S a va) (hb:Ex w S b vb) :
  Calls Tryz.prog 161 #[.int .i64 op,va,vb] w fun e w'=>∃v,e=.returned v∧Ex w' S ⟨op,z28,⟨#[]⟩,0,[a,b]⟩ v∧Below w.heap.size w w':=by
 obtain⟨a5,A1,n1,c1,rfl,rfl,_,ma⟩:=ha.cells;obtain⟨b5,A2,n2,c2,rfl,rfl,_,mb⟩:=hb.cells;unfold exV;have Ma:=kA1 ma;have Mb:=kA1 mb;clear ha hb ma mb;go_enter Tryz.func161,Tryz.ntmps161;go_wp2;obtain⟨W3,hW⟩:∃W3,W3=((w.alloc (Obj.cells #[Value.int IntKind.i64 a.f0,Value.string a.f1.f0,Value.string a.f1.f1,Value.string a.f2,Value.int IntKind.i64 a.f3,Value.slice A1 n1 c1] 31)).alloc (Obj.cells #[Value.int IntKind.i64 b.f0,Value.string b.f1.f0,Value.string b.f1.f1,Value.string b.f2,Value.int IntKind.i64 b.f3,Value.slice A2 n2 c2] 31)).alloc
   (Obj.cells #[Value.int IntKind.i64 op,Value.string ⟨#[]⟩,Value.string ⟨#[]⟩,Value.string ⟨#[]⟩,Value.int IntKind.i64 0,Value.slice (some ⟨w.heap.size+1+1+1,0,none⟩) 2 2] 31):=⟨_,rfl⟩
 have hz:W3.heap.size=w.heap.size+1+1+1:=by rw[hW];simp
 have hb3:Below w.heap.size w W3:=by rw[hW];exact (((kA3 _ w).alloc (kA2 _) _).alloc kCY _).alloc kCZ _
 have hR:W3.heap[w.heap.size+1+1]?=some (Obj.cells #[Value.int IntKind.i64 op,Value.string ⟨#[]⟩,Value.string ⟨#[]⟩,Value.string ⟨#[]⟩,Value.int IntKind.i64 0,Value.slice (some ⟨w.heap.size+1+1+1,0,none⟩) 2 2] 31 (0,0)):=by
  rw[hW];exact zAB _ _ _ kCY
 rw[← hW];have reps:Reps (k31.M W3 0 S) 6 [a,b] [.int .i64 a.f0,.string a.f1.f0,.string a.f1.f1,.string a.f2,.int .i64 a.f3,.slice A1 n1 c1,.int .i64 b.f0,.string b.f1.f0,.string b.f1.f1,.string b.f2,.int .i64 b.f3,.slice A2 n2 c2] :=
  ((Reps.none _ _).snoc (Kd.M_below Ma.out hb3) rfl).snoc (Kd.M_below Mb.out hb3) rfl
 have hrow:=lit_row reps (hS _ kCW) kCY;rw[hz] at hrow;refine kAg (zAe Tryz.results161 _ _ (w.heap.size+1+1) 31 _ (0,0) _ rfl ((kA4 _ _ _ kCW).trans hR) Tryz.underlying31 rfl zB6) rfl ⟨_,rfl,⟨_,rfl,hrow⟩,hb3.alloc kCW _⟩
structure Laid (W:World):Prop where
 syn:∃te pe,W.cell? ⟨5,0,none⟩=some (.iface te pe)
 rng:∃te pe,W.cell? ⟨6,0,none⟩=some (.iface te pe)
theorem Laid.below {W w:World} (h:Laid W) (hb:Below W.heap.size W w):Laid w:=by
 obtain⟨a,b,h1⟩:=h.syn;obtain⟨c,d,h2⟩:=h.rng;exact⟨⟨a,b,zA0 hb h1⟩,⟨c,d,zA0 hb h2⟩⟩
theorem Atoi_fails (s:ByteArray) (hs:s.size≤100000) (h:∀v,Lib.atoiAll s.data.toList≠.ok v) (w:World) (hl:Laid w) :
  Calls Tryz.prog 216 #[.string s] w fun e w'=>∃n N,e=.returned (.tuple #[.int .i64 n,.iface 321 (.pointer (some ⟨N,0,none⟩))])∧Below w.heap.size w w':=by
 obtain⟨te,pe,h1⟩:=hl.syn;obtain⟨te2,pe2,h2⟩:=hl.rng
 cases hc:Lib.atoiAll s.data.toList with
 | ok v=>exact absurd hc (h v)
 | range=>exact (Go.Proofs.Any.strconv_Atoi_range Tryz.laysC172 s kCW hc _ w h2 (.inr ⟨_,_,rfl⟩)).mono fun e w' ⟨N,he,_,_,hb⟩=>⟨_,N,he,hb⟩
 | _=>exact (Go.Proofs.Any.strconv_Atoi_syntax Tryz.laysC172 s kCW hc _ w h1 (.inr ⟨_,_,rfl⟩)).mono fun e w' ⟨N,he,_,_,hb⟩=>⟨_,N,he,hb⟩
theorem zGr (s:ByteArray) (hs:s.size≤100000) (v:Int) (h:Lib.atoiAll s.data.toList=.ok v) (w:World) :
  Calls Tryz.prog 216 #[.string s] w fun e w'=>e=.returned (.tuple #[.int .i64 v,.nilIface])∧Below w.heap.size w w':=by
 refine (Tryz.strconv_Atoi_ok s kCW v h w).mono ?_;rintro e w' ⟨he,rfl | ⟨t,rfl⟩⟩
 ·exact⟨he,kA3 _ _⟩
 ·exact⟨he,bytes_below (kA3 _ _) (kA2 _) _ _⟩
structure St (W0:World) (R B:Nat) (ts:List S47) (en now:Nat) (w:World):Prop where
 rdr:Rdr w R ts now en
 low:Below W0.heap.size W0 w
 base:B≤w.heap.size
 pos:now≤ts.length
structure Env (W0:World) (R B:Nat) (ts:List S47):Prop where
 laid:Laid W0
 own:W0.heap.size≤R
 made:R<B
 few:ts.length≤100000
 small:∀t∈ts,t.f1.size≤2000
theorem St.took {W0:World} {R B:Nat} {ts:List S47} {en now n:Nat} {w w':World} (E:Env W0 R B ts) (h:St W0 R B ts en now w) (k:Took w R ts n en w') (hn:n≤ts.length):St W0 R B ts en n w' :=
 ⟨k.rdr,h.low.grown k.grown h.low.size (fun j e=>by injection e with e;have:=E.own;omega),kAz h.base k.grown.size,hn⟩
theorem St.below {W0:World} {R B:Nat} {ts:List S47} {en now:Nat} {w w':World} (h:St W0 R B ts en now w) (hb:Below w.heap.size w w'):St W0 R B ts en now w' :=
 ⟨h.rdr.keep hb,h.low.trans (hb.mono h.low.size),kAz h.base hb.size,h.pos⟩
theorem St.laid {W0:World} {R B:Nat} {ts:List S47} {en now:Nat} {w:World} (E:Env W0 R B ts) (h:St W0 R B ts en now w):Laid w:=E.laid.below h.low
theorem zBB {ts:List S47} {en now:Nat} (hs:∀t∈ts,t.f1.size≤2000):(tokP ts en now).f1.size≤2000:=by
 unfold tokP;split
 ·exact hs _ (kAR _)
 ·exact kAI _
def numS (ts:List S47) (en:Nat) (lo hi:Int) (now:Nat):Except Int (Int×Nat) :=
 match Lib.atoiAll (tokP ts en now).f1.data.toList with
 | .ok v=>if (tokP ts en now).f0=2∧lo≤v∧v≤hi then .ok (v,now+1) else .error (tokP ts en now).f2
 | _=>.error (tokP ts en now).f2
def zDC (w:World) (R:Nat) (ts:List S47) (en:Nat):Except Int (Int×Nat)→Ending→World→Prop
 | .ok (v,n),e,w'=>e=.returned (.int .i64 v)∧Took w R ts n en w'
 | .error p,e,w'=>e=zAk p∧w.grownBy w' (some R)
theorem number_ok (W0:World) (R B:Nat) (ts:List S47) (en now:Nat) (lo hi v:Int) (w:World) (E:Env W0 R B ts) (h:St W0 R B ts en now w) (hlt:now<ts.length)
  (h2:((tokP ts en now).f0==2)=true) (hv:Lib.atoiAll (tokP ts en now).f1.data.toList=.ok v) (hlo:lo≤v) (hhi:v≤hi) :
  Calls Tryz.prog 179 #[.pointer (some ⟨R,0,none⟩),.int .i64 lo,.int .i64 hi] w fun e w'=>e=.returned (.int .i64 v)∧Took w R ts (now+1) en w':=by
 have hp:=zBc R ts now en w h.rdr h.pos;have hat:=zGr _ (kAz (zBB (en:=en) (now:=now) E.small) kCW) v hv;have hin:∀w,Calls Tryz.prog 104 #[.int .i64 v,.int .i64 lo,.int .i64 hi] w fun e w'=>e=.returned (.bool true)∧∃n,w'=w.drewN n:=fun w =>
  (zD5.calls v lo hi true w (by unfold zD5.f;rw[kAb hlo,kA5 hhi])).mono fun _ _ ⟨a,b⟩=>⟨a,b.out⟩
 unfold tokV at hp;generalize tokP ts en now=t at *;have H:=kA1 h;have Hin:=kA1 hin;have few:=E.few;clear h hv hin hlo hhi E;go_enter Tryz.func179,Tryz.ntmps179;go_wp2_with (first
  | (go_at_call 136;refine hp.mono ?_;rintro e w1 ⟨rfl,hb1⟩;have hn1:=zA4 w1 (tokO t);have hb2:=hb1.alloc hb1.size (tokO t))
  | (go_at_call 216;refine (hat _).mono ?_;rintro e w2 ⟨rfl,hb3⟩;have hT:=zAb hb3 hn1;have t0:=zA1 hT 0;have hb4:=hb2.trans (hb3.mono hb2.size);obtain⟨c1,f1,c3,c4,lt⟩:=(H.out.rdr.keep hb4).cells))
 go_quiet ((first | (go_at_call 104;exact kCI (Hin.out _)) | (go_at_call 93;exact Calls.quiet_of_same (zDk R _))))
 go_wp2;go_ret;exact⟨rfl,Took.next H.out.rdr (zA3 hb4 nq)⟩
theorem zBH (n lo hi:Int) (w:World):Calls Tryz.prog 104 #[.int .i64 n,.int .i64 lo,.int .i64 hi] w fun e w'=>e=.returned (.bool (decide (lo≤n)&&decide (n≤hi)))∧w'=w:=by
 go_enter Tryz.func104,Tryz.ntmps104;go_wp2
 all_goals
  go_ret;refine⟨?_,rfl⟩
  first | (simp_all;done) | (simp_all;omega)
theorem number_no (W0:World) (R B:Nat) (ts:List S47) (en now:Nat) (lo hi:Int) (w:World) (E:Env W0 R B ts) (h:St W0 R B ts en now w)
  (hno:∀v,Lib.atoiAll (tokP ts en now).f1.data.toList=.ok v→¬((tokP ts en now).f0=2∧lo≤v∧v≤hi)) :
  Calls Tryz.prog 179 #[.pointer (some ⟨R,0,none⟩),.int .i64 lo,.int .i64 hi] w fun e w'=>e=zAk (tokP ts en now).f2∧w.grownBy w' (some R):=by
 have hp:=zBc R ts now en w h.rdr h.pos;have hm:=fun w' (hb:Below w.heap.size w w')=>zBJ R ts now en w' (h.rdr.keep hb) h.pos
 have hsz:=kAz (zBB (en:=en) (now:=now) E.small) (show 2000≤100000 by omega);have hat:(∃v,Lib.atoiAll (tokP ts en now).f1.data.toList=.ok v)∨(∀v,Lib.atoiAll (tokP ts en now).f1.data.toList≠.ok v):=by
  cases hc:Lib.atoiAll (tokP ts en now).f1.data.toList with
  | ok v=>exact .inl ⟨v,rfl⟩
  | range=>exact .inr (fun v h=>by cases h)
  | _=>exact .inr (fun v h=>by cases h)
 unfold tokV at hp;unfold zAk at hm⊢;generalize tokP ts en now=t at *;have Hm:=kA1 hm;have Hlaid:=kA1 (fun w' (hb:Below w.heap.size w w')=>(h.laid E).below hb);have H:=kA1 h;have Hat:(∃v,Lib.atoiAll t.f1.data.toList=.ok v∧∀w',Calls Tryz.prog 216 #[.string t.f1] w' fun e w''=>e=.returned (.tuple #[.int .i64 v,.nilIface])∧Below w'.heap.size w' w'') ∨
   (∀w',Laid w'→Calls Tryz.prog 216 #[.string t.f1] w' fun e w''=>∃n N,e=.returned (.tuple #[.int .i64 n,.iface 321 (.pointer (some ⟨N,0,none⟩))])∧Below w'.heap.size w' w''):=by
  rcases hat with⟨v,hv⟩ | hv
  ·exact .inl ⟨v,hv,fun w'=>zGr _ hsz v hv w'⟩
  ·exact .inr fun w' hl=>Atoi_fails _ hsz hv w' hl
 have few:=E.few;clear h hm hat E;rcases Hat with⟨v,hv,hat⟩ | hat
 ·have hno':=hno v hv;clear hno hv
  cases h2:(t.f0==2)
  ·go_enter Tryz.func179,Tryz.ntmps179;go_wp2_with (first
    | (go_at_call 136;refine hp.mono ?_;rintro e w1 ⟨rfl,hb1⟩;have hn1:=zA4 w1 (tokO t);have hb2:=hb1.alloc hb1.size (tokO t))
    | (go_at_call 216;refine (hat _).mono ?_;rintro e w2 ⟨rfl,hb3⟩;have hT:=zAb hb3 hn1;have t0:=zA1 hT 0;have hb4:=hb2.trans (hb3.mono hb2.size)))
   have hb5:=hb4.drew;go_still_tail 16,kCX;change wpList _ _ _ _ _ w2.drew;go_wp2_with (go_at_call 93;refine (Hm.out _ hb5).mono ?_;rintro e w6 ⟨rfl,hb6⟩);exact⟨rfl,rfl,kAi (kAJ _ _) (hb5.trans (hb6.mono hb5.size))⟩
  ·have hin:∀w',Calls Tryz.prog 104 #[.int .i64 v,.int .i64 lo,.int .i64 hi] w' fun e w''=>e=.returned (.bool false)∧w''=w':=fun w'=>by
    have h1:=zBH v lo hi w';rw[kAA] at h2;have e:(decide (lo≤v)&&decide (v≤hi))=false:=by
     rw[kB9,kBw,kBw];by_cases hlo:lo≤v
     ·exact .inr (fun hhi=>hno' ⟨h2,hlo,hhi⟩)
     ·exact .inl hlo
    rwa [e] at h1
   have Hin:=kA1 hin;clear hin hno';go_enter Tryz.func179,Tryz.ntmps179;go_wp2_with (first
    | (go_at_call 136;refine hp.mono ?_;rintro e w1 ⟨rfl,hb1⟩;have hn1:=zA4 w1 (tokO t);have hb2:=hb1.alloc hb1.size (tokO t))
    | (go_at_call 216;refine (hat _).mono ?_;rintro e w2 ⟨rfl,hb3⟩;have hT:=zAb hb3 hn1;have t0:=zA1 hT 0;have hb4:=hb2.trans (hb3.mono hb2.size)))
   have hb5:=hb4.drew;go_still_tail 16,kCX;still_call (Hin.out _)
   repeat still_step
   try refine kCD ?_
   change wpList _ _ _ _ _ w2.drew;go_wp2_with (go_at_call 93;refine (Hm.out _ hb5).mono ?_;rintro e w6 ⟨rfl,hb6⟩);exact⟨rfl,rfl,kAi (kAJ _ _) (hb5.trans (hb6.mono hb5.size))⟩
 ·cases h2:(t.f0==2)
  ·go_enter Tryz.func179,Tryz.ntmps179;go_wp2_with (first
    | (go_at_call 136;refine hp.mono ?_;rintro e w1 ⟨rfl,hb1⟩;have hn1:=zA4 w1 (tokO t);have hb2:=hb1.alloc hb1.size (tokO t);have hl1:=kA1 (Hlaid.out _ hb2))
    | (go_at_call 216;refine (hat _ hl1.out).mono ?_;rintro e w2 ⟨n,N,rfl,hb3⟩;have hT:=zAb hb3 hn1;have t0:=zA1 hT 0;have hb4:=hb2.trans (hb3.mono hb2.size)))
   have hb5:=hb4.drew;go_still_tail 16,kCX;change wpList _ _ _ _ _ w2.drew;go_wp2_with (go_at_call 93;refine (Hm.out _ hb5).mono ?_;rintro e w6 ⟨rfl,hb6⟩);exact⟨rfl,rfl,kAi (kAJ _ _) (hb5.trans (hb6.mono hb5.size))⟩
  ·go_enter Tryz.func179,Tryz.ntmps179;go_wp2_with (first
    | (go_at_call 136;refine hp.mono ?_;rintro e w1 ⟨rfl,hb1⟩;have hn1:=zA4 w1 (tokO t);have hb2:=hb1.alloc hb1.size (tokO t);have hl1:=kA1 (Hlaid.out _ hb2))
    | (go_at_call 216;refine (hat _ hl1.out).mono ?_;rintro e w2 ⟨n,N,rfl,hb3⟩;have hT:=zAb hb3 hn1;have t0:=zA1 hT 0;have hb4:=hb2.trans (hb3.mono hb2.size)))
   have hb5:=hb4.drew;go_still_tail 16,kCX;change wpList _ _ _ _ _ w2.drew;go_wp2_with (go_at_call 93;refine (Hm.out _ hb5).mono ?_;rintro e w6 ⟨rfl,hb6⟩);exact⟨rfl,rfl,kAi (kAJ _ _) (hb5.trans (hb6.mono hb5.size))⟩
section
abbrev PR:=Except Int (S31×Nat)
def bs (l:List UInt8):ByteArray:=⟨l.toArray⟩
section
variable (ts:List S47) (en:Nat) (chk:S28→Int)
def sk (now:Nat) (x:ByteArray):Bool:=zD7 (tokP ts en now) x
def atP (now:Nat):Int:=(tokP ts en now).f2
def zFr (r:S28) (now:Nat):PR:=if (tokP ts en now).f0=3 then .ok (⟨0,r,(tokP ts en now).f1,0,[]⟩,now+1) else .ok (⟨0,r,⟨#[]⟩,0,[]⟩,now)
def litS (now:Nat):PR :=
 if sk ts en (now+1) ⟨#[124]⟩=true then
  if (tokP ts en (now+2)).f0=2∧(tokP ts en (now+2)).f1.toList≠[49]∧chk ⟨(tokP ts en now).f1,(tokP ts en (now+2)).f1⟩=0 then zFr ts en ⟨(tokP ts en now).f1,(tokP ts en (now+2)).f1⟩ (now+3)
  else .error (atP ts en (now+2))
 else zFr ts en ⟨(tokP ts en now).f1,⟨#[49]⟩⟩ (now+1)
def zF7 (ex:Nat→PR) (close:ByteArray):Nat→List S31→Nat→Except Int (List S31×Nat)
 | 0,_,now=>.error (atP ts en now)
 | k+1,acc,now =>
  match ex now with
  | .error p=>.error p
  | .ok (x,n) =>
   if (acc++[x]).length<8∧sk ts en n ⟨#[44]⟩=true then zF7 ex close k (acc++[x]) (n+1)
   else if sk ts en n close=true then .ok (acc++[x],n+1) else .error (atP ts en n)
def atomS (ex:Nat→PR) (now:Nat):PR :=
 if (tokP ts en now).f0=2 then litS ts en chk now
 else if (tokP ts en now).f0=0 then
  if sk ts en (now+1) ⟨#[40]⟩=true then
   if sk ts en (now+2) ⟨#[41]⟩=true then .ok (⟨14,z28,(tokP ts en now).f1,0,[]⟩,now+3)
   else match zF7 ts en ex ⟨#[41]⟩ 8 [] (now+2) with
    | .error p=>.error p
    | .ok (xs,n)=>.ok (⟨14,z28,(tokP ts en now).f1,0,xs⟩,n)
  else .ok (⟨1,z28,(tokP ts en now).f1,0,[]⟩,now+1)
 else if sk ts en now ⟨#[40]⟩=true then
  match ex (now+1) with
  | .error p=>.error p
  | .ok (x,n)=>if sk ts en n ⟨#[41]⟩=true then .ok (x,n+1) else .error (atP ts en n)
 else if sk ts en now ⟨#[91]⟩=true then
  match zF7 ts en ex ⟨#[93]⟩ 8 [] (now+1) with
  | .error p=>.error p
  | .ok (xs,n)=>.ok (⟨8,z28,⟨#[]⟩,0,xs⟩,n)
 else .error (atP ts en now)
def twoX (op:Int) (a b:S31):S31:=⟨op,z28,⟨#[]⟩,0,[a,b]⟩
def zBU (ex:Nat→PR):Nat→S31→Nat→PR
 | 0,x,n=>.ok (x,n)
 | k+1,x,n =>
  if sk ts en n ⟨#[91]⟩=true then
   match ex (n+1) with
   | .error p=>.error p
   | .ok (y,m)=>if sk ts en m ⟨#[93]⟩=true then zBU ex k (twoX 9 x y) (m+1) else .error (atP ts en m)
  else .ok (x,n)
def zCl (ex:Nat→PR) (now:Nat):PR :=
 match atomS ts en chk ex now with
 | .error p=>.error p
 | .ok (x,n)=>zBU ts en ex (ts.length+1) x n
def zCz (ex:Nat→PR) (now:Nat):PR :=
 match zCl ts en chk ex now with
 | .error p=>.error p
 | .ok (x,n) =>
  if sk ts en n ⟨#[94]⟩=true then
   if sk ts en (n+1) ⟨#[45]⟩=true then
    match numS ts en 1 9 (n+2) with
    | .error p=>.error p
    | .ok (v,m)=>.ok (⟨7,z28,⟨#[]⟩,-v,[x]⟩,m)
   else
    match numS ts en 0 9 (n+1) with
    | .error p=>.error p
    | .ok (v,m)=>.ok (⟨7,z28,⟨#[]⟩,v,[x]⟩,m)
  else .ok (x,n)
def zBC (ex:Nat→PR):Nat→S31→Nat→PR
 | 0,x,n=>.ok (x,n)
 | k+1,x,n =>
  if sk ts en n ⟨#[42]⟩=true then
   match zCz ts en chk ex (n+1) with
   | .error p=>.error p
   | .ok (y,m)=>zBC ex k (twoX 5 x y) m
  else if sk ts en n ⟨#[47]⟩=true then
   match zCz ts en chk ex (n+1) with
   | .error p=>.error p
   | .ok (y,m)=>zBC ex k (twoX 6 x y) m
  else .ok (x,n)
def zAZ (ex:Nat→PR) (now:Nat):PR :=
 match zCz ts en chk ex now with
 | .error p=>.error p
 | .ok (x,n)=>zBC ts en chk ex (ts.length+1) x n
def zB9 (ex:Nat→PR):Nat→S31→Nat→PR
 | 0,x,n=>.ok (x,n)
 | k+1,x,n =>
  if sk ts en n ⟨#[43]⟩=true then
   match zAZ ts en chk ex (n+1) with
   | .error p=>.error p
   | .ok (y,m)=>zB9 ex k (twoX 3 x y) m
  else if sk ts en n ⟨#[45]⟩=true then
   match zAZ ts en chk ex (n+1) with
   | .error p=>.error p
   | .ok (y,m)=>zB9 ex k (twoX 4 x y) m
  else .ok (x,n)
def zD1 (ex:Nat→PR) (now:Nat):PR :=
 if sk ts en now ⟨#[45]⟩=true then
  match zAZ ts en chk ex (now+1) with
  | .error p=>.error p
  | .ok (x,n)=>zB9 ts en chk ex (ts.length+1) ⟨2,z28,⟨#[]⟩,0,[x]⟩ n
 else
  match zAZ ts en chk ex now with
  | .error p=>.error p
  | .ok (x,n)=>zB9 ts en chk ex (ts.length+1) x n
def loopS (ex:Nat→PR) (op:Int) (now:Nat):PR :=
 if (tokP ts en now).f0=0 then
  if sk ts en (now+1) ⟨#[60]⟩=true then
   match numS ts en 1 99 (now+2) with
   | .error p=>.error p
   | .ok (v,m) =>
    if sk ts en m ⟨#[46]⟩=true then
     match ex (m+1) with
     | .error p=>.error p
     | .ok (x,n)=>.ok (⟨op,z28,(tokP ts en now).f1,v,[x]⟩,n)
    else .error (atP ts en m)
  else .error (atP ts en (now+1))
 else .error (atP ts en now)
def letS (ex:Nat→PR) (now:Nat):PR :=
 if (tokP ts en now).f0=0 then
  if sk ts en (now+1) ⟨#[61]⟩=true then
   match ex (now+2) with
   | .error p=>.error p
   | .ok (a,n) =>
    if sk ts en n ⟨#[105,110]⟩=true then
     match ex (n+1) with
     | .error p=>.error p
     | .ok (b,m)=>.ok (⟨13,z28,(tokP ts en now).f1,0,[a,b]⟩,m)
    else .error (atP ts en n)
  else .error (atP ts en (now+1))
 else .error (atP ts en now)
def ifS (ex:Nat→PR) (now:Nat):PR :=
 match zD1 ts en chk ex now with
 | .error p=>.error p
 | .ok (a,n1) =>
  if sk ts en n1 ⟨#[60]⟩=true then
   match zD1 ts en chk ex (n1+1) with
   | .error p=>.error p
   | .ok (b,n2) =>
    if sk ts en n2 ⟨#[116,104,101,110]⟩=true then
     match ex (n2+1) with
     | .error p=>.error p
     | .ok (c,n3) =>
      if sk ts en n3 ⟨#[101,108,115,101]⟩=true then
       match ex (n3+1) with
       | .error p=>.error p
       | .ok (d,n4)=>.ok (⟨12,z28,⟨#[]⟩,0,[a,b,c,d]⟩,n4)
      else .error (atP ts en n3)
    else .error (atP ts en n2)
  else .error (atP ts en n1)
def exprB (ex:Nat→PR) (now:Nat):PR :=
 if sk ts en now ⟨#[108,101,116]⟩=true then letS ts en ex (now+1)
 else if sk ts en now ⟨#[105,102]⟩=true then ifS ts en chk ex (now+1)
 else if sk ts en now ⟨#[116,97,98]⟩=true then loopS ts en ex 10 (now+1)
 else if sk ts en now ⟨#[115,117,109]⟩=true then loopS ts en ex 11 (now+1)
 else zD1 ts en chk ex now
def zD8:Nat→Nat→PR
 | 0,now=>.error (atP ts en now)
 | k+1,now=>exprB ts en chk (zD8 k) now
end
end
abbrev From (n:Nat):Nat→Prop:=fun k=>n≤k
def zAi (w:World) (R:Nat) (ts:List S47) (en now:Nat):PR→Ending→World→Prop
 | .ok (x,n),e,w'=>now<n∧n≤ts.length∧∃v,e=.returned v∧Ex w' (From w.heap.size) x v∧Took w R ts n en w'
 | .error p,e,w'=>e=zAk p∧w.grownBy w' (some R)
def Pars (W0:World) (R B:Nat) (ts:List S47) (en:Nat) (f:FuncId) (spec:Nat→PR) (m:Nat):Prop :=
 ∀now w,m≤now→St W0 R B ts en now w→Calls Tryz.prog f #[.pointer (some ⟨R,0,none⟩)] w (zAi w R ts en now (spec now))
theorem zBL {ts:List S47} {en now:Nat} {k:Int} (h:(tokP ts en now).f0=k) (hk:k≠-1):now<ts.length:=by
 unfold tokP at h;by_cases hlt:now<ts.length
 ·exact hlt
 ·rw[dif_neg hlt] at h;exact absurd h.symm hk
theorem Took.blk {w w':World} {R:Nat} {ts:List S47} {n en:Nat} (h:Took w R ts n en w') {k:Nat} {o:Obj} (hk:w.heap[k]?=some o) (hne:k≠R):w'.heap[k]?=some o :=
 (h.grown.block _ (zA5 hk) (fun e=>by injection e with e;exact hne e)).trans hk
theorem zAf {w w':World} {R:Nat} (h:w.grownBy w' (some R)) {k:Nat} {o:Obj} (hk:w.heap[k]?=some o) (hne:k≠R):w'.heap[k]?=some o :=
 (h.block _ (zA5 hk) (fun e=>by injection e with e;exact hne e)).trans hk
theorem zA9 {w:World} {X:Nat} {v0 v1 v2 v3 v4 v5:Value} {t:TypeId} (h:w.heap[X]?=some (.cells #[v0,v1,v2,v3,v4,v5] t (0,0))) :
  (w.cell? ⟨X,0,none⟩=some v0∧w.cell? ⟨X,1,none⟩=some v1∧w.cell? ⟨X,2,none⟩=some v2∧w.cell? ⟨X,3,none⟩=some v3∧w.cell? ⟨X,4,none⟩=some v4∧w.cell? ⟨X,5,none⟩=some v5) ∧
  (w.frozen? ⟨X,0,none⟩=false∧w.frozen? ⟨X,1,none⟩=false∧w.frozen? ⟨X,2,none⟩=false∧w.frozen? ⟨X,3,none⟩=false∧w.frozen? ⟨X,4,none⟩=false∧w.frozen? ⟨X,5,none⟩=false)∧X<w.heap.size :=
 ⟨⟨zA1 h 0,zA1 h 1,zA1 h 2,zA1 h 3,zA1 h 4,zA1 h 5⟩,⟨zA2 h 0,zA2 h 1,zA2 h 2,zA2 h 3,zA2 h 4,zA2 h 5⟩,zA5 h⟩
def zO:Obj:=.cells #[.int .i64 0,.string ⟨#[]⟩,.string ⟨#[]⟩,.string ⟨#[]⟩,.int .i64 0,.slice none 0 0] 31
theorem Rdr.far {w:World} {R:Nat} {ts:List S47} {now en:Nat} (h:Rdr w R ts now en) {X:Nat} {cs:Array Value} (hX:w.heap[X]?=some (.cells cs 31 (0,0))) (hne:X≠R) (i:Nat) (v:Value):Rdr (w.setCell ⟨X,i,none⟩ v) R ts now en:=by
 obtain⟨u,base,h1,h2⟩:=h.out;exact⟨u,base,blk_far h1 kCZ _,zFS h2 (own_ne h2 hX kD0) _⟩
theorem Took.far {w w':World} {R:Nat} {ts:List S47} {n en:Nat} (h:Took w R ts n en w') {X:Nat} {cs:Array Value} (hX:w'.heap[X]?=some (.cells cs 31 (0,0))) (hne:X≠R) (hw:w.heap.size≤X) (i:Nat) (v:Value):Took w R ts n en (w'.setCell ⟨X,i,none⟩ v) :=
 ⟨⟨h.grown.os,h.grown.tape,h.grown.output,by rw[kAM];exact h.grown.size,fun k hk hn=>(kA7 _ _ _ _ kCZ).trans (h.grown.block k hk hn)⟩,h.rdr.far hX hne i v⟩
theorem Took.set6 {w w':World} {R:Nat} {ts:List S47} {n en:Nat} (h:Took w R ts n en w') {X:Nat} {x0 x1 x2 x3 x4 x5:Value} (hX:w'.heap[X]?=some (.cells #[x0,x1,x2,x3,x4,x5] 31 (0,0))) (hne:X≠R) (hw:w.heap.size≤X) (v0 v1 v2 v3 v4 v5:Value):Took w R ts n en (set6 w' X v0 v1 v2 v3 v4 v5) :=
 (((((h.far hX hne hw 0 v0).far (zAa hX 0 v0) hne hw 1 v1).far (zAa (zAa hX 0 v0) 1 v1) hne hw 2 v2).far (zAa (zAa (zAa hX 0 v0) 1 v1) 2 v2) hne hw 3 v3).far (zAa (zAa (zAa (zAa hX 0 v0) 1 v1) 2 v2) 3 v3) hne hw 4 v4).far (zAa (zAa (zAa (zAa (zAa hX 0 v0) 1 v1) 2 v2) 3 v3) 4 v4) hne hw 5 v5
theorem Took.start {w w':World} {R:Nat} {ts:List S47} {n en:Nat} {o:Obj} (h:Took (w.alloc o) R ts n en w'):Took w R ts n en w':=⟨kA9 (kAE w o _) h.grown,h.rdr⟩
theorem Took.alloc {w w':World} {R:Nat} {ts:List S47} {n en:Nat} (h:Took w R ts n en w') (o:Obj):Took w R ts n en (w'.alloc o):=h.below ((kA3 _ _).alloc (kA2 _) _)
theorem lit_plain (W0:World) (R B:Nat) (ts:List S47) (en now:Nat) (w:World) (E:Env W0 R B ts) (h:St W0 R B ts en now w) (h2:(tokP ts en now).f0=2) (hbar:sk ts en (now+1) ⟨#[124]⟩=false) :
  Calls Tryz.prog 278 #[.pointer (some ⟨R,0,none⟩)] w (zAi w R ts en now (zFr ts en ⟨(tokP ts en now).f1,⟨#[49]⟩⟩ (now+1))):=by
 have hlt:=zBL h2 kD0;have few:=E.few;have hRw:=h.rdr.lt;have hk:=zCH R ts now en 2 (w.alloc zO) (h.rdr.keep ((kA3 _ _).alloc (kA2 _) _)) hlt few kDm;generalize (tokP ts en now).f1=x at *;clear h2;by_cases h3:(tokP ts en (now+1)).f0=3
 ·have hres:zFr ts en ⟨x,⟨#[49]⟩⟩ (now+1)=.ok (⟨0,⟨x,⟨#[49]⟩⟩,(tokP ts en (now+1)).f1,0,[]⟩,now+1+1):=by unfold zFr;rw[kAb h3]
  rw[hres];have hlt1:=zBL h3 kD0;have hpk:=fun w' (hr:Rdr w' R ts (now+1) en)=>zBc R ts (now+1) en w' hr kCW
  have hsk:=fun w' (hr:Rdr w' R ts (now+1) en)=>zB1 R ts (now+1) en ⟨#[124]⟩ w' hr kCW hbar
  have hkd:=fun w' (hr:Rdr w' R ts (now+1) en)=>zCH R ts (now+1) en 3 w' hr hlt1 few (by rw[kAA];exact h3)
  have hne:((tokP ts en (now+1)).f0==3)=true:=by rw[kAA];exact h3
  unfold tokV at hpk;generalize tokP ts en (now+1)=t at *;have H:=kA1 h;have Hsk:=kA1 hsk;have Hpk:=kA1 hpk;have Hkd:=kA1 hkd;have hfd:=zBO t.f0 t.f2 t.f1;clear hsk hpk hkd h hres h3 E;have hne0:=kAq hRw;go_enter Tryz.func278,Tryz.ntmps278;go_wp2_with fail;refine hk.mono ?_;rintro e w1 ⟨rfl,hk1⟩;have r1:=hk1.blk (zA4 w zO) hne0;have hne1:=kAq hk1.rdr.lt;go_wp2_with fail;refine (Hsk.out _ (hk1.rdr.keep ((kA3 _ _).alloc (kA2 _) _))).mono ?_;rintro e w2 ⟨rfl,hk2⟩;have x2:=hk2.blk (zA4 w1 _) hne1;have r2:=hk2.blk ((kA4 _ _ _ (zA5 r1)).trans r1) hne0;go_wp2_with fail;refine (Hpk.out _ hk2.rdr).mono ?_;rintro e w3 ⟨rfl,hb3⟩;go_wp2_with fail;refine (Hkd.out _ (hk2.rdr.keep hb3)).mono ?_;rintro e w4 ⟨rfl,hk4⟩;have x4:=hk4.blk (zAb hb3 x2) hne1;have r4:=hk4.blk (zAb hb3 r2) hne0;have hlt4:w.heap.size<w1.heap.size:=zA5 r1;have hd1:=kAq hlt4;have hd2:=kB1 hlt4;obtain⟨⟨c0,c1,c2,c3,c4,c5⟩,⟨y0,y1,y2,y3,y4,y5⟩,xl⟩:=zA9 x4;obtain⟨⟨b0,b1,b2,b3,b4,b5⟩,⟨f0,f1,f2,f3,f4,f5⟩,rl⟩:=zA9 r4;go_wp2;have hgr:=(((hk1.start.alloc _).trans hk2).below hb3).trans hk4;have r5:=(kA7 w4 ⟨w1.heap.size,3,none⟩ (.string t.f1) w.heap.size kCZ).trans r4;refine kAg (zAe Tryz.results278 _ _ w.heap.size 31 _ (0,0) _ rfl (fin6 _ _ _ _ _ _ r5) Tryz.underlying31 rfl zB6) rfl ⟨kCW,kCW,_,rfl,?_,?_⟩
  ·exact Ex.leaf ⟨0,⟨x,⟨#[49]⟩⟩,t.f1,0,[]⟩ rfl
  ·exact (hgr.far x4 hne1 (kAN hlt4) 3 _).set6 r5 hne0 (kA2 _) _ _ _ _ _ _
 ·have hres:zFr ts en ⟨x,⟨#[49]⟩⟩ (now+1)=.ok (⟨0,⟨x,⟨#[49]⟩⟩,⟨#[]⟩,0,[]⟩,now+1):=by unfold zFr;rw[kAa h3]
  rw[hres];have hpk:=fun w' (hr:Rdr w' R ts (now+1) en)=>zBc R ts (now+1) en w' hr kCW
  have hsk:=fun w' (hr:Rdr w' R ts (now+1) en)=>zB1 R ts (now+1) en ⟨#[124]⟩ w' hr kCW hbar
  have hne:((tokP ts en (now+1)).f0==3)=false:=by rw[kAj];exact h3
  unfold tokV at hpk;generalize tokP ts en (now+1)=t at *;have H:=kA1 h;have Hsk:=kA1 hsk;have Hpk:=kA1 hpk;have hfd:=zBO t.f0 t.f2 t.f1;clear hsk hpk h hres h3 E;have hne0:=kAq hRw;go_enter Tryz.func278,Tryz.ntmps278;go_wp2_with fail;refine hk.mono ?_;rintro e w1 ⟨rfl,hk1⟩;have r1:=hk1.blk (zA4 w zO) hne0;have hne1:=kAq hk1.rdr.lt;go_wp2_with fail;refine (Hsk.out _ (hk1.rdr.keep ((kA3 _ _).alloc (kA2 _) _))).mono ?_;rintro e w2 ⟨rfl,hk2⟩;have x2:=hk2.blk (zA4 w1 _) hne1;have r2:=hk2.blk ((kA4 _ _ _ (zA5 r1)).trans r1) hne0;go_wp2_with fail;refine (Hpk.out _ hk2.rdr).mono ?_;rintro e w3 ⟨rfl,hb3⟩;have x3:=zAb hb3 x2;have r3:=zAb hb3 r2;obtain⟨⟨x0,x1,x2',x3',x4,x5⟩,⟨y0,y1,y2,y3,y4,y5⟩,xl⟩:=zA9 x3;obtain⟨⟨r0,r1',r2',r3',r4,r5⟩,⟨f0,f1,f2,f3,f4,f5⟩,rl⟩:=zA9 r3;go_wp2;have hgr:=((hk1.start.alloc _).trans hk2).below hb3;refine kAg (zAe Tryz.results278 _ _ w.heap.size 31 _ (0,0) _ rfl (fin6 _ _ _ _ _ _ r3) Tryz.underlying31 rfl zB6) rfl ⟨kCW,kCW,_,rfl,?_,?_⟩
  ·exact Ex.leaf ⟨0,⟨x,⟨#[49]⟩⟩,⟨#[]⟩,0,[]⟩ rfl
  ·exact hgr.set6 r3 hne0 (kA2 _) _ _ _ _ _ _
structure Vw (w:World) (x:S31) (v:Value):Prop where
 out:∃A c,v=exV x (.slice A x.f4.length c)∧x.f4.length≤c∧k31.C w A x.f4.length x.f4
theorem Vw.below {w w1:World} {x:S31} {v:Value} (h:Vw w x v) (hb:Below w.heap.size w w1):Vw w1 x v:=by
 obtain⟨A,c,h1,h2,h3⟩:=h.out;exact⟨A,c,h1,h2,Kd.C_below h3 hb⟩
theorem Ex.vw {w:World} {S:Nat→Prop} {x:S31} {v:Value} (h:Ex w S x v):Vw w x v:=by
 obtain⟨v5,h1,h2⟩:=h.out;obtain⟨A,c,rfl,h3,h4⟩:=Kd.R_reads h2;exact⟨A,c,h1,h3,h4⟩
mutual
def zAm:S31→Nat
 | ⟨_,_,_,_,l⟩=>zAK l+1
def zAK:List S31→Nat
 | []=>0
 | x :: l=>zAm x+zAK l
end
mutual
def zAI:S31→Nat
 | ⟨_,_,_,_,l⟩=>zBl l+1
def zBl:List S31→Nat
 | []=>0
 | x :: l=>max (zAI x) (zBl l)
end
theorem zBv (x:S31):zAm x=zAK x.f4+1:=by cases x;rfl
theorem zB3 (x:S31):zAI x=zBl x.f4+1:=by cases x;rfl
theorem zDu (l m:List S31):zAK (l++m)=zAK l+zAK m:=by
 induction l with
 | nil=>simp[zAK]
 | cons x l ih=>simp only[List.cons_append,zAK,ih];omega
theorem zEN (l m:List S31):zBl (l++m)=max (zBl l) (zBl m):=by
 induction l with
 | nil=>simp[zBl]
 | cons x l ih=>simp only[List.cons_append,zBl,ih];omega
theorem zCK {α:Type} (l:List α) (j:Nat) (h:j<l.length):l.take (j+1)=l.take j++[l[j]]:=by rw[kBs h]
theorem zFU (l:List S31) (j:Nat) (h:j<l.length):zAK (l.take (j+1))=zAK (l.take j)+zAm l[j]:=by
 rw[zCK l j h,zDu];simp[zAK]
theorem depthL_take (l:List S31) (j:Nat) (h:j<l.length):zBl (l.take (j+1))=max (zBl (l.take j)) (zAI l[j]):=by
 rw[zCK l j h,zEN];simp[zBl]
theorem zCg {x:S31} {l:List S31} (h:x∈l):zAI x≤zBl l:=by
 induction l with
 | nil=>simp at h
 | cons y l ih =>
  simp only[zBl];rcases kAU.1 h with rfl | h
  ·omega
  ·have:=ih h;omega
theorem zDy (l:List S31):l.length≤zAK l:=by
 induction l with
 | nil=>exact kAI _
 | cons y l ih=>simp only[zAK,List.length_cons,zBv];omega
theorem zF3 {x:S31} {l:List S31} (h:x∈l):zAm x≤zAK l:=by
 induction l with
 | nil=>simp at h
 | cons y l ih =>
  simp only[zAK];rcases kAU.1 h with rfl | h
  ·omega
  ·have:=ih h;omega
theorem zEd (l:List S31) (j:Nat):zAK (l.take j)≤zAK l:=by
 have:=zDu (l.take j) (l.drop j);rw[kBa] at this;omega
theorem depthL_take_le (l:List S31) (j:Nat):zBl (l.take j)≤zBl l:=by
 have:=zEN (l.take j) (l.drop j);rw[kBa] at this;omega
theorem depth_nodesL:∀n,(∀x:S31,zAI x≤n→zAI x≤zAm x)∧(∀l:List S31,zBl l≤n→zBl l≤zAK l):=by
 have base:∀n,(∀x:S31,zAI x≤n→zAI x≤zAm x)→(∀l:List S31,zBl l≤n→zBl l≤zAK l):=by
  intro n hx l
  induction l with
  | nil=>intro _;simp[zBl]
  | cons y l ih =>
   simp only[zBl,zAK];intro h;have h1:=hx y kCW;have h2:=ih kCW;omega
 intro n
 induction n with
 | zero =>
  have hx:∀x:S31,zAI x≤0→zAI x≤zAm x:=fun x h=>by rw[zB3] at h;omega
  exact⟨hx,base 0 hx⟩
 | succ n ih =>
  have hx:∀x:S31,zAI x≤n+1→zAI x≤zAm x:=fun x h=>by
   rw[zB3] at h⊢;rw[zBv];have:=ih.2 x.f4 kCW;omega
  exact⟨hx,base (n+1) hx⟩
theorem zAs {w:World} {A:Option Addr} {xs:List S31} (h:k31.C w A xs.length xs) (j:Nat) (hj:j<xs.length) :
  ∃ad A5 c5,A=some ad∧w.cell? (ad.add (j*6))=some (.int .i64 (xs[j]).f0)∧w.cell? ⟨(ad.add (j*6)).block,(ad.add (j*6)).off+1,none⟩=some (.string (xs[j]).f1.f0) ∧
   w.cell? ⟨(ad.add (j*6)).block,(ad.add (j*6)).off+2,none⟩=some (.string (xs[j]).f1.f1)∧w.cell? ⟨(ad.add (j*6)).block,(ad.add (j*6)).off+3,none⟩=some (.string (xs[j]).f2) ∧
   w.cell? ⟨(ad.add (j*6)).block,(ad.add (j*6)).off+4,none⟩=some (.int .i64 (xs[j]).f3)∧w.cell? ⟨(ad.add (j*6)).block,(ad.add (j*6)).off+5,none⟩=some (.slice A5 (xs[j]).f4.length c5) ∧
   Vw w xs[j] (exV xs[j] (.slice A5 (xs[j]).f4.length c5)):=by
 have h1:=at_T31 h (j:Int) kCW kCW;have e:zDN xs (j:Int)=xs[j]:=by unfold zDN;simp[List.getD,hj]
 rw[e] at h1;obtain⟨ad,A5,c5,h2,h3,h4,h5,h6,h7,h8,h9,h10⟩:=h1;exact⟨ad,A5,c5,h2,h3,h4,h5,h6,h7,h8,⟨A5,c5,rfl,h9,h10⟩⟩
theorem most_add (g:Nat) (a b:Int) (w:World) (hg:w.heap[g]?=some (.cells #[.int .i64 a] 144 (0,0))) :
  Calls Tryz.prog 95 #[.pointer (some ⟨g,0,none⟩),.int .i64 b] w fun e w'=>e=.returned (.tuple #[])∧w'.heap[g]?=some (.cells #[.int .i64 (max a b)] 144 (0,0))∧w.grownBy w' (some g):=by
 have c0:=zA1 hg 0;have f0:=zA2 hg 0;have HG:=kA1 hg;clear hg;go_enter Tryz.func95,Tryz.ntmps95;go_wp2;refine kBc (kAX rfl _ _ _) rfl ⟨rfl,?_,?_⟩
 ·exact zAa HG.out 0 _
 ·exact kAh _ _ _ _
structure DeepAt (w:World) (xs:List S31) (j:Nat) (wr:World):Prop where
 res:wr.heap[w.heap.size+1]?=some (.cells #[.int .i64 0,.int .i64 0] 100 (0,0))
 out:wr.heap[w.heap.size+1+1]?=some (.cells #[.int .i64 (1+zAK (xs.take j):Nat),.int .i64 0] 100 (0,0))
 most:wr.heap[w.heap.size+1+1+1]?=some (.cells #[.int .i64 (zBl (xs.take j))] 144 (0,0))
 below:Below w.heap.size w wr
theorem DeepAt.go {w:World} {xs:List S31} {j:Nat} {wr w1:World} (h:DeepAt w xs j wr) (hb:Below wr.heap.size wr w1):DeepAt w xs j w1 :=
 ⟨zAb hb h.res,zAb hb h.out,zAb hb h.most,h.below.trans (hb.mono h.below.size)⟩
theorem zCN {j g n:Nat} (h:j+g=n) (hl:j<n):j+1+(g-1)=n:=kCW
theorem size100:(Tryz.prog.info? 100).map (·.size)=some 2:=kCX
theorem zFb:∀(n:Nat) (x:S31),zAI x≤n→zAm x≤4611686018427387904→∀(v:Value) (w:World),Vw w x v →
  Calls Tryz.prog 57 #[v] w fun e w'=>e=.returned (.agg #[.int .i64 (zAm x),.int .i64 (zAI x)])∧Below w.heap.size w w':=by
 intro n
 induction n with
 | zero=>intro x h;rw[zB3] at h;omega
 | succ n ih =>
  intro x hd hn v w hv;obtain⟨A,c,rfl,hc1,hc2⟩:=hv.out;rw[zB3] at hd;rw[zBv] at hn;have hrec:∀(j:Nat) (hj:j<x.f4.length) v w,Vw w x.f4[j] v→Calls Tryz.prog 57 #[v] w fun e w'=>e=.returned (.agg #[.int .i64 (zAm x.f4[j]),.int .i64 (zAI x.f4[j])])∧Below w.heap.size w w':=by
   intro j hj;have h1:=zCg (kAR hj);have h2:=zF3 (kAR hj);exact ih _ kCW kCW
  rw[zBv,zB3];have hnt:=zFU x.f4;have hdt:=depthL_take x.f4;have hnl:=zEd x.f4;have hdl:=depthL_take_le x.f4;have hdn:zBl x.f4≤zAK x.f4:=(depth_nodesL (zBl x.f4)).2 _ (kA2 _);have hlen:=zDy x.f4;have htk:x.f4.take x.f4.length=x.f4:=kB5;obtain⟨f0,f1,f2,f3,xs⟩:=x;simp only at *;clear ih hv;unfold exV;simp only;have HR:=kA1 hrec;have HN:=kA1 hnt;have HD:=kA1 hdt;have HNL:=kA1 hnl;have HDL:=kA1 hdl;have HT:=kA1 htk;have HC:=kA1 hc2;clear hrec hnt hdt hnl hdl htk hc2;go_enter Tryz.func57,Tryz.ntmps57;go_wp2;have hat:DeepAt w xs 0 ((((w.alloc (.cells #[.int .i64 f0,.string f1.f0,.string f1.f1,.string f2,.int .i64 f3,.slice A xs.length c] 31)).alloc (.cells #[.int .i64 0,.int .i64 0] 100)).alloc (.cells #[.int .i64 1,.int .i64 0] 100)).alloc (.cells #[.int .i64 0] 144)):=by
   refine⟨?_,?_,zAB _ _ _ kCY,(((((kA3 _ w).alloc (kA2 _) _).alloc kCY _).alloc kCZ _).alloc kCZ _)⟩
   ·exact (kA4 _ _ _ kDb).trans ((kA4 _ _ _ kCY).trans (zAB _ _ _ kCY))
   ·exact (kA4 _ _ _ kDb).trans (zAB _ _ _ kCY)
  generalize (((w.alloc (.cells #[.int .i64 f0,.string f1.f0,.string f1.f1,.string f2,.int .i64 f3,.slice A xs.length c] 31)).alloc (.cells #[.int .i64 0,.int .i64 0] 100)).alloc (.cells #[.int .i64 1,.int .i64 0] 100)).alloc (.cells #[.int .i64 0] 144)=W0 at *;go_loopg [12] xs.length (fun k i wr=>∃j:Nat,j+k=xs.length∧i=.int .i64 j∧DeepAt w xs j wr)
  case atStart=>exact⟨0,kCW,rfl,hat⟩
  case round =>
   clear hat;obtain⟨j,hj,rfl,hat⟩:=hrel;by_cases hjl:j<xs.length
   ·obtain⟨ad,A5,c5,rfl,q0,q1,q2,q3,q4,q5,hvw⟩:=zAs (Kd.C_below HC.out hat.below) j hjl;have hr:=HR.out j hjl;have hn1:=HN.out j hjl;have hd1:=HD.out j hjl;have hn2:=HNL.out (j+1);generalize xs[j]=y at *;have Hvw:=kA1 hvw;clear hvw;go_wp2_with fail;refine (hr _ _ (Hvw.out.below ((kA3 _ _).alloc (kA2 _) _))).mono ?_;rintro e w1 ⟨rfl,hb1⟩;have hat1:=hat.go (((kA3 _ _).alloc (kA2 _) _).trans (hb1.mono kCY));have o0:=zA1 hat1.out 0;have o1:=zA2 hat1.out 0;have ol:=zA5 hat1.out;have ml:=zA5 hat1.most;have hsum:((1+zAK (xs.take j):Nat):Int)+(zAm y:Int)≤4611686018427387904:=kCW
    have Hat:=kA1 hat1;clear hat hat1 hr;go_wp2_with fail;have hmost:((w1.setCell ⟨w.heap.size+1+1,0,none⟩ (.int .i64 (1+↑(zAK (List.take j xs))+↑(zAm y)))).alloc (.cells #[.int .i64 (zAm y),.int .i64 (zAI y)] 100)).heap[w.heap.size+1+1+1]?=some (.cells #[.int .i64 (zBl (xs.take j))] 144 (0,0)) :=
     (kA4 _ _ _ kCZ).trans ((kA7 _ _ _ _ kCY).trans Hat.out.most)
    refine (most_add _ _ _ _ hmost).mono ?_;rintro e w2 ⟨rfl,hm2,hg2⟩;have out2:=(hg2.block (w.heap.size+1+1) kCZ kD2).trans ((kA4 _ _ _ kCZ).trans (zAa Hat.out.out 0 (.int .i64 (1+↑(zAK (List.take j xs))+↑(zAm y)))));have res2:=(hg2.block (w.heap.size+1) kCZ kD2).trans ((kA4 _ _ _ kCZ).trans ((kA7 _ _ _ _ kCY).trans Hat.out.res));have bel2:=((Hat.out.below.setCell (p:=⟨w.heap.size+1+1,0,none⟩) kCZ (.int .i64 (1+↑(zAK (List.take j xs))+↑(zAm y)))).alloc kCZ (.cells #[.int .i64 (zAm y),.int .i64 (zAI y)] 100)).grown hg2 kCZ (fun k e=>by injection e with e;omega);have hat2:DeepAt w xs (j+1) w2:=by
     refine⟨res2,?_,?_,bel2⟩
     ·rw[hn1,out2];congr 3;simp;omega
     ·rw[hd1,hm2];congr 3;simp;omega
    clear hmost hm2 hg2 out2 res2 bel2;go_wp2;go_roundg (gk-1)
    case measure=>omega
    case rel=>exact⟨j+1,zCN hj hjl,by go_num,hat2⟩
   ·obtain rfl:j=xs.length:=kCW
    have m0:=zA1 hat.most 0;have o0:=zA1 hat.out 0;have o1:=zA1 hat.out 1;have e1:=zA2 hat.out 1;have s0:=zA1 hat.res 0;have s1:=zA1 hat.res 1;have r0:=zA2 hat.res 0;have r1:=zA2 hat.res 1;have Hat:=kA1 hat;clear hat;go_wp2;have fin:(((wr.setCell ⟨w.heap.size+1+1,1,none⟩ (.int .i64 (↑(zBl xs)+1))).setCell ⟨w.heap.size+1,0,none⟩ (.int .i64 (1+↑(zAK xs)))).setCell ⟨w.heap.size+1,1,none⟩ (.int .i64 (↑(zBl xs)+1))).heap[w.heap.size+1]?=some (.cells #[.int .i64 (1+↑(zAK xs)),.int .i64 (↑(zBl xs)+1)] 100 (0,0)) :=
     zAa (zAa ((kA7 _ _ _ _ kCY).trans Hat.out.res) 0 _) 1 _
    refine kAg (zAe Tryz.results57 _ _ (w.heap.size+1) 100 _ (0,0) _ rfl fin Tryz.underlying100 rfl size100) rfl ⟨?_,((Hat.out.below.setCell (p:=⟨w.heap.size+1+1,1,none⟩) kCZ _).setCell (p:=⟨w.heap.size+1,0,none⟩) kCY _).setCell (p:=⟨w.heap.size+1,1,none⟩) kCY _⟩;congr 4
    ·congr 1;simp;omega
abbrev Sx (w:World) (X:Nat):Nat→Prop:=fun k=>w.heap.size<k∧k≠X
structure Gath (W0:World) (R B:Nat) (ts:List S47) (en:Nat) (w:World) (X:Nat) (wr:World) (x:S31) (n:Nat) (v:Value):Prop where
 st:St W0 R B ts en n wr
 took:Took w R ts n en wr
 blk:wr.heap[X]?=some (.cells #[.int .i64 x.f0,.string x.f1.f0,.string x.f1.f1,.string x.f2,.int .i64 x.f3,v] 31 (0,0))
 val:Ex wr (Sx w X) x (exV x v)
 res:wr.heap[w.heap.size]?=some zO
theorem zCf {x:S31} {u v:Value} (h:exV x u=exV x v):u=v:=by unfold exV at h;simpa using h
theorem Gath.go {W0:World} {R B:Nat} {ts:List S47} {en:Nat} {w:World} {X:Nat} {wr w1:World} {x:S31} {n n1:Nat} {v:Value} (E:Env W0 R B ts) (hR:R<w.heap.size) (hX:w.heap.size<X)
  (G:Gath W0 R B ts en w X wr x n v) (k:Took wr R ts n1 en w1) (hn:n1≤ts.length):Gath W0 R B ts en w X w1 x n1 v :=
 ⟨G.st.took E k hn,G.took.trans k,k.blk G.blk kCW,G.val.grown k.grown (fun k hk=>by have:=hk.1;omega),k.blk G.res kCW⟩
theorem Gath.below {W0:World} {R B:Nat} {ts:List S47} {en:Nat} {w:World} {X:Nat} {wr w1:World} {x:S31} {n:Nat} {v:Value}
  (G:Gath W0 R B ts en w X wr x n v) (hb:Below wr.heap.size wr w1):Gath W0 R B ts en w X w1 x n v :=
 ⟨G.st.below hb,G.took.below hb,zAb hb G.blk,G.val.below hb,zAb hb G.res⟩
theorem Gath.store {W0:World} {R B:Nat} {ts:List S47} {en:Nat} {w:World} {X:Nat} {wr:World} {x y:S31} {n:Nat} {v u:Value} (E:Env W0 R B ts) (hR:R<w.heap.size) (hX:w.heap.size<X)
  (G:Gath W0 R B ts en w X wr x n v) (h:Ex wr (Sx w X) y (exV y u)):Gath W0 R B ts en w X (set6 wr X (.int .i64 y.f0) (.string y.f1.f0) (.string y.f1.f1) (.string y.f2) (.int .i64 y.f3) u) y n u:=by
 have hXR:X≠R:=kCW
 have hlow:=G.st.low.size;have hg:=zCs (X:=wr) X (.int .i64 y.f0) (.string y.f1.f0) (.string y.f1.f1) (.string y.f2) (.int .i64 y.f3) u;have own:=E.own;refine⟨⟨?_,?_,kAz G.st.base hg.size,G.st.pos⟩,G.took.set6 G.blk hXR (kAN hX) _ _ _ _ _ _,fin6 _ _ _ _ _ _ G.blk,h.set6 (fun k hk=>hk.2) _ _ _ _ _ _,zAf hg G.res kCW⟩
 ·exact (G.took.set6 G.blk hXR (kAN hX) (.int .i64 y.f0) (.string y.f1.f0) (.string y.f1.f1) (.string y.f2) (.int .i64 y.f3) u).rdr
 ·exact G.st.low.grown hg hlow (fun j e=>by injection e with e;omega)
theorem Gath.two {W0:World} {R B:Nat} {ts:List S47} {en:Nat} {w:World} {X:Nat} {wr w2:World} {x y:S31} {n n2:Nat} {v vy:Value} (op:Int) (E:Env W0 R B ts) (hR:R<w.heap.size) (hX:w.heap.size<X)
  (G:Gath W0 R B ts en w X wr x n v) (hy:Ex w2 (From wr.heap.size) y vy) (k:Took wr R ts n2 en w2) (hn:n2≤ts.length) :
  Calls Tryz.prog 161 #[.int .i64 op,exV x v,vy] w2 fun e w3=>∃u A N C,e=.returned (exV (twoX op x y) u)∧u=.slice A N C∧Gath W0 R B ts en w X w3 x n2 v∧Ex w3 (Sx w X) (twoX op x y) (exV (twoX op x y) u):=by
 have G2:=G.go E hR hX k hn;have hlt:=zA5 G.blk;have hsz:=k.grown.size;refine (two_calls op x y (exV x v) vy (Sx w X) w2 (fun j hj=>⟨kCW,kCW⟩) G2.val (hy.mono (fun j hj=>by simp only[From] at hj;exact⟨kCW,kCW⟩))).mono ?_;rintro e w3 ⟨u,rfl,hu,hb⟩;obtain⟨u5,A,N,C,rfl,rfl,_,_⟩:=hu.cells;exact⟨_,A,N,C,rfl,rfl,G2.below hb,hu⟩
theorem zFm (W0:World) (R B:Nat) (ts:List S47) (en:Nat) (chk:S28→Int) (ex:Nat→PR) (m now:Nat) (w:World) (E:Env W0 R B ts) (h:St W0 R B ts en now w) (hm:m≤now)
  (hp:Pars W0 R B ts en 180 (zCz ts en chk ex) m) :
  Calls Tryz.prog 160 #[.pointer (some ⟨R,0,none⟩)] w (zAi w R ts en now (zAZ ts en chk ex now)):=by
 have hp0:=hp now (w.alloc zO) hm (h.below ((kA3 _ _).alloc (kA2 _) _));unfold zAZ;have few:=E.few;have hRw:=h.rdr.lt;have hne0:=kAq hRw
 cases hc:zCz ts en chk ex now with
 | error p =>
  rw[hc] at hp0;unfold zAi zAk at hp0;clear hc hp h;go_enter Tryz.func160,Tryz.ntmps160;go_wp2_with fail;refine hp0.mono ?_;rintro e w1 ⟨rfl,hg⟩;go_wp2;exact⟨rfl,rfl,kA9 (kAE w zO _) hg⟩
 | ok r =>
  obtain⟨x,n⟩:=r;rw[hc] at hp0;unfold zAi at hp0;have HP:=kA1 hp;have H:=kA1 h;have h0:St W0 R B ts en now (w.alloc zO):=h.below ((kA3 _ _).alloc (kA2 _) _);clear hp h hc;go_enter Tryz.func160,Tryz.ntmps160;go_wp2_with fail;refine hp0.mono ?_;rintro e w1 ⟨hn1,hn2,v,rfl,hx,hk⟩;obtain⟨v5,A5,n5,c5,rfl,rfl,_,_⟩:=hx.cells;unfold exV;go_wp2;have g1:Gath W0 R B ts en w w1.heap.size (w1.alloc (.cells #[.int .i64 x.f0,.string x.f1.f0,.string x.f1.f1,.string x.f2,.int .i64 x.f3,.slice A5 n5 c5] 31)) x n (.slice A5 n5 c5) :=
   ⟨((h0.took E hk hn2).below ((kA3 _ _).alloc (kA2 _) _)),hk.start.alloc _,zA4 _ _,(hx.old (fun k h1 h2=>⟨by simp[From] at h1;omega,kB1 h2⟩)).below ((kA3 _ _).alloc (kA2 _) _),
    (kA4 _ _ _ (zA5 (hk.blk (zA4 w zO) hne0))).trans (hk.blk (zA4 w zO) hne0)⟩
  have hXR:w1.heap.size≠R:=kAq hk.rdr.lt;have hXw:w.heap.size<w1.heap.size:=zA5 (hk.blk (zA4 w zO) hne0);generalize w1.heap.size=X at *;generalize hW:w1.alloc _=W at *;clear hW hk hx hp0 h0;generalize hres:zBC ts en chk ex (ts.length+1) x n=res;go_loopg [] (ts.length+1) (fun k wr=>∃x n v5,m<n∧now<n∧n≤ts.length∧ts.length<n+k∧Gath W0 R B ts en w X wr x n v5∧Hid (zBC ts en chk ex k x n=res))
  case atStart=>exact⟨x,n,_,kCW,hn1,hn2,kCW,g1,hres⟩
  case round =>
   clear g1 hres hn1 hn2;obtain⟨x,n,v5,hmn,hnn,hnl,hfuel,G,Hres⟩:=hrel;obtain⟨_,A5,n5,c5,h5,rfl,_,_⟩:=G.val.cells;obtain rfl:=zCf h5
   cases gk with
   | zero=>omega
   | succ gk =>
   cases h1:sk ts en n ⟨#[42]⟩ with
   | true =>
    have hs:=zAF R ts n en ⟨#[42]⟩ wr G.st.rdr few h1;have hlt:=zAw h1
    cases hc:zCz ts en chk ex (n+1) with
    | error p =>
     have Hres':Hid (res=.error p):=by
      have:=Hres.out;unfold zBC at this;rw[kAb h1,hc] at this;exact kA1 this.symm
     go_wp2_with fail;refine hs.mono ?_;rintro e w1 ⟨rfl,hk1⟩;have G1:=G.go E hRw hXw hk1 hlt;obtain⟨⟨p0,p1,p2,p3,p4,p5⟩,-,xl⟩:=zA9 G1.blk;have G1d:=G1.below ((kA3 _ w1).drew);have hp1:=HP.out (n+1) _ kCW G1d.st;rw[hc] at hp1;unfold zAi at hp1;unfold zAk at hp1;clear hc;go_wp2_with fail;refine kAY (S:=(fun w'=>w'.cell? ⟨X,0,none⟩=some (Value.int IntKind.i64 x.f0)∧w'.cell? ⟨X,1,none⟩=some (Value.string x.f1.f0)∧w'.cell? ⟨X,2,none⟩=some (Value.string x.f1.f1)∧w'.cell? ⟨X,3,none⟩=some (Value.string x.f2)∧w'.cell? ⟨X,4,none⟩=some (Value.int IntKind.i64 x.f3)∧w'.cell? ⟨X,5,none⟩=some (.slice A5 n5 c5))) kCX (zA9 G1d.blk).1 (fun hHeld=>?_);refine kAu (i:=0) (v:=?v0c1) rfl kCX kCX kCX (fun _ _ _ h=>h) (Or.inl ⟨kD9,?hy0c1⟩) kD3 ?rest0c1
     case hy0c1=>(intro w hSw;(try dsimp only at hSw);go_simp;try (with_reducible rfl))
     try simp only[Act.put,kA0,List.set_cons_zero,List.set_cons_succ]
     refine kAu (i:=1) (v:=?v1c2) rfl kCX kCX kCX (fun _ _ _ h=>h) (Or.inl ⟨kD9,?hy1c2⟩) kD3 ?rest1c2
     case hy1c2=>(intro w hSw;(try dsimp only at hSw);go_simp;try (with_reducible rfl))
     try simp only[Act.put,kA0,List.set_cons_zero,List.set_cons_succ]
     refine kBM (rs:=[2]) kCX kCY ?_;refine kBC rfl (fun K hK=>?_) kBG;go_simp;go_wp2_with (go_at_call 180;refine hp1.mono ?_;rintro e w2 ⟨rfl,hg2⟩);rw[Hres'.out];exact⟨rfl,rfl,kA9 G1d.took.grown hg2⟩
    | ok r =>
     obtain⟨y,n2⟩:=r;have Hres':Hid (zBC ts en chk ex gk (twoX 5 x y) n2=res):=by
      have:=Hres.out;unfold zBC at this;rw[kAb h1,hc] at this;exact kA1 this
     go_wp2_with fail;refine hs.mono ?_;rintro e w1 ⟨rfl,hk1⟩;have G1:=G.go E hRw hXw hk1 hlt;obtain⟨⟨p0,p1,p2,p3,p4,p5⟩,-,xl⟩:=zA9 G1.blk;have G1d:=G1.below ((kA3 _ w1).drew);have hp1:=HP.out (n+1) _ kCW G1d.st;rw[hc] at hp1;unfold zAi at hp1;clear hc;go_wp2_with fail
     go_region_with ((first
      | (go_at_call 180;refine hp1.mono ?_;rintro e w2 ⟨hn1,hn2,vy,rfl,hy,hk2⟩;have G2:=G1d.go E hRw hXw hk2 hn2;have hw:=G1d.two 5 E hRw hXw hy hk2 hn2;obtain⟨⟨q0,q1,q2,q3,q4,q5⟩,-,lt2⟩:=zA9 G2.blk)
      | (go_at_call 161;refine hw.mono ?_;rintro e w3 ⟨u,A,N,C,rfl,rfl,G3,hu⟩;obtain⟨⟨r0,r1,r2,r3,r4,r5⟩,⟨f0,f1,f2,f3,f4,f5⟩,lt3⟩:=zA9 G3.blk;simp only[exV,twoX])))
     all_goals
      have G4:=G3.store E hRw hXw hu;go_wp2;go_roundg gk
      case measure=>omega
      case rel=>exact⟨_,n2,_,kCW,kCW,hn2,kCW,G4,Hres'⟩
   | false =>
    have hs:=zB1 R ts n en ⟨#[42]⟩ wr G.st.rdr hnl h1
    cases h2:sk ts en n ⟨#[47]⟩ with
    | true =>
     have hlt:=zAw h2
     cases hc:zCz ts en chk ex (n+1) with
     | error p =>
      have Hres':Hid (res=.error p):=by
       have:=Hres.out;unfold zBC at this;rw[kAa kDd,kAb h2,hc] at this;exact kA1 this.symm
      go_wp2_with fail;refine hs.mono ?_;rintro e w0 ⟨rfl,hk0⟩;have G0:=G.go E hRw hXw hk0 hnl;have hs2:=zAF R ts n en ⟨#[47]⟩ w0 G0.st.rdr few h2;go_wp2_with fail;refine hs2.mono ?_;rintro e w1 ⟨rfl,hk1⟩;have G1:=G0.go E hRw hXw hk1 hlt;obtain⟨⟨p0,p1,p2,p3,p4,p5⟩,-,xl⟩:=zA9 G1.blk;have G1d:=G1.below ((kA3 _ w1).drew);have hp1:=HP.out (n+1) _ kCW G1d.st;rw[hc] at hp1;unfold zAi at hp1;unfold zAk at hp1;clear hc;go_wp2_with fail;refine kAY (S:=(fun w'=>w'.cell? ⟨X,0,none⟩=some (Value.int IntKind.i64 x.f0)∧w'.cell? ⟨X,1,none⟩=some (Value.string x.f1.f0)∧w'.cell? ⟨X,2,none⟩=some (Value.string x.f1.f1)∧w'.cell? ⟨X,3,none⟩=some (Value.string x.f2)∧w'.cell? ⟨X,4,none⟩=some (Value.int IntKind.i64 x.f3)∧w'.cell? ⟨X,5,none⟩=some (.slice A5 n5 c5))) kCX (zA9 G1d.blk).1 (fun hHeld=>?_);refine kAu (i:=0) (v:=?v0c3) rfl kCX kCX kCX (fun _ _ _ h=>h) (Or.inl ⟨kD9,?hy0c3⟩) kD3 ?rest0c3
      case hy0c3=>(intro w hSw;(try dsimp only at hSw);go_simp;try (with_reducible rfl))
      try simp only[Act.put,kA0,List.set_cons_zero,List.set_cons_succ]
      refine kAu (i:=1) (v:=?v1c4) rfl kCX kCX kCX (fun _ _ _ h=>h) (Or.inl ⟨kD9,?hy1c4⟩) kD3 ?rest1c4
      case hy1c4=>(intro w hSw;(try dsimp only at hSw);go_simp;try (with_reducible rfl))
      try simp only[Act.put,kA0,List.set_cons_zero,List.set_cons_succ]
      refine kBM (rs:=[2]) kCX kCY ?_;refine kBC rfl (fun K hK=>?_) kBG;go_simp;go_wp2_with (go_at_call 180;refine hp1.mono ?_;rintro e w2 ⟨rfl,hg2⟩);rw[Hres'.out];exact⟨rfl,rfl,kA9 G1d.took.grown hg2⟩
     | ok r =>
      obtain⟨y,n2⟩:=r;have Hres':Hid (zBC ts en chk ex gk (twoX 6 x y) n2=res):=by
       have:=Hres.out;unfold zBC at this;rw[kAa kDd,kAb h2,hc] at this;exact kA1 this
      go_wp2_with fail;refine hs.mono ?_;rintro e w0 ⟨rfl,hk0⟩;have G0:=G.go E hRw hXw hk0 hnl;have hs2:=zAF R ts n en ⟨#[47]⟩ w0 G0.st.rdr few h2;go_wp2_with fail;refine hs2.mono ?_;rintro e w1 ⟨rfl,hk1⟩;have G1:=G0.go E hRw hXw hk1 hlt;obtain⟨⟨p0,p1,p2,p3,p4,p5⟩,-,xl⟩:=zA9 G1.blk;have G1d:=G1.below ((kA3 _ w1).drew);have hp1:=HP.out (n+1) _ kCW G1d.st;rw[hc] at hp1;unfold zAi at hp1;clear hc;go_wp2_with fail
      go_region_with ((first
       | (go_at_call 180;refine hp1.mono ?_;rintro e w2 ⟨hn1,hn2,vy,rfl,hy,hk2⟩;have G2:=G1d.go E hRw hXw hk2 hn2;have hw:=G1d.two 6 E hRw hXw hy hk2 hn2;obtain⟨⟨q0,q1,q2,q3,q4,q5⟩,-,lt2⟩:=zA9 G2.blk)
       | (go_at_call 161;refine hw.mono ?_;rintro e w3 ⟨u,A,N,C,rfl,rfl,G3,hu⟩;obtain⟨⟨r0,r1,r2,r3,r4,r5⟩,⟨f0,f1,f2,f3,f4,f5⟩,lt3⟩:=zA9 G3.blk;simp only[exV,twoX])))
      all_goals
       have G4:=G3.store E hRw hXw hu;go_wp2;go_roundg gk
       case measure=>omega
       case rel=>exact⟨_,n2,_,kCW,kCW,hn2,kCW,G4,Hres'⟩
    | false =>
     have Hres':Hid (res=.ok (x,n)):=by
      have:=Hres.out;unfold zBC at this;rw[kAa kDd,kAa kDG] at this;exact kA1 this.symm
     go_wp2_with fail;refine hs.mono ?_;rintro e w0 ⟨rfl,hk0⟩;have G0:=G.go E hRw hXw hk0 hnl;have hs2:=zB1 R ts n en ⟨#[47]⟩ w0 G0.st.rdr hnl h2;go_wp2_with fail;refine hs2.mono ?_;rintro e w1 ⟨rfl,hk1⟩;have G1:=G0.go E hRw hXw hk1 hnl;obtain⟨⟨p0,p1,p2,p3,p4,p5⟩,-,xl⟩:=zA9 G1.blk;obtain⟨⟨q0,q1,q2,q3,q4,q5⟩,⟨f0,f1,f2,f3,f4,f5⟩,xl2⟩:=zA9 G1.res;go_wp2;rw[Hres'.out];refine kAg (zAe Tryz.results160 _ _ w.heap.size 31 _ (0,0) _ rfl (fin6 _ _ _ _ _ _ G1.res) Tryz.underlying31 rfl zB6) rfl ⟨hnn,hnl,_,rfl,?_,?_⟩
     ·exact (G1.val.set6 (fun k hk=>kAq hk.1) _ _ _ _ _ _).mono (fun k hk=>kAN hk.1)
     ·exact G1.took.set6 G1.res hne0 (kA2 _) _ _ _ _ _ _
def wrongOf (e:Int):Ending:=.panicked [{ v:=.iface 159 (.agg #[.int .i64 e]),recovered:=false }]
theorem zAt (e:Int) (w:World):Calls Tryz.prog 67 #[.bool false,.int .i64 e] w fun en w'=>en=.returned (.tuple #[])∧w'=w:=by
 go_enter Tryz.func67,Tryz.ntmps67;go_wp2;exact kBc (kAX rfl _ _ _) rfl ⟨rfl,rfl⟩
theorem fail_yes (e:Int) (w:World):Calls Tryz.prog 67 #[.bool true,.int .i64 e] w fun en w'=>en=wrongOf e∧w'=w:=by
 unfold wrongOf;go_enter Tryz.func67,Tryz.ntmps67;go_wp2;exact⟨rfl,rfl,rfl⟩
def zBh (op:Int):Int:=if op=0∨op=1 then 0 else if op=2∨op=7∨op=10∨op=11 then 1 else if op=12 then 4 else if op=8 then 1 else if op=14 then 0 else 2
def zBj (op:Int):Int:=if op=0∨op=1 then 0 else if op=2∨op=7∨op=10∨op=11 then 1 else if op=12 then 4 else if op=8∨op=14 then 8 else 2
def zAL (op:Int):Int:=if op=7 then -9 else if op=10∨op=11 then 1 else 0
def zAM (op:Int):Int:=if op=7 then 9 else if op=10∨op=11 then 99 else 0
theorem zEY:(Tryz.prog.info? 198).map (·.size)=some 2:=kCX
theorem zAA {a b:Int} (h:a≠b):(a==b)=false:=kAj.2 h
theorem zBr (op:Int) (w:World):Calls Tryz.prog 142 #[.int .i64 op] w fun e w'=>e=.returned (.agg #[.int .i64 (zAL op),.int .i64 (zAM op)])∧Below w.heap.size w w':=by
 by_cases h7:op=7
 ·subst h7;go_enter Tryz.func142,Tryz.ntmps142;go_wp2;exact kAg (zAe Tryz.results142 _ _ w.heap.size 198 _ (0,0) _ rfl (zA4 w _) Tryz.underlying198 rfl zEY) rfl ⟨rfl,(kA3 _ w).alloc (kA2 _) _⟩
 by_cases h10:op=10
 ·subst h10;go_enter Tryz.func142,Tryz.ntmps142;go_wp2;exact kAg (zAe Tryz.results142 _ _ w.heap.size 198 _ (0,0) _ rfl (zA4 w _) Tryz.underlying198 rfl zEY) rfl ⟨rfl,(kA3 _ w).alloc (kA2 _) _⟩
 by_cases h11:op=11
 ·subst h11;go_enter Tryz.func142,Tryz.ntmps142;go_wp2;exact kAg (zAe Tryz.results142 _ _ w.heap.size 198 _ (0,0) _ rfl (zA4 w _) Tryz.underlying198 rfl zEY) rfl ⟨rfl,(kA3 _ w).alloc (kA2 _) _⟩
 have e:zAL op=0∧zAM op=0:=by unfold zAL zAM;simp[h7,h10,h11]
 rw[e.1,e.2];have h7':=zAA h7;have h10':=zAA h10;have h11':=zAA h11;clear e h7 h10 h11;go_enter Tryz.func142,Tryz.ntmps142;go_wp2;exact kAg (zAe Tryz.results142 _ _ w.heap.size 198 _ (0,0) _ rfl (zA4 w _) Tryz.underlying198 rfl zEY) rfl ⟨rfl,(kA3 _ w).alloc (kA2 _) _⟩
theorem zAJ (op:Int) (w:World):Calls Tryz.prog 140 #[.int .i64 op] w fun e w'=>e=.returned (.agg #[.int .i64 (zBh op),.int .i64 (zBj op)])∧Below w.heap.size w w':=by
 by_cases h:op=0∨op=1∨op=2∨op=7∨op=8∨op=10∨op=11∨op=12∨op=14
 ·rcases h with rfl | rfl | rfl | rfl | rfl | rfl | rfl | rfl | rfl
  all_goals
   go_enter Tryz.func140,Tryz.ntmps140;go_wp2;exact kAg (zAe Tryz.results140 _ _ w.heap.size 198 _ (0,0) _ rfl ((kA4 _ _ _ kCY).trans (zA4 w _)) Tryz.underlying198 rfl zEY) rfl ⟨rfl,((kA3 _ w).alloc (kA2 _) _).alloc kCY _⟩
 ·have e:zBh op=2∧zBj op=2:=by unfold zBh zBj;constructor<;>(repeat' split)<;>omega
  rw[e.1,e.2];have h0:=zAA (a:=op) (b:=0) kCW;have h1:=zAA (a:=op) (b:=1) kCW;have h2:=zAA (a:=op) (b:=2) kCW;have h7:=zAA (a:=op) (b:=7) kCW;have h8:=zAA (a:=op) (b:=8) kCW;have h10:=zAA (a:=op) (b:=10) kCW;have h11:=zAA (a:=op) (b:=11) kCW;have h12:=zAA (a:=op) (b:=12) kCW;have h14:=zAA (a:=op) (b:=14) kCW;clear e h;go_enter Tryz.func140,Tryz.ntmps140;go_wp2;exact kAg (zAe Tryz.results140 _ _ w.heap.size 198 _ (0,0) _ rfl ((kA4 _ _ _ kCY).trans (zA4 w _)) Tryz.underlying198 rfl zEY) rfl ⟨rfl,((kA3 _ w).alloc (kA2 _) _).alloc kCY _⟩
end Go.Proofs.YtjaobihcdkjmbaaGreatDoor
end
