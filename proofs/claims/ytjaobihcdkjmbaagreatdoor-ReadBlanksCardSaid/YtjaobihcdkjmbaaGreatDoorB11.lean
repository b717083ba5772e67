/- The law ReadBlanks answers true for every argument; a part of its proof. -/
import Derived.Test.YtjaobihcdkjmbaaGreatDoorBa
import Derived.Test.YtjaobihcdkjmbaaGreatDoorBb
import Derived.Test.YtjaobihcdkjmbaaGreatDoorB0
import Derived.Test.YtjaobihcdkjmbaaGreatDoorB7
import Derived.Test.YtjaobihcdkjmbaaGreatDoorB9
set_option linter.unusedVariables false
set_option linter.unusedSimpArgs false
namespace Go.Proofs.YtjaobihcdkjmbaaGreatDoor.PReadTokens
end Go.Proofs.YtjaobihcdkjmbaaGreatDoor.PReadTokens
namespace Go.Proofs.YtjaobihcdkjmbaaGreatDoorW.PrintWords
end Go.Proofs.YtjaobihcdkjmbaaGreatDoorW.PrintWords
set_option maxRecDepth 100000
set_option maxHeartbeats 4000000
section
namespace Go.Proofs.YtjaobihcdkjmbaaGreatDoor
open Go.RowKit Go.Proofs.YtjaobihcdkjmbaaGreatDoorW.PrintWords Go.Proofs.YtjaobihcdkjmbaaGreatDoor.PReadTokens
def rdCells (v:Value) (now en R:Nat):Array Value:=#[v,.int .i64 now,.int .i64 en,.func (.func 134) #[] #[],.func (.func 135) #[.pointer (some ⟨R,0,none⟩)] #[]]
structure Rdr (w:World) (R:Nat) (ts:List S47) (now en:Nat):Prop where
 out:∃v base,w.heap[R]?=some (.cells (rdCells v now en R) 97 (0,0))∧zAJ w base v ts
def tokP (ts:List S47) (en now:Nat):S47:=if h:now<ts.length then ts[now] else ⟨-1,⟨#[]⟩,en⟩
theorem Rdr.keep {w w':World} {R:Nat} {ts:List S47} {now en:Nat} (h:Rdr w R ts now en) (hb:Below w.heap.size w w'):Rdr w' R ts now en:=by
 obtain⟨v,base,h1,h2⟩:=h.out;exact⟨v,base,zA9 hb h1,zBU h2 hb⟩
theorem Rdr.lt {w:World} {R:Nat} {ts:List S47} {now en:Nat} (h:Rdr w R ts now en):R<w.heap.size:=by
 obtain⟨v,base,h1,h2⟩:=h.out;exact zA5 h1
theorem Rdr.set {w:World} {R:Nat} {ts:List S47} {now en:Nat} (h:Rdr w R ts now en) (now':Nat):Rdr (w.setCell ⟨R,1,none⟩ (.int .i64 now')) R ts now' en:=by
 obtain⟨v,base,h1,h2⟩:=h.out;exact⟨v,base,zA7 h1 1 _,zFK h2 (own_ne h2 h1 kCW) _⟩
theorem zAJ.cells {w:World} {base:Nat} {v:Value} {ts:List S47} (h:zAJ w base v ts) {i:Nat} (hi:i<ts.length) :
  ∃g c,v=.slice (some ⟨g,0,none⟩) ts.length c∧w.cell? ⟨g,i*3,none⟩=some (.int .i64 ts[i].f0)∧w.cell? ⟨g,i*3+1,none⟩=some (.string ts[i].f1)∧w.cell? ⟨g,i*3+2,none⟩=some (.int .i64 ts[i].f2):=by
 have hfl:∀(l:List S47) (i:Nat) (hi:i<l.length),(flat l)[i*3]?=some (.int .i64 l[i].f0)∧(flat l)[i*3+1]?=some (.string l[i].f1)∧(flat l)[i*3+2]?=some (.int .i64 l[i].f2):=by
  intro l
  induction l with
  | nil=>intro i hi;simp at hi
  | cons t l ih =>
   intro i hi
   cases i with
   | zero=>exact⟨rfl,rfl,rfl⟩
   | succ i =>
    have:=ih i (by simpa using hi);have e:flat (t :: l)=tokC t++flat l:=by simp[flat]
    have hl:(tokC t).length=3:=rfl;rw[e];refine⟨?_,?_,?_⟩
    ·rw[kCj kCT,hl,show (i+1)*3-3=i*3 by omega];exact this.1
    ·rw[kCj kCT,hl,show (i+1)*3+1-3=i*3+1 by omega];exact this.2.1
    ·rw[kCj kCT,hl,show (i+1)*3+2-3=i*3+2 by omega];exact this.2.2
 rcases h.2 with⟨_,h0⟩ | ⟨g,cap,cur,rfl,hb,hg,_,_,_,ht⟩
 ·omega
 ·obtain⟨f0,f1,f2⟩:=hfl ts i hi;have hc:=World.ownsRow.cells h (g:=g) rfl;have c0:=hc _ _ f0;have c1:=hc _ _ f1;have c2:=hc _ _ f2;rw[zC7] at c0 c1 c2;exact⟨g,cap,rfl,c0,c1,c2⟩
theorem zAg {P:Program} {fn:Func} {p:Tmp} {ty:TypeId} (h:fn.results=#[.cell p ty]) (tmps:Array Value) (w:World) (g:Nat) (t:TypeId) (cs:Array Value) (fr:Nat×Nat) (d:TypeDesc)
  (hp:tmps.getD p undef=.pointer (some ⟨g,0,none⟩)) (hg:w.heap[g]?=some (.cells cs t fr))
  (hu:P.underlying ty=some d) (hd:(match d with | .struct _ | .array _ _=>true | _=>false)=true) (hi:(P.info? ty).map (·.size)=some cs.size) :
  (results fn tmps).run P w=.ok (.agg cs) w:=by
 have hp':tmps[p]?.getD undef=.pointer (some ⟨g,0,none⟩):=by simpa using hp
 simp[results,h,hp',asAddr,kC1 w g t ty cs fr d hg hu hd hi]
theorem size47:(Tryz.prog.info? 47).map (·.size)=some 3:=kCU
theorem zAV:(Tryz.prog.info? 31).map (·.size)=some 6:=kCU
theorem fin3 {X:World} {R:Nat} {x0 x1 x2:Value} {t:TypeId} (v0 v1 v2:Value) (hR:X.heap[R]?=some (.cells #[x0,x1,x2] t (0,0))) :
  (((X.setCell ⟨R,0,none⟩ v0).setCell ⟨R,1,none⟩ v1).setCell ⟨R,2,none⟩ v2).heap[R]?=some (.cells #[v0,v1,v2] t (0,0)):=zA7 (zA7 (zA7 hR 0 v0) 1 v1) 2 v2
theorem below3 {B:Nat} {w X:World} {R:Nat} (h:Below B w X) (hB:B≤R) (v0 v1 v2:Value):Below B w (((X.setCell ⟨R,0,none⟩ v0).setCell ⟨R,1,none⟩ v1).setCell ⟨R,2,none⟩ v2) :=
 ((h.setCell (p:=⟨R,0,none⟩) hB _).setCell (p:=⟨R,1,none⟩) hB _).setCell (p:=⟨R,2,none⟩) hB _
theorem peek_some (R:Nat) (ts:List S47) (now en:Nat) (w:World) (h:Rdr w R ts now en) (hn:now<ts.length) :
  Calls Tryz.prog 136 #[.pointer (some ⟨R,0,none⟩)] w fun e w'=>e=.returned (tokV ts[now])∧Below w.heap.size w w':=by
 obtain⟨v,base,h1,h2⟩:=h.out;obtain⟨g,c,rfl,c0,c1,c2⟩:=h2.cells hn;have d0:w.cell? ⟨R,0,none⟩=some (.slice (some ⟨g,0,none⟩) ts.length c):=zA1 h1 0;have d1:w.cell? ⟨R,1,none⟩=some (.int .i64 now):=zA1 h1 1;have hRl:=zA5 h1;have hgl:=kAE w _ c0;simp only at hgl;clear h h1 h2;have hne:((now:Int)==(ts.length:Int))=false:=by rw[kAd];omega
 have hlt:(now:Int)<(ts.length:Int):=kCT
 unfold tokV;generalize ts[now]=t at *;go_enter Tryz.func136,Tryz.ntmps136;go_wp2
 go_quiet (fail)
 generalize nq=n0 at *;go_wp2
 go_region
 all_goals
  go_wp2;refine kAi (zAg Tryz.results136 _ _ w.heap.size 47 #[.int .i64 t.f0,.string t.f1,.int .i64 t.f2] (0,0) _ rfl (fin3 (.int .i64 t.f0) (.string t.f1) (.int .i64 t.f2) (zAS (zA4 w _) _)) Tryz.underlying47 rfl size47) rfl ⟨rfl,?_⟩;exact below3 (zA3 ((kA3 _ w).alloc (kA2 _) _) _) (kA2 _) _ _ _
theorem peek_none (R:Nat) (ts:List S47) (en:Nat) (w:World) (h:Rdr w R ts ts.length en) :
  Calls Tryz.prog 136 #[.pointer (some ⟨R,0,none⟩)] w fun e w'=>e=.returned (tokV ⟨-1,⟨#[]⟩,en⟩)∧Below w.heap.size w w':=by
 obtain⟨v,base,h1,h2⟩:=h.out;obtain⟨A,c,rfl⟩:=zC3 h2;have d0:w.cell? ⟨R,0,none⟩=some (.slice A ts.length c):=zA1 h1 0;have d1:w.cell? ⟨R,1,none⟩=some (.int .i64 ts.length):=zA1 h1 1;have d2:w.cell? ⟨R,2,none⟩=some (.int .i64 en):=zA1 h1 2;have hRl:=zA5 h1;clear h h1 h2;go_enter Tryz.func136,Tryz.ntmps136;go_wp2
 go_quiet (fail)
 generalize nq=n0 at *;go_wp2;refine kAi (zAg Tryz.results136 _ _ w.heap.size 47 #[.int .i64 (-1),.string ⟨#[]⟩,.int .i64 en] (0,0) _ rfl (fin3 (.int .i64 (-1)) (.string ⟨#[]⟩) (.int .i64 en) (zAS (zA4 w _) _)) Tryz.underlying47 rfl size47) rfl ⟨rfl,?_⟩;exact below3 (zA3 ((kA3 _ w).alloc (kA2 _) _) _) (kA2 _) _ _ _
theorem zAZ (R:Nat) (ts:List S47) (now en:Nat) (w:World) (h:Rdr w R ts now en) (hn:now≤ts.length) :
  Calls Tryz.prog 136 #[.pointer (some ⟨R,0,none⟩)] w fun e w'=>e=.returned (tokV (tokP ts en now))∧Below w.heap.size w w':=by
 unfold tokP;by_cases hlt:now<ts.length
 ·rw[kCI hlt];exact peek_some R ts now en w h hlt
 ·rw[dif_neg hlt];obtain rfl:now=ts.length:=kCT
  exact peek_none R ts en w h
def zCW (t:S47) (x:ByteArray):Bool:=(t.f0==4||t.f0==1)&&t.f1.toList==x.toList
theorem is_any (R:Nat) (ts:List S47) (now en:Nat) (x:ByteArray) (w:World) (h:Rdr w R ts now en) (hn:now≤ts.length) :
  Calls Tryz.prog 178 #[.pointer (some ⟨R,0,none⟩),.string x] w fun e w'=>e=.returned (.bool (zCW (tokP ts en now) x))∧Below w.heap.size w w':=by
 have hp:=zAZ R ts now en w h hn;unfold tokV at hp;generalize tokP ts en now=t at *;obtain⟨r,hr⟩:∃r,r=zCW t x:=⟨_,rfl⟩;rw[← hr];have Hr:=kA1 hr;clear h hr;go_enter Tryz.func178,Tryz.ntmps178;go_wp2_with (go_at_call 136;refine hp.mono ?_;rintro e w1 ⟨rfl,hb1⟩)
 all_goals
  go_ret;refine⟨?_,(hb1.alloc hb1.size _)⟩;rw[Hr.out]
  simp_all [zCW]
theorem field47_2 (a c:Int) (b:ByteArray) (w:World):(Instr.field 47 (.agg #[.int .i64 a,.string b,.int .i64 c]) 2).run Tryz.prog w=.ok (.int .i64 c) w:=kCU
theorem zBI (a c:Int) (b:ByteArray) (w:World):(Instr.field 47 (.agg #[.int .i64 a,.string b,.int .i64 c]) 0).run Tryz.prog w=.ok (.int .i64 a) w:=kCU
def zAk (n:Int):Ending:=.panicked [{ v:=.iface 137 (.agg #[.int .i64 n]),recovered:=false }]
theorem zD9 (R:Nat) (w:World):Calls Tryz.prog 93 #[.pointer (some ⟨R,0,none⟩),.bool true] w fun e w'=>e=.returned (.tuple #[])∧w'=w:=by
 go_enter Tryz.func93,Tryz.ntmps93;go_wp2;exact kBd (kB0 rfl _ _ _) rfl ⟨rfl,rfl⟩
theorem zBD (R:Nat) (ts:List S47) (now en:Nat) (w:World) (h:Rdr w R ts now en) (hn:now≤ts.length) :
  Calls Tryz.prog 93 #[.pointer (some ⟨R,0,none⟩),.bool false] w fun e w'=>e=zAk (tokP ts en now).f2∧Below w.heap.size w w':=by
 have hp:=zAZ R ts now en w h hn;unfold tokV at hp;generalize tokP ts en now=t at *;clear h;have hfd:=field47_2 t.f0 t.f2 t.f1;go_enter Tryz.func93,Tryz.ntmps93;go_wp2_with (go_at_call 136;refine hp.mono ?_;rintro e w1 ⟨rfl,hb1⟩);exact⟨rfl,rfl,hb1⟩
theorem zAs {ts:List S47} {en now:Nat} {x:ByteArray} (h:zCW (tokP ts en now) x=true):now<ts.length:=by
 unfold tokP at h;by_cases hlt:now<ts.length
 ·exact hlt
 ·rw[dif_neg hlt] at h;simp[zCW] at h
structure Took (w:World) (R:Nat) (ts:List S47) (now' en:Nat) (w':World):Prop where
 grown:w.grownBy w' (some R)
 rdr:Rdr w' R ts now' en
theorem Took.refl {w:World} {R:Nat} {ts:List S47} {now en:Nat} (h:Rdr w R ts now en):Took w R ts now en w:=⟨kAF _ _,h⟩
theorem Took.trans {w w1 w2:World} {R:Nat} {ts:List S47} {n1 n2 en:Nat} (h:Took w R ts n1 en w1) (k:Took w1 R ts n2 en w2):Took w R ts n2 en w2:=⟨kA6 h.grown k.grown,k.rdr⟩
theorem Took.below {w w1 w2:World} {R:Nat} {ts:List S47} {n1 en:Nat} (h:Took w R ts n1 en w1) (hb:Below w1.heap.size w1 w2):Took w R ts n1 en w2:=⟨kAe h.grown hb,h.rdr.keep hb⟩
theorem Took.next {w w1:World} {R:Nat} {ts:List S47} {now en:Nat} (h:Rdr w R ts now en) (hb:Below w.heap.size w w1):Took w R ts (now+1) en (w1.setCell ⟨R,1,none⟩ (.int .i64 ((now:Int)+1))):=by
 have:=(h.keep hb).set (now+1);rw[show (((now+1:Nat)):Int)=(now:Int)+1 by omega] at this;exact⟨kA6 (kAe (kAF _ _) hb) (kAf _ _ _ _),this⟩
theorem Rdr.cells {w:World} {R:Nat} {ts:List S47} {now en:Nat} (h:Rdr w R ts now en) :
  w.cell? ⟨R,1,none⟩=some (.int .i64 now)∧w.frozen? ⟨R,1,none⟩=false∧w.cell? ⟨R,3,none⟩=some (.func (.func 134) #[] #[])∧w.cell? ⟨R,4,none⟩=some (.func (.func 135) #[.pointer (some ⟨R,0,none⟩)] #[])∧R<w.heap.size:=by
 obtain⟨v,base,h1,h2⟩:=h.out;exact⟨zA1 h1 1,zA2 h1 1,zA1 h1 3,zA1 h1 4,zA5 h1⟩
theorem is_val (R:Nat) (ts:List S47) (now en:Nat) (x:ByteArray) (r:Bool) (w:World) (h:Rdr w R ts now en) (hn:now≤ts.length) (hr:zCW (tokP ts en now) x=r) :
  Calls Tryz.prog 178 #[.pointer (some ⟨R,0,none⟩),.string x] w fun e w'=>e=.returned (.bool r)∧Below w.heap.size w w':=by
 rw[← hr];exact is_any R ts now en x w h hn
theorem zBO (R:Nat) (ts:List S47) (now en:Nat) (x:ByteArray) (w:World) (h:Rdr w R ts now en) (hl:ts.length≤100000) (hr:zCW (tokP ts en now) x=true) :
  Calls Tryz.prog 158 #[.pointer (some ⟨R,0,none⟩),.string x] w fun e w'=>e=.returned (.tuple #[])∧Took w R ts (now+1) en w':=by
 have hlt:=zAs hr;have hp:=is_val R ts now en x true w h kCT hr;have Hr:=kA1 hr;have H:=kA1 h;clear hr h;go_enter Tryz.func158,Tryz.ntmps158;go_wp2_with (first
  | (go_at_call 178;refine hp.mono ?_;rintro e w1 ⟨rfl,hb1⟩)
  | (go_at_call 93;refine (zD9 R _).mono ?_;rintro e w2 ⟨rfl,rfl⟩;obtain⟨c1,f1,c3,c4,lt⟩:=(H.out.keep hb1).cells))
 exact kBd (kB0 rfl _ _ _) rfl ⟨rfl,Took.next H.out hb1⟩
theorem zCt (R:Nat) (ts:List S47) (now en:Nat) (x:ByteArray) (w:World) (h:Rdr w R ts now en) (hn:now≤ts.length) (hr:zCW (tokP ts en now) x=false) :
  Calls Tryz.prog 158 #[.pointer (some ⟨R,0,none⟩),.string x] w fun e w'=>e=zAk (tokP ts en now).f2∧Below w.heap.size w w':=by
 have hp:=is_val R ts now en x false w h hn hr;have H:=kA1 h;clear hr h;generalize hat:(tokP ts en now).f2=at_;have Hat:=kA1 hat;clear hat;go_enter Tryz.func158,Tryz.ntmps158;go_wp2_with (first
  | (go_at_call 178;refine hp.mono ?_;rintro e w1 ⟨rfl,hb1⟩)
  | (go_at_call 93;refine (zBD R ts now en _ (H.out.keep hb1) hn).mono ?_;rintro e w2 ⟨rfl,hb2⟩;rw[Hat.out];unfold zAk))
 exact⟨rfl,rfl,hb1.trans (hb2.mono hb1.size)⟩
theorem zAE (R:Nat) (ts:List S47) (now en:Nat) (x:ByteArray) (w:World) (h:Rdr w R ts now en) (hl:ts.length≤100000) (hr:zCW (tokP ts en now) x=true) :
  Calls Tryz.prog 156 #[.pointer (some ⟨R,0,none⟩),.string x] w fun e w'=>e=.returned (.bool true)∧Took w R ts (now+1) en w':=by
 have hlt:=zAs hr;have hp:=is_val R ts now en x true w h kCT hr;have H:=kA1 h;clear hr h;go_enter Tryz.func156,Tryz.ntmps156;go_wp2_with (go_at_call 178;refine hp.mono ?_;rintro e w1 ⟨rfl,hb1⟩;obtain⟨c1,f1,c3,c4,lt⟩:=(H.out.keep hb1).cells);go_ret;exact⟨rfl,Took.next H.out hb1⟩
theorem zAQ (R:Nat) (ts:List S47) (now en:Nat) (x:ByteArray) (w:World) (h:Rdr w R ts now en) (hn:now≤ts.length) (hr:zCW (tokP ts en now) x=false) :
  Calls Tryz.prog 156 #[.pointer (some ⟨R,0,none⟩),.string x] w fun e w'=>e=.returned (.bool false)∧Took w R ts now en w':=by
 have hp:=is_val R ts now en x false w h hn hr;have H:=kA1 h;clear hr h;go_enter Tryz.func156,Tryz.ntmps156;go_wp2_with (go_at_call 178;refine hp.mono ?_;rintro e w1 ⟨rfl,hb1⟩);go_ret;exact⟨rfl,(Took.refl H.out).below hb1⟩
theorem zCz (R:Nat) (ts:List S47) (now en:Nat) (k:Int) (w:World) (h:Rdr w R ts now en) (hlt:now<ts.length) (hl:ts.length≤100000) (hr:((tokP ts en now).f0==k)=true) :
  Calls Tryz.prog 157 #[.pointer (some ⟨R,0,none⟩),.int .i64 k] w fun e w'=>e=.returned (.string (tokP ts en now).f1)∧Took w R ts (now+1) en w':=by
 have hp:=zAZ R ts now en w h kCT;unfold tokV at hp;generalize tokP ts en now=t at *;have H:=kA1 h;clear h;go_enter Tryz.func157,Tryz.ntmps157;go_wp2_with (first
  | (go_at_call 136;refine hp.mono ?_;rintro e w1 ⟨rfl,hb1⟩;have hn1:=zA4 w1 (tokO t);have hb2:=hb1.alloc hb1.size (tokO t))
  | (go_at_call 93;refine (zD9 R _).mono ?_;rintro e w2 ⟨rfl,rfl⟩;obtain⟨c1,f1,c3,c4,lt⟩:=(H.out.keep hb1).cells))
 go_ret;exact⟨rfl,(Took.next H.out hb1).below ((kA3 _ _).alloc (kA2 _) _)⟩
theorem kind_no (R:Nat) (ts:List S47) (now en:Nat) (k:Int) (w:World) (h:Rdr w R ts now en) (hn:now≤ts.length) (hr:((tokP ts en now).f0==k)=false) :
  Calls Tryz.prog 157 #[.pointer (some ⟨R,0,none⟩),.int .i64 k] w fun e w'=>e=zAk (tokP ts en now).f2∧Below w.heap.size w w':=by
 have hp:=zAZ R ts now en w h hn;have hm:=fun w' (hb:Below w.heap.size w w')=>zBD R ts now en w' (h.keep hb) hn
 unfold tokV at hp;unfold zAk at hm;generalize tokP ts en now=t at *;have Hm:=kA1 hm;clear h hm;unfold zAk;go_enter Tryz.func157,Tryz.ntmps157;go_wp2_with (first
  | (go_at_call 136;refine hp.mono ?_;rintro e w1 ⟨rfl,hb1⟩;have hb2:=hb1.alloc hb1.size (tokO t))
  | (go_at_call 93;refine (Hm.out _ hb2).mono ?_;rintro e w2 ⟨rfl,hb3⟩))
 exact⟨rfl,rfl,hb2.trans (hb3.mono hb2.size)⟩
structure Laid (W:World):Prop where
 syn:∃te pe,W.cell? ⟨5,0,none⟩=some (.iface te pe)
 rng:∃te pe,W.cell? ⟨6,0,none⟩=some (.iface te pe)
theorem Laid.below {W w:World} (h:Laid W) (hb:Below W.heap.size W w):Laid w:=by
 obtain⟨a,b,h1⟩:=h.syn;obtain⟨c,d,h2⟩:=h.rng;exact⟨⟨a,b,zA0 hb h1⟩,⟨c,d,zA0 hb h2⟩⟩
theorem Atoi_fails (s:ByteArray) (hs:s.size≤100000) (h:∀v,Lib.atoiAll s.data.toList≠.ok v) (w:World) (hl:Laid w) :
  Calls Tryz.prog 216 #[.string s] w fun e w'=>∃n N,e=.returned (.tuple #[.int .i64 n,.iface 321 (.pointer (some ⟨N,0,none⟩))])∧Below w.heap.size w w':=by
 obtain⟨te,pe,h1⟩:=hl.syn;obtain⟨te2,pe2,h2⟩:=hl.rng
 cases hc:Lib.atoiAll s.data.toList with
 | ok v=>exact absurd hc (h v)
 | range=>exact (Go.Proofs.Any.strconv_Atoi_range Tryz.laysC172 s kCT hc _ w h2 (.inr ⟨_,_,rfl⟩)).mono fun e w' ⟨N,he,_,_,hb⟩=>⟨_,N,he,hb⟩
 | _=>exact (Go.Proofs.Any.strconv_Atoi_syntax Tryz.laysC172 s kCT hc _ w h1 (.inr ⟨_,_,rfl⟩)).mono fun e w' ⟨N,he,_,_,hb⟩=>⟨_,N,he,hb⟩
theorem zGd (s:ByteArray) (hs:s.size≤100000) (v:Int) (h:Lib.atoiAll s.data.toList=.ok v) (w:World) :
  Calls Tryz.prog 216 #[.string s] w fun e w'=>e=.returned (.tuple #[.int .i64 v,.nilIface])∧Below w.heap.size w w':=by
 refine (Tryz.strconv_Atoi_ok s kCT v h w).mono ?_;rintro e w' ⟨he,rfl | ⟨t,rfl⟩⟩
 ·exact⟨he,kA3 _ _⟩
 ·exact⟨he,bytes_below (kA3 _ _) (kA2 _) _ _⟩
structure St (W0:World) (R B:Nat) (ts:List S47) (en now:Nat) (w:World):Prop where
 rdr:Rdr w R ts now en
 low:Below W0.heap.size W0 w
 base:B≤w.heap.size
 pos:now≤ts.length
structure Env (W0:World) (R B:Nat) (ts:List S47):Prop where
 laid:Laid W0
 own:W0.heap.size≤R
 made:R<B
 few:ts.length≤100000
 small:∀t∈ts,t.f1.size≤2000
theorem St.took {W0:World} {R B:Nat} {ts:List S47} {en now n:Nat} {w w':World} (E:Env W0 R B ts) (h:St W0 R B ts en now w) (k:Took w R ts n en w') (hn:n≤ts.length):St W0 R B ts en n w' :=
 ⟨k.rdr,h.low.grown k.grown h.low.size (fun j e=>by injection e with e;have:=E.own;omega),kAB h.base k.grown.size,hn⟩
theorem St.below {W0:World} {R B:Nat} {ts:List S47} {en now:Nat} {w w':World} (h:St W0 R B ts en now w) (hb:Below w.heap.size w w'):St W0 R B ts en now w' :=
 ⟨h.rdr.keep hb,h.low.trans (hb.mono h.low.size),kAB h.base hb.size,h.pos⟩
theorem St.laid {W0:World} {R B:Nat} {ts:List S47} {en now:Nat} {w:World} (E:Env W0 R B ts) (h:St W0 R B ts en now w):Laid w:=E.laid.below h.low
theorem zBq {ts:List S47} {en now:Nat} (hs:∀t∈ts,t.f1.size≤2000):(tokP ts en now).f1.size≤2000:=by
 unfold tokP;split
 ·exact hs _ (kAA _)
 ·exact kAT _
def numS (ts:List S47) (en:Nat) (lo hi:Int) (now:Nat):Except Int (Int×Nat) :=
 match Lib.atoiAll (tokP ts en now).f1.data.toList with
 | .ok v=>if (tokP ts en now).f0=2∧lo≤v∧v≤hi then .ok (v,now+1) else .error (tokP ts en now).f2
 | _=>.error (tokP ts en now).f2
def zDo (w:World) (R:Nat) (ts:List S47) (en:Nat):Except Int (Int×Nat)→Ending→World→Prop
 | .ok (v,n),e,w'=>e=.returned (.int .i64 v)∧Took w R ts n en w'
 | .error p,e,w'=>e=zAk p∧w.grownBy w' (some R)
theorem number_ok (W0:World) (R B:Nat) (ts:List S47) (en now:Nat) (lo hi v:Int) (w:World) (E:Env W0 R B ts) (h:St W0 R B ts en now w) (hlt:now<ts.length)
  (h2:((tokP ts en now).f0==2)=true) (hv:Lib.atoiAll (tokP ts en now).f1.data.toList=.ok v) (hlo:lo≤v) (hhi:v≤hi) :
  Calls Tryz.prog 179 #[.pointer (some ⟨R,0,none⟩),.int .i64 lo,.int .i64 hi] w fun e w'=>e=.returned (.int .i64 v)∧Took w R ts (now+1) en w':=by
 have hp:=zAZ R ts now en w h.rdr h.pos;have hat:=zGd _ (kAB (zBq (en:=en) (now:=now) E.small) kCT) v hv;have hin:∀w,Calls Tryz.prog 104 #[.int .i64 v,.int .i64 lo,.int .i64 hi] w fun e w'=>e=.returned (.bool true)∧∃n,w'=w.drewN n:=fun w =>
  (zCU.calls v lo hi true w (by unfold zCU.f;rw[kAa hlo,kA7 hhi])).mono fun _ _ ⟨a,b⟩=>⟨a,b.out⟩
 unfold tokV at hp;generalize tokP ts en now=t at *;have H:=kA1 h;have Hin:=kA1 hin;have few:=E.few;clear h hv hin hlo hhi E;go_enter Tryz.func179,Tryz.ntmps179;go_wp2_with (first
  | (go_at_call 136;refine hp.mono ?_;rintro e w1 ⟨rfl,hb1⟩;have hn1:=zA4 w1 (tokO t);have hb2:=hb1.alloc hb1.size (tokO t))
  | (go_at_call 216;refine (hat _).mono ?_;rintro e w2 ⟨rfl,hb3⟩;have hT:=zA9 hb3 hn1;have t0:=zA1 hT 0;have hb4:=hb2.trans (hb3.mono hb2.size);obtain⟨c1,f1,c3,c4,lt⟩:=(H.out.rdr.keep hb4).cells))
 go_quiet ((first | (go_at_call 104;exact kCE (Hin.out _)) | (go_at_call 93;exact Calls.quiet_of_same (zD9 R _))))
 go_wp2;go_ret;exact⟨rfl,Took.next H.out.rdr (zA3 hb4 nq)⟩
theorem zBA (n lo hi:Int) (w:World):Calls Tryz.prog 104 #[.int .i64 n,.int .i64 lo,.int .i64 hi] w fun e w'=>e=.returned (.bool (decide (lo≤n)&&decide (n≤hi)))∧w'=w:=by
 go_enter Tryz.func104,Tryz.ntmps104;go_wp2
 all_goals
  go_ret;refine⟨?_,rfl⟩
  first | (simp_all;done) | (simp_all;omega)
theorem number_no (W0:World) (R B:Nat) (ts:List S47) (en now:Nat) (lo hi:Int) (w:World) (E:Env W0 R B ts) (h:St W0 R B ts en now w)
  (hno:∀v,Lib.atoiAll (tokP ts en now).f1.data.toList=.ok v→¬((tokP ts en now).f0=2∧lo≤v∧v≤hi)) :
  Calls Tryz.prog 179 #[.pointer (some ⟨R,0,none⟩),.int .i64 lo,.int .i64 hi] w fun e w'=>e=zAk (tokP ts en now).f2∧w.grownBy w' (some R):=by
 have hp:=zAZ R ts now en w h.rdr h.pos;have hm:=fun w' (hb:Below w.heap.size w w')=>zBD R ts now en w' (h.rdr.keep hb) h.pos
 have hsz:=kAB (zBq (en:=en) (now:=now) E.small) (show 2000≤100000 by omega);have hat:(∃v,Lib.atoiAll (tokP ts en now).f1.data.toList=.ok v)∨(∀v,Lib.atoiAll (tokP ts en now).f1.data.toList≠.ok v):=by
  cases hc:Lib.atoiAll (tokP ts en now).f1.data.toList with
  | ok v=>exact .inl ⟨v,rfl⟩
  | range=>exact .inr (fun v h=>by cases h)
  | _=>exact .inr (fun v h=>by cases h)
 unfold tokV at hp;unfold zAk at hm⊢;generalize tokP ts en now=t at *;have Hm:=kA1 hm;have Hlaid:=kA1 (fun w' (hb:Below w.heap.size w w')=>(h.laid E).below hb);have H:=kA1 h;have Hat:(∃v,Lib.atoiAll t.f1.data.toList=.ok v∧∀w',Calls Tryz.prog 216 #[.string t.f1] w' fun e w''=>e=.returned (.tuple #[.int .i64 v,.nilIface])∧Below w'.heap.size w' w'') ∨
   (∀w',Laid w'→Calls Tryz.prog 216 #[.string t.f1] w' fun e w''=>∃n N,e=.returned (.tuple #[.int .i64 n,.iface 321 (.pointer (some ⟨N,0,none⟩))])∧Below w'.heap.size w' w''):=by
  rcases hat with⟨v,hv⟩ | hv
  ·exact .inl ⟨v,hv,fun w'=>zGd _ hsz v hv w'⟩
  ·exact .inr fun w' hl=>Atoi_fails _ hsz hv w' hl
 have few:=E.few;clear h hm hat E;rcases Hat with⟨v,hv,hat⟩ | hat
 ·have hno':=hno v hv;clear hno hv
  cases h2:(t.f0==2)
  ·go_enter Tryz.func179,Tryz.ntmps179;go_wp2_with (first
    | (go_at_call 136;refine hp.mono ?_;rintro e w1 ⟨rfl,hb1⟩;have hn1:=zA4 w1 (tokO t);have hb2:=hb1.alloc hb1.size (tokO t))
    | (go_at_call 216;refine (hat _).mono ?_;rintro e w2 ⟨rfl,hb3⟩;have hT:=zA9 hb3 hn1;have t0:=zA1 hT 0;have hb4:=hb2.trans (hb3.mono hb2.size)))
   have hb5:=hb4.drew;go_still_tail 16,kCU;change wpList _ _ _ _ _ w2.drew;go_wp2_with (go_at_call 93;refine (Hm.out _ hb5).mono ?_;rintro e w6 ⟨rfl,hb6⟩);exact⟨rfl,rfl,kAe (kAF _ _) (hb5.trans (hb6.mono hb5.size))⟩
  ·have hin:∀w',Calls Tryz.prog 104 #[.int .i64 v,.int .i64 lo,.int .i64 hi] w' fun e w''=>e=.returned (.bool false)∧w''=w':=fun w'=>by
    have h1:=zBA v lo hi w';rw[kAx] at h2;have e:(decide (lo≤v)&&decide (v≤hi))=false:=by
     rw[kAQ,kBE,kBE];by_cases hlo:lo≤v
     ·exact .inr (fun hhi=>hno' ⟨h2,hlo,hhi⟩)
     ·exact .inl hlo
    rwa [e] at h1
   have Hin:=kA1 hin;clear hin hno';go_enter Tryz.func179,Tryz.ntmps179;go_wp2_with (first
    | (go_at_call 136;refine hp.mono ?_;rintro e w1 ⟨rfl,hb1⟩;have hn1:=zA4 w1 (tokO t);have hb2:=hb1.alloc hb1.size (tokO t))
    | (go_at_call 216;refine (hat _).mono ?_;rintro e w2 ⟨rfl,hb3⟩;have hT:=zA9 hb3 hn1;have t0:=zA1 hT 0;have hb4:=hb2.trans (hb3.mono hb2.size)))
   have hb5:=hb4.drew;go_still_tail 16,kCU;still_call (Hin.out _)
   repeat still_step
   try refine kCy ?_
   change wpList _ _ _ _ _ w2.drew;go_wp2_with (go_at_call 93;refine (Hm.out _ hb5).mono ?_;rintro e w6 ⟨rfl,hb6⟩);exact⟨rfl,rfl,kAe (kAF _ _) (hb5.trans (hb6.mono hb5.size))⟩
 ·cases h2:(t.f0==2)
  ·go_enter Tryz.func179,Tryz.ntmps179;go_wp2_with (first
    | (go_at_call 136;refine hp.mono ?_;rintro e w1 ⟨rfl,hb1⟩;have hn1:=zA4 w1 (tokO t);have hb2:=hb1.alloc hb1.size (tokO t);have hl1:=kA1 (Hlaid.out _ hb2))
    | (go_at_call 216;refine (hat _ hl1.out).mono ?_;rintro e w2 ⟨n,N,rfl,hb3⟩;have hT:=zA9 hb3 hn1;have t0:=zA1 hT 0;have hb4:=hb2.trans (hb3.mono hb2.size)))
   have hb5:=hb4.drew;go_still_tail 16,kCU;change wpList _ _ _ _ _ w2.drew;go_wp2_with (go_at_call 93;refine (Hm.out _ hb5).mono ?_;rintro e w6 ⟨rfl,hb6⟩);exact⟨rfl,rfl,kAe (kAF _ _) (hb5.trans (hb6.mono hb5.size))⟩
  ·go_enter Tryz.func179,Tryz.ntmps179;go_wp2_with (first
    | (go_at_call 136;refine hp.mono ?_;rintro e w1 ⟨rfl,hb1⟩;have hn1:=zA4 w1 (tokO t);have hb2:=hb1.alloc hb1.size (tokO t);have hl1:=kA1 (Hlaid.out _ hb2))
    | (go_at_call 216;refine (hat _ hl1.out).mono ?_;rintro e w2 ⟨n,N,rfl,hb3⟩;have hT:=zA9 hb3 hn1;have t0:=zA1 hT 0;have hb4:=hb2.trans (hb3.mono hb2.size)))
   have hb5:=hb4.drew;go_still_tail 16,kCU;change wpList _ _ _ _ _ w2.drew;go_wp2_with (go_at_call 93;refine (Hm.out _ hb5).mono ?_;rintro e w6 ⟨rfl,hb6⟩);exact⟨rfl,rfl,kAe (kAF _ _) (hb5.trans (hb6.mono hb5.size))⟩
def wrongOf (e:Int):Ending:=.panicked [{ v:=.iface 159 (.agg #[.int .i64 e]),recovered:=false }]
theorem zAq (e:Int) (w:World):Calls Tryz.prog 67 #[.bool false,.int .i64 e] w fun en w'=>en=.returned (.tuple #[])∧w'=w:=by
 go_enter Tryz.func67,Tryz.ntmps67;go_wp2;exact kBd (kB0 rfl _ _ _) rfl ⟨rfl,rfl⟩
theorem fail_yes (e:Int) (w:World):Calls Tryz.prog 67 #[.bool true,.int .i64 e] w fun en w'=>en=wrongOf e∧w'=w:=by
 unfold wrongOf;go_enter Tryz.func67,Tryz.ntmps67;go_wp2;exact⟨rfl,rfl,rfl⟩
def zAL (op:Int):Int:=if op=0∨op=1 then 0 else if op=2∨op=7∨op=10∨op=11 then 1 else if op=12 then 4 else if op=8 then 1 else if op=14 then 0 else 2
def zAN (op:Int):Int:=if op=0∨op=1 then 0 else if op=2∨op=7∨op=10∨op=11 then 1 else if op=12 then 4 else if op=8∨op=14 then 8 else 2
def zAw (op:Int):Int:=if op=7 then -9 else if op=10∨op=11 then 1 else 0
def zAx (op:Int):Int:=if op=7 then 9 else if op=10∨op=11 then 99 else 0
theorem zEH:(Tryz.prog.info? 198).map (·.size)=some 2:=kCU
theorem zAF {a b:Int} (h:a≠b):(a==b)=false:=kAd.2 h
theorem zBh (op:Int) (w:World):Calls Tryz.prog 142 #[.int .i64 op] w fun e w'=>e=.returned (.agg #[.int .i64 (zAw op),.int .i64 (zAx op)])∧Below w.heap.size w w':=by
 by_cases h7:op=7
 ·subst h7;go_enter Tryz.func142,Tryz.ntmps142;go_wp2;exact kAi (zAg Tryz.results142 _ _ w.heap.size 198 _ (0,0) _ rfl (zA4 w _) Tryz.underlying198 rfl zEH) rfl ⟨rfl,(kA3 _ w).alloc (kA2 _) _⟩
 by_cases h10:op=10
 ·subst h10;go_enter Tryz.func142,Tryz.ntmps142;go_wp2;exact kAi (zAg Tryz.results142 _ _ w.heap.size 198 _ (0,0) _ rfl (zA4 w _) Tryz.underlying198 rfl zEH) rfl ⟨rfl,(kA3 _ w).alloc (kA2 _) _⟩
 by_cases h11:op=11
 ·subst h11;go_enter Tryz.func142,Tryz.ntmps142;go_wp2;exact kAi (zAg Tryz.results142 _ _ w.heap.size 198 _ (0,0) _ rfl (zA4 w _) Tryz.underlying198 rfl zEH) rfl ⟨rfl,(kA3 _ w).alloc (kA2 _) _⟩
 have e:zAw op=0∧zAx op=0:=by unfold zAw zAx;simp[h7,h10,h11]
 rw[e.1,e.2];have h7':=zAF h7;have h10':=zAF h10;have h11':=zAF h11;clear e h7 h10 h11;go_enter Tryz.func142,Tryz.ntmps142;go_wp2;exact kAi (zAg Tryz.results142 _ _ w.heap.size 198 _ (0,0) _ rfl (zA4 w _) Tryz.underlying198 rfl zEH) rfl ⟨rfl,(kA3 _ w).alloc (kA2 _) _⟩
theorem zAG (op:Int) (w:World):Calls Tryz.prog 140 #[.int .i64 op] w fun e w'=>e=.returned (.agg #[.int .i64 (zAL op),.int .i64 (zAN op)])∧Below w.heap.size w w':=by
 by_cases h:op=0∨op=1∨op=2∨op=7∨op=8∨op=10∨op=11∨op=12∨op=14
 ·rcases h with rfl | rfl | rfl | rfl | rfl | rfl | rfl | rfl | rfl
  all_goals
   go_enter Tryz.func140,Tryz.ntmps140;go_wp2;exact kAi (zAg Tryz.results140 _ _ w.heap.size 198 _ (0,0) _ rfl ((kA4 _ _ _ kCV).trans (zA4 w _)) Tryz.underlying198 rfl zEH) rfl ⟨rfl,((kA3 _ w).alloc (kA2 _) _).alloc kCV _⟩
 ·have e:zAL op=2∧zAN op=2:=by unfold zAL zAN;constructor<;>(repeat' split)<;>omega
  rw[e.1,e.2];have h0:=zAF (a:=op) (b:=0) kCT;have h1:=zAF (a:=op) (b:=1) kCT;have h2:=zAF (a:=op) (b:=2) kCT;have h7:=zAF (a:=op) (b:=7) kCT;have h8:=zAF (a:=op) (b:=8) kCT;have h10:=zAF (a:=op) (b:=10) kCT;have h11:=zAF (a:=op) (b:=11) kCT;have h12:=zAF (a:=op) (b:=12) kCT;have h14:=zAF (a:=op) (b:=14) kCT;clear e h;go_enter Tryz.func140,Tryz.ntmps140;go_wp2;exact kAi (zAg Tryz.results140 _ _ w.heap.size 198 _ (0,0) _ rfl ((kA4 _ _ _ kCV).trans (zA4 w _)) Tryz.underlying198 rfl zEH) rfl ⟨rfl,((kA3 _ w).alloc (kA2 _) _).alloc kCV _⟩
end Go.Proofs.YtjaobihcdkjmbaaGreatDoor
end
