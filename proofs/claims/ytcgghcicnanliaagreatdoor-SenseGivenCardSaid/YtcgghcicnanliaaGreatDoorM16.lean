/- Walks: the reference of layer 13: Valid. Conditions: none. -/
import Derived.Test.YtcgghcicnanliaaGreatDoorM13
set_option linter.unusedVariables false
set_option linter.unusedSimpArgs false
namespace Go.Proofs.YtcgghcicnanliaaGreatDoor
open Go.RowKit
set_option maxHeartbeats 2000000
set_option maxRecDepth 100000
theorem cmpI_zero (a:Int):cmpI a 0=0↔a=0:=by unfold cmpI;split<;>(try split)<;>omega
theorem orI3 (a b c:Int):orI [a,b,c]=0↔a=0∧b=0∧c=0:=by
 simp only[orI]
 by_cases h1:a=0
 ·by_cases h2:b=0
  ·by_cases h3:c=0<;>simp[h1,h2,h3]
  ·simp[h1,h2]
 ·simp[h1]
theorem cmpF_zero (f:FlowT):decide (cmpF f zeroF=0)=(decide (f.x=0)&&decide (f.y=0)&&decide (f.slot=0)):=by
 obtain⟨x,y,s,_,_,_,_,_,_⟩:=f;rw[Bool.eq_iff_iff];simp only[cmpF,zeroF,qba,decide_eq_true_eq,orI3,cmpI_zero]
 omega
theorem refTide_46 (t:TideT)(w:World)(h:Sl FlowT.vals 9 w t.A t.flows) :
  Calls Tryz.prog 46 #[.agg t.vals.toArray] w fun e w'=>e=.returned (.bool (kbk t))∧Ext w w':=by
 obtain⟨version,start,slots,⟨r1,r2,r3,r4,r5,r6,r7,r8,r9⟩,A,c,flows⟩:=t;simp only[TideT.vals,FlowT.vals,List.cons_append,List.nil_append]at h ⊢;have K0:=Lib.hid (kjf ⟨r1,r2,r3,r4,r5,r6,r7,r8,r9⟩)
 have hR:Hid (kbk ⟨version,start,slots,⟨r1,r2,r3,r4,r5,r6,r7,r8,r9⟩,A,c,flows⟩=(inB version 1 1000000&&inB start 0 1000000000&&inB slots 0 1000&&decide (flows.length≤4000)&&FlowT.ok ⟨r1,r2,r3,r4,r5,r6,r7,r8,r9⟩&&(decide (r1=0)&&decide (r2=0)&&decide (r3=0))&&kew slots flows)):=by
  show _=_
  have:=cmpF_zero ⟨r1,r2,r3,r4,r5,r6,r7,r8,r9⟩
  simp only at this
  simp only[kbk,this]
 have hsl:Hid (inB slots 0 1000=true→0≤slots∧slots≤1000):=fun e=>by simpa[inB]using e
 generalize FlowT.ok ⟨r1,r2,r3,r4,r5,r6,r7,r8,r9⟩=q0 at K0 hR;generalize hq1:inB version 1 1000000=q1 at hR;generalize hq2:inB start 0 1000000000=q2 at hR;generalize hq3:inB slots 0 1000=q3 at hR hsl;simp only[FlowT.vals]at K0
 by_cases hall:q0=true∧q1=true∧q2=true∧q3=true∧r1=0∧r2=0∧r3=0∧flows.length≤4000
 rotate_left
 ·have hF:Hid (kbk ⟨version,start,slots,⟨r1,r2,r3,r4,r5,r6,r7,r8,r9⟩,A,c,flows⟩=false):=by
   show _=_
   rw[hR.out,Bool.eq_false_iff];intro hh
   apply hall
   simp only[qba,decide_eq_true_eq]at hh;obtain⟨⟨⟨⟨⟨⟨a1,a2⟩,a3⟩,a4⟩,a5⟩,⟨a6,a7⟩,a8⟩,a9⟩:=hh
   exact⟨a5,a1,a2,a3,a6,a7,a8,a4⟩
  have HA:=Lib.hid hall;clear hall hR hsl
  go_enter Tryz.func46,Tryz.ntmps46
  go_wp2_with (first
   | (go_at_call 106;refine(K0.out _).mono ?_;rintro e w1 ⟨rfl,hb1⟩;obtain⟨hc1,hf1,hz1⟩:=hb1.rules;(try simp only[qsa]at hz1);(have hzz1:w.heap.size<w1.heap.size:=by omega))
   | (go_at_call 107;refine(in_107 _ _ _ _).mono ?_;rintro e w' ⟨rfl,rfl⟩;try simp only[hq1,hq2,hq3]))
  all_goals first
   | (go_ret;exact⟨retb hF.out.symm,xt⟩)
   | (exfalso;apply HA.out;refine⟨by simp_all,by simp_all,by simp_all,by simp_all,by simp_all,by simp_all,by simp_all,by omega⟩)
 obtain⟨rfl,rfl,rfl,rfl,rfl,rfl,rfl,hl⟩:=hall
 have hR2:Hid (kbk ⟨version,start,slots,⟨0,0,0,r4,r5,r6,r7,r8,r9⟩,A,c,flows⟩=kew slots flows):=by show _=_;rw[hR.out,decide_eq_true hl];simp
 obtain⟨hs0,hs1⟩:=hsl.out rfl;clear hR hsl
 have hbox:Hid (∀W,Ext (w.alloc (.cells #[.int .i64 version,.int .i64 start,.int .i64 slots,.int .i64 0,.int .i64 0,.int .i64 0,.int .i64 r4,.int .i64 r5,.int .i64 r6,.int .i64 r7,.int .i64 r8,.int .i64 r9,.slice A flows.length c] 33)) W→Ext (w.alloc (.cells #[.int .i64 version,.int .i64 start,.int .i64 slots,.int .i64 0,.int .i64 0,.int .i64 0,.int .i64 r4,.int .i64 r5,.int .i64 r6,.int .i64 r7,.int .i64 r8,.int .i64 r9,.slice A flows.length c] 33)) W):=fun _ h=>h
 have hlz:¬ (4000:Int)<(flows.length:Int):=by omega
 go_enter Tryz.func46,Tryz.ntmps46
 go_wp2_with (first
  | (go_at_call 106;refine(K0.out _).mono ?_;rintro e w1 ⟨rfl,hb1⟩;obtain⟨hc1,hf1,hz1⟩:=hb1.rules;(try simp only[qsa]at hz1);(have hzz1:w.heap.size<w1.heap.size:=by omega))
  | (go_at_call 107;refine(in_107 _ _ _ _).mono ?_;rintro e w' ⟨rfl,rfl⟩;try simp only[hq1,hq2,hq3]))
 have hst:=Lib.hid hb1;clear hc1 hf1 hz1 hzz1 hb1
 go_loopg [7,8,9,10,11] flows.length (fun gg s7 _ _ _ _ wr=>∃kk:Nat,kk≤flows.length∧flows.length-kk≤gg∧s7=.int .i64 kk∧Hid (Ext (w.alloc (.cells #[.int .i64 version,.int .i64 start,.int .i64 slots,.int .i64 0,.int .i64 0,.int .i64 0,.int .i64 r4,.int .i64 r5,.int .i64 r6,.int .i64 r7,.int .i64 r8,.int .i64 r9,.slice A flows.length c] 33)) wr)∧Hid (∀j,j<kk→kay slots flows j=true))
 case atStart=>exact⟨0,Nat.zero_le _,by omega,rfl,hst,fun j hj=>absurd hj (Nat.not_lt_zero _)⟩
 case round=>
  obtain⟨kk,hkk,hg,rfl,hx,H⟩:=hrel;obtain⟨hc,hf,hz⟩:=hx.out.rules;simp only[qsa]at hz
  have hz0:w.heap.size<wr.heap.size:=by omega
  have hxw:Ext w wr:=((Ext.refl w).alloc _).trans hx.out
  by_cases hlt:kk<flows.length
  ·obtain⟨b,off,rfl⟩:=h.addr (by omega)
   have hb:=h.blk (by omega)
   have hbw:b<wr.heap.size:=by omega
   clear hb;obtain⟨y,hy⟩:∃y,flows[kk]?=some y:=⟨_,qgq hlt⟩;have Y:=Lib.hid hy;have G0:=Lib.hid (kjf y)
   have hN:Hid (kfi y=(inB y.x (-50) 50&&inB y.y (-50) 50)):=rfl
   generalize hok:y.ok=p0 at G0;generalize hp1:inB y.x (-50) 50=p1 at hN;generalize hp2:inB y.y (-50) 50=p2 at hN;have OK:=Lib.hid hok
   have F0:Hid ((kfi y&&decide (0≤y.slot)&&decide (y.slot<slots)&&p0)=false→kew slots flows=false):=fun hh=>kam hlt (by unfold kay;rw[Y.out];simp only[OK.out];rw[hh];rfl)
   have hltz:(kk:Int)<(flows.length:Int):=by omega
   have hkb:(kk:Int)≤4000:=by omega
   clear hok
   by_cases hn:p0=true∧p1=true∧p2=true∧0≤y.slot∧y.slot<slots
   ·obtain⟨rfl,rfl,rfl,hn2,hn3⟩:=hn
    have hok0:Hid ((kfi y&&decide (0≤y.slot)&&decide (y.slot<slots)&&y.ok)=true):=by show _=_;rw[hN.out,OK.out];simp[hn2,hn3]
    clear F0 hN OK
    cases kk with
    | zero=>
     have hok:Hid (kay slots flows 0=true):=by show kay slots flows 0=true;unfold kay;rw[Y.out];simp only[hok0.out,Bool.true_and]
     clear hok0 Y;obtain⟨f1,f2,f3,f4,f5,f6,f7,f8,f9⟩:=y;simp only[FlowT.vals]at hn2 hn3 G0 hp1 hp2
     have c0:wr.cell? ⟨b,off,none⟩=some (.int .i64 f1):=by have:=(h.ext hxw).at_ hy (i:=0) rfl;simpa using this
     have c1:wr.cell? ⟨b,off+1,none⟩=some (.int .i64 f2):=by have:=(h.ext hxw).at_ hy (i:=1) rfl;simpa using this
     have c2:wr.cell? ⟨b,off+2,none⟩=some (.int .i64 f3):=by have:=(h.ext hxw).at_ hy (i:=2) rfl;simpa using this
     have c3:wr.cell? ⟨b,off+3,none⟩=some (.int .i64 f4):=by have:=(h.ext hxw).at_ hy (i:=3) rfl;simpa using this
     have c4:wr.cell? ⟨b,off+4,none⟩=some (.int .i64 f5):=by have:=(h.ext hxw).at_ hy (i:=4) rfl;simpa using this
     have c5:wr.cell? ⟨b,off+5,none⟩=some (.int .i64 f6):=by have:=(h.ext hxw).at_ hy (i:=5) rfl;simpa using this
     have c6:wr.cell? ⟨b,off+6,none⟩=some (.int .i64 f7):=by have:=(h.ext hxw).at_ hy (i:=6) rfl;simpa using this
     have c7:wr.cell? ⟨b,off+7,none⟩=some (.int .i64 f8):=by have:=(h.ext hxw).at_ hy (i:=7) rfl;simpa using this
     have c8:wr.cell? ⟨b,off+8,none⟩=some (.int .i64 f9):=by have:=(h.ext hxw).at_ hy (i:=8) rfl;simpa using this
     clear hy
     go_wp2_with (first
      | (go_at_call 106;refine(G0.out _).mono ?_;rintro e w1 ⟨rfl,hb1⟩;obtain⟨hc1,hf1,hz1⟩:=hb1.rules;(try simp only[qsa]at hz1);(have hzz1:wr.heap.size<w1.heap.size:=by omega);(have hzy1:w.heap.size<w1.heap.size:=by omega))
      | (go_at_call 107;refine(in_107 _ _ _ _).mono ?_;rintro e w' ⟨rfl,rfl⟩;try simp only[hp1,hp2]))
     (refine kad (by kernel_rfl) (by kernel_rfl) ?_;(repeat (first|go_big_quiet_step (fail)|quiet_step (fail)));refine wpQuiet_nil ?_;rintro _ ⟨xq,rfl⟩;have hx2:=xq.ext;generalize xq.world=w2 at hx2 ⊢)
     go_wp2
     go_roundg (flows.length-1)
     case measure=>omega
     case rel=>exact⟨1,by omega,by omega,by go_num,((hx.out.alloc _).trans hb1).trans hx2,fun (j:Nat) (hj:j<1)=>by obtain rfl:j=0:=(by omega);exact hok.out⟩
    | succ m=>
     obtain⟨q,hq⟩:∃q,flows[m]?=some q:=⟨_,qgq (by omega)⟩
     have hokm:Hid (kay slots flows (m+1)=decide (cmpF q y<0)):=by show kay slots flows (m+1)=_;unfold kay;rw[Y.out];simp only[hok0.out,Bool.true_and,hq]
     have G4:=Lib.hid (refBefore_108 q y);clear hok0 Y;generalize decide (cmpF q y<0)=cq at hokm G4
     have hm4:(m:Int)≤4000:=by omega
     obtain⟨f1,f2,f3,f4,f5,f6,f7,f8,f9⟩:=y;obtain⟨q1,q2,q3,q4,q5,q6,q7,q8,q9⟩:=q;simp only[FlowT.vals]at hn2 hn3 G0 G4 hp1 hp2
     have c0:wr.cell? ⟨b,off+(m+1)*9,none⟩=some (.int .i64 f1):=by have:=(h.ext hxw).at_ hy (i:=0) rfl;simpa using this
     have c1:wr.cell? ⟨b,off+(m+1)*9+1,none⟩=some (.int .i64 f2):=by have:=(h.ext hxw).at_ hy (i:=1) rfl;simpa using this
     have c2:wr.cell? ⟨b,off+(m+1)*9+2,none⟩=some (.int .i64 f3):=by have:=(h.ext hxw).at_ hy (i:=2) rfl;simpa using this
     have c3:wr.cell? ⟨b,off+(m+1)*9+3,none⟩=some (.int .i64 f4):=by have:=(h.ext hxw).at_ hy (i:=3) rfl;simpa using this
     have c4:wr.cell? ⟨b,off+(m+1)*9+4,none⟩=some (.int .i64 f5):=by have:=(h.ext hxw).at_ hy (i:=4) rfl;simpa using this
     have c5:wr.cell? ⟨b,off+(m+1)*9+5,none⟩=some (.int .i64 f6):=by have:=(h.ext hxw).at_ hy (i:=5) rfl;simpa using this
     have c6:wr.cell? ⟨b,off+(m+1)*9+6,none⟩=some (.int .i64 f7):=by have:=(h.ext hxw).at_ hy (i:=6) rfl;simpa using this
     have c7:wr.cell? ⟨b,off+(m+1)*9+7,none⟩=some (.int .i64 f8):=by have:=(h.ext hxw).at_ hy (i:=7) rfl;simpa using this
     have c8:wr.cell? ⟨b,off+(m+1)*9+8,none⟩=some (.int .i64 f9):=by have:=(h.ext hxw).at_ hy (i:=8) rfl;simpa using this
     have g0:wr.cell? ⟨b,off+m*9,none⟩=some (.int .i64 q1):=by have:=(h.ext hxw).at_ hq (i:=0) rfl;simpa using this
     have g1:wr.cell? ⟨b,off+m*9+1,none⟩=some (.int .i64 q2):=by have:=(h.ext hxw).at_ hq (i:=1) rfl;simpa using this
     have g2:wr.cell? ⟨b,off+m*9+2,none⟩=some (.int .i64 q3):=by have:=(h.ext hxw).at_ hq (i:=2) rfl;simpa using this
     have g3:wr.cell? ⟨b,off+m*9+3,none⟩=some (.int .i64 q4):=by have:=(h.ext hxw).at_ hq (i:=3) rfl;simpa using this
     have g4:wr.cell? ⟨b,off+m*9+4,none⟩=some (.int .i64 q5):=by have:=(h.ext hxw).at_ hq (i:=4) rfl;simpa using this
     have g5:wr.cell? ⟨b,off+m*9+5,none⟩=some (.int .i64 q6):=by have:=(h.ext hxw).at_ hq (i:=5) rfl;simpa using this
     have g6:wr.cell? ⟨b,off+m*9+6,none⟩=some (.int .i64 q7):=by have:=(h.ext hxw).at_ hq (i:=6) rfl;simpa using this
     have g7:wr.cell? ⟨b,off+m*9+7,none⟩=some (.int .i64 q8):=by have:=(h.ext hxw).at_ hq (i:=7) rfl;simpa using this
     have g8:wr.cell? ⟨b,off+m*9+8,none⟩=some (.int .i64 q9):=by have:=(h.ext hxw).at_ hq (i:=8) rfl;simpa using this
     clear hy hq
     go_wp2_with (first
      | (go_at_call 106;refine(G0.out _).mono ?_;rintro e w1 ⟨rfl,hb1⟩;obtain⟨hc1,hf1,hz1⟩:=hb1.rules;(try simp only[qsa]at hz1);(have hzz1:wr.heap.size<w1.heap.size:=by omega);(have hzy1:w.heap.size<w1.heap.size:=by omega))
      | (go_at_call 107;refine(in_107 _ _ _ _).mono ?_;rintro e w' ⟨rfl,rfl⟩;try simp only[hp1,hp2]))
     have hxw1:Ext w w1:=(hxw.alloc _).trans hb1
     have hbw1:b<w1.heap.size:=by have:=hxw1.len;omega
     cases cq with
     | false=>
      have hF:Hid (kew slots flows=false):=kam hlt (by rw[hokm.out])
      (refine kad (by kernel_rfl) (by kernel_rfl) ?_;(repeat (first|go_big_quiet_step ((go_at_call 108;exact Xt.calls (G4.out _)))|quiet_step ((go_at_call 108;exact Xt.calls (G4.out _)))));refine wpQuiet_nil ?_;rintro _ ⟨xq,rfl⟩;have hx2:=xq.ext;generalize xq.world=w2 at hx2 ⊢)
      go_wp2
      go_ret
      exact⟨retb (by rw[hR2.out,hF.out]),hxw1.trans hx2⟩
     | true=>
      (refine kad (by kernel_rfl) (by kernel_rfl) ?_;(repeat (first|go_big_quiet_step ((go_at_call 108;exact Xt.calls (G4.out _)))|quiet_step ((go_at_call 108;exact Xt.calls (G4.out _)))));refine wpQuiet_nil ?_;rintro _ ⟨xq,rfl⟩;have hx2:=xq.ext;generalize xq.world=w2 at hx2 ⊢)
      go_wp2
      go_roundg (flows.length-(m+1+1))
      case measure=>omega
      case rel=>exact⟨m+1+1,by omega,by omega,by go_num,((hx.out.alloc _).trans hb1).trans hx2,fun (j:Nat) (hj:j<m+1+1)=>by by_cases e:j=m+1;(subst e;exact hokm.out);exact H.out j (by omega)⟩
   ·have hF:Hid (kew slots flows=false):=F0.out (by
     rw[hN.out,Bool.eq_false_iff];intro hh
     apply hn
     simp only[qba,decide_eq_true_eq]at hh;obtain⟨⟨⟨⟨a1,a2⟩,a3⟩,a4⟩,a5⟩:=hh
     exact⟨a5,a1,a2,a3,a4⟩)
    have hcase:p0=false∨(p0=true∧p1=false)∨(p0=true∧p1=true∧p2=false)∨(p0=true∧p1=true∧p2=true∧y.slot<0)∨(p0=true∧p1=true∧p2=true∧0≤y.slot∧slots≤y.slot):=by
     cases p0
     ·exact .inl rfl
     cases p1
     ·exact .inr (.inl ⟨rfl,rfl⟩)
     cases p2
     ·exact .inr (.inr (.inl ⟨rfl,rfl,rfl⟩))
     by_cases h0:y.slot<0
     ·exact .inr (.inr (.inr (.inl ⟨rfl,rfl,rfl,h0⟩)))
     ·refine .inr (.inr (.inr (.inr ⟨rfl,rfl,rfl,by omega,?_⟩)))
      by_cases h1:slots≤y.slot
      ·exact h1
      ·exact absurd ⟨rfl,rfl,rfl,by omega,by omega⟩ hn
    clear hn F0 hN OK Y;obtain⟨f1,f2,f3,f4,f5,f6,f7,f8,f9⟩:=y;simp only[FlowT.vals]at G0 hp1 hp2 hcase
    have c0:wr.cell? ⟨b,off+kk*9,none⟩=some (.int .i64 f1):=by have:=(h.ext hxw).at_ hy (i:=0) rfl;simpa using this
    have c1:wr.cell? ⟨b,off+kk*9+1,none⟩=some (.int .i64 f2):=by have:=(h.ext hxw).at_ hy (i:=1) rfl;simpa using this
    have c2:wr.cell? ⟨b,off+kk*9+2,none⟩=some (.int .i64 f3):=by have:=(h.ext hxw).at_ hy (i:=2) rfl;simpa using this
    have c3:wr.cell? ⟨b,off+kk*9+3,none⟩=some (.int .i64 f4):=by have:=(h.ext hxw).at_ hy (i:=3) rfl;simpa using this
    have c4:wr.cell? ⟨b,off+kk*9+4,none⟩=some (.int .i64 f5):=by have:=(h.ext hxw).at_ hy (i:=4) rfl;simpa using this
    have c5:wr.cell? ⟨b,off+kk*9+5,none⟩=some (.int .i64 f6):=by have:=(h.ext hxw).at_ hy (i:=5) rfl;simpa using this
    have c6:wr.cell? ⟨b,off+kk*9+6,none⟩=some (.int .i64 f7):=by have:=(h.ext hxw).at_ hy (i:=6) rfl;simpa using this
    have c7:wr.cell? ⟨b,off+kk*9+7,none⟩=some (.int .i64 f8):=by have:=(h.ext hxw).at_ hy (i:=7) rfl;simpa using this
    have c8:wr.cell? ⟨b,off+kk*9+8,none⟩=some (.int .i64 f9):=by have:=(h.ext hxw).at_ hy (i:=8) rfl;simpa using this
    clear hy
    rcases hcase with rfl|⟨rfl,rfl⟩|⟨rfl,rfl,rfl⟩|⟨rfl,rfl,rfl,hs2⟩|⟨rfl,rfl,rfl,hs2,hs3⟩
    all_goals
     go_wp2_with (first
      | (go_at_call 106;refine(G0.out _).mono ?_;rintro e w1 ⟨rfl,hb1⟩;obtain⟨hc1,hf1,hz1⟩:=hb1.rules;(try simp only[qsa]at hz1);(have hzz1:wr.heap.size<w1.heap.size:=by omega);(have hzy1:w.heap.size<w1.heap.size:=by omega))
      | (go_at_call 107;refine(in_107 _ _ _ _).mono ?_;rintro e w' ⟨rfl,rfl⟩;try simp only[hp1,hp2]))
     all_goals (go_ret;exact⟨retb (by rw[hR2.out,hF.out]),(hxw.alloc _).trans hb1⟩)
  ·have hT:Hid (kew slots flows=true):=kap (fun j hj=>H.out j (by omega))
   have hltz:¬ (kk:Int)<(flows.length:Int):=by omega
   go_wp2
   go_ret
   exact⟨retb (by rw[hR2.out,hT.out]),hxw⟩
end Go.Proofs.YtcgghcicnanliaaGreatDoor
