/- Walks: tide.Valid. Conditions: none. -/
import Derived.Test.YtcgghcicnanliaaGreatDoorM09
set_option linter.unusedVariables false
set_option linter.unusedSimpArgs false
namespace Go.Proofs.YtcgghcicnanliaaGreatDoor
open Go.RowKit
set_option maxHeartbeats 1000000
set_option maxRecDepth 100000
def kfi (f:FlowT):Bool:=inB f.x (-50) 50&&inB f.y (-50) 50
def kay (slots:Int)(l:List FlowT)(j:Nat):Bool:=match l[j]? with
 | none=>true
 | some f=>kfi f&&decide (0≤f.slot)&&decide (f.slot<slots)&&f.ok&&(match j with
  | 0=>true
  | i+1=>match l[i]? with
   | none=>true
   | some q=>decide (cmpF q f<0))
structure TideT where
 version:Int
 start:Int
 slots:Int
 rest:FlowT
 A:Option Addr
 c:Nat
 flows:List FlowT
def TideT.vals (t:TideT):List Value:=[.int .i64 t.version,.int .i64 t.start,.int .i64 t.slots]++t.rest.vals++[.slice t.A t.flows.length t.c]
def kew (slots:Int)(l:List FlowT):Bool:=(List.range l.length).all (kay slots l)
def zeroF:FlowT:=⟨0,0,0,0,0,0,0,0,0⟩
def kbk (t:TideT):Bool:=inB t.version 1 1000000&&inB t.start 0 1000000000&&inB t.slots 0 1000&&decide (t.flows.length≤4000)&&t.rest.ok&&decide (cmpF t.rest zeroF=0)&&kew t.slots t.flows
theorem klb (t:TideT)(w:World)(h:Sl FlowT.vals 9 w t.A t.flows) :
  Calls Tryz.prog 42 #[.agg t.vals.toArray] w fun e w'=>e=.returned (.bool (kbk t))∧Ext w w':=by
 obtain⟨version,start,slots,⟨r1,r2,r3,r4,r5,r6,r7,r8,r9⟩,A,c,flows⟩:=t;simp only[TideT.vals,FlowT.vals,List.cons_append,List.nil_append]at h ⊢;have H1:=Lib.hid (knl ⟨r1,r2,r3,r4,r5,r6,r7,r8,r9⟩);have H2:=Lib.hid (kfp ⟨r1,r2,r3,r4,r5,r6,r7,r8,r9⟩ zeroF);simp only[kbk];generalize hok:FlowT.ok ⟨r1,r2,r3,r4,r5,r6,r7,r8,r9⟩=ok at H1 ⊢;generalize hcm:cmpF ⟨r1,r2,r3,r4,r5,r6,r7,r8,r9⟩ zeroF=cm at H2 ⊢;clear hok hcm
 go_enter Tryz.func42,Tryz.ntmps42
 go_wp2_with (first|(go_at_call 95;refine(isTime_95 _ _).mono ?_;rintro e w' ⟨rfl,rfl⟩)|(go_at_call 96;refine(H1.out _).mono ?_;rintro e w' ⟨rfl,hb⟩;obtain⟨hc,hf,hz⟩:=hb.rules;(try simp only[qsa]at hz);have hz0:w.heap.size<w'.heap.size:=by omega;(try have hz1:w.heap.size+1<w'.heap.size:=by omega);(try have hz2:w.heap.size+1+1<w'.heap.size:=by omega);(try have hz3:w.heap.size+1+1+1<w'.heap.size:=by omega))|(go_at_call 97;refine(H2.out _).mono ?_;rintro e w' ⟨rfl,hb⟩;obtain⟨hc,hf,hz⟩:=hb.rules;(try simp only[qsa]at hz);have hz0:w.heap.size<w'.heap.size:=by omega;(try have hz1:w.heap.size+1<w'.heap.size:=by omega);(try have hz2:w.heap.size+1+1<w'.heap.size:=by omega);(try have hz3:w.heap.size+1+1+1<w'.heap.size:=by omega)))
 any_goals (first|(go_ret;exact⟨retb (by first|(simp_all [inB];done)|(rw[Bool.eq_iff_iff];simp_all [inB]<;>omega)),xt⟩)|skip)
 obtain rfl:cm=0:=by simp_all
 obtain⟨hT1,hT2,hT3,hT4,hT5,hT6⟩:1≤version∧version≤1000000∧inB start 0 1000000000=true∧0≤slots∧slots≤1000∧flows.length≤4000:=by refine⟨by assumption,by assumption,by assumption,by assumption,by assumption,by omega⟩
 have hbox:Ext (w.alloc (.cells #[.int .i64 version,.int .i64 start,.int .i64 slots,.int .i64 r1,.int .i64 r2,.int .i64 r3,.int .i64 r4,.int .i64 r5,.int .i64 r6,.int .i64 r7,.int .i64 r8,.int .i64 r9,.slice A flows.length c] 33)) w':=xt
 go_loopg [2,3,4,5,50] flows.length (fun gg s2 _ _ _ s50 wr=>∃kk:Nat,kk≤flows.length∧flows.length-kk≤gg∧s2=.bool false∧s50=.int .i64 kk∧Hid (Ext (w.alloc (.cells #[.int .i64 version,.int .i64 start,.int .i64 slots,.int .i64 r1,.int .i64 r2,.int .i64 r3,.int .i64 r4,.int .i64 r5,.int .i64 r6,.int .i64 r7,.int .i64 r8,.int .i64 r9,.slice A flows.length c] 33)) wr)∧Hid (∀j,j<kk→kay slots flows j=true))
 case atStart=>exact⟨0,Nat.zero_le _,by omega,rfl,rfl,hbox,fun j hj=>absurd hj (Nat.not_lt_zero _)⟩
 case round=>
  obtain⟨kk,hkk,hg,rfl,rfl,hx,H⟩:=hrel;obtain⟨hc,hf,hz⟩:=hx.out.rules;simp only[qsa]at hz
  have hz0:w.heap.size<wr.heap.size:=by omega
  by_cases hlt:kk<flows.length
  ·obtain⟨b,off,rfl⟩:=h.addr (by omega)
   have hb:=h.blk (by omega)
   have hS:Sl FlowT.vals 9 wr (some ⟨b,off,none⟩) flows:=h.ext (((Ext.refl w).alloc _).trans hx.out)
   obtain⟨y,hy⟩:∃y,flows[kk]?=some y:=⟨_,qgq hlt⟩
   have G1:=Lib.hid (fun W=>knl y W)
   have Y:=Lib.hid hy
   have F0:Hid ((kfi y&&decide (0≤y.slot)&&decide (y.slot<slots)&&y.ok)=false→kew slots flows=false):=fun hh=>kam hlt (by unfold kay;rw[Y.out];simp only;rw[hh];rfl)
   have Hn:=Lib.hid (show kfi y=(inB y.x (-50) 50&&inB y.y (-50) 50) from rfl)
   have hltz:(kk:Int)<(flows.length:Int):=by omega
   have hkb:(kk:Int)≤4000:=by omega
   by_cases hn:kfi y=true∧0≤y.slot∧y.slot<slots∧y.ok=true
   ·obtain⟨hn1,hn2,hn3,hn4⟩:=hn
    have hok0:Hid ((kfi y&&decide (0≤y.slot)&&decide (y.slot<slots)&&y.ok)=true):=by simp[Hid,hn1,hn2,hn3,hn4]
    have hnn:=Hn.out;rw[hn1]at hnn
    have hD:-50≤y.x∧y.x≤50∧-50≤y.y∧y.y≤50:=by
     have:=hnn.symm
     simp only[inB,qba,decide_eq_true_eq]at this
     omega
    have G3:Hid (∀W,Calls Tryz.prog 96 #[.agg y.vals.toArray] W fun e w'=>e=.returned (.bool true)∧Ext W w'):=fun W=>by rw[←hn4];exact G1.out W
    clear hnn hn1 hn4 G1 Hn F0
    cases kk with
    | zero=>
     have hok:Hid (kay slots flows 0=true):=by show kay slots flows 0=true;unfold kay;rw[Y.out];simp only[hok0.out,Bool.true_and]
     clear hok0 Y;obtain⟨f1,f2,f3,f4,f5,f6,f7,f8,f9⟩:=y
     simp only at hD hn2 hn3
     obtain⟨d1,d2,d3,d4⟩:=hD
     have c0:w.cell? ⟨b,off,none⟩=some (.int .i64 f1):=by have:=h.at_ hy (i:=0) rfl;simpa using this
     have c1:w.cell? ⟨b,off+1,none⟩=some (.int .i64 f2):=by have:=h.at_ hy (i:=1) rfl;simpa using this
     have c2:w.cell? ⟨b,off+2,none⟩=some (.int .i64 f3):=by have:=h.at_ hy (i:=2) rfl;simpa using this
     have c3:w.cell? ⟨b,off+3,none⟩=some (.int .i64 f4):=by have:=h.at_ hy (i:=3) rfl;simpa using this
     have c4:w.cell? ⟨b,off+4,none⟩=some (.int .i64 f5):=by have:=h.at_ hy (i:=4) rfl;simpa using this
     have c5:w.cell? ⟨b,off+5,none⟩=some (.int .i64 f6):=by have:=h.at_ hy (i:=5) rfl;simpa using this
     have c6:w.cell? ⟨b,off+6,none⟩=some (.int .i64 f7):=by have:=h.at_ hy (i:=6) rfl;simpa using this
     have c7:w.cell? ⟨b,off+7,none⟩=some (.int .i64 f8):=by have:=h.at_ hy (i:=7) rfl;simpa using this
     have c8:w.cell? ⟨b,off+8,none⟩=some (.int .i64 f9):=by have:=h.at_ hy (i:=8) rfl;simpa using this
     clear hy
     first|(have e0:decide (-50≤f1)=true:=decide_eq_true (by omega))|(have e0:decide (-50≤f1)=false:=decide_eq_false (by omega))|skip
     first|(have e1:decide (f1≤50)=true:=decide_eq_true (by omega))|(have e1:decide (f1≤50)=false:=decide_eq_false (by omega))|skip
     first|(have e2:decide (-50≤f2)=true:=decide_eq_true (by omega))|(have e2:decide (-50≤f2)=false:=decide_eq_false (by omega))|skip
     first|(have e3:decide (f2≤50)=true:=decide_eq_true (by omega))|(have e3:decide (f2≤50)=false:=decide_eq_false (by omega))|skip
     first|(have e4:decide (f3<0)=true:=decide_eq_true (by omega))|(have e4:decide (f3<0)=false:=decide_eq_false (by omega))|skip
     first|(have e5:decide (slots≤f3)=true:=decide_eq_true (by omega))|(have e5:decide (slots≤f3)=false:=decide_eq_false (by omega))|skip
     go_wp2_with fail
     (refine kad (by kernel_rfl) (by kernel_rfl) ?_;(repeat (first|go_big_quiet_step ((go_at_call 96;exact Xt.calls (G3.out _)))|quiet_step ((go_at_call 96;exact Xt.calls (G3.out _)))));refine wpQuiet_nil ?_;rintro _ ⟨xq,rfl⟩;have hx2:=xq.ext;generalize xq.world=w2 at hx2 ⊢)
     go_wp2
     go_roundg (flows.length-1)
     case measure=>omega
     case rel=>exact⟨1,by omega,by omega,rfl,by go_num,xt,fun (j:Nat) (hj:j<1)=>by obtain rfl:j=0:=(by omega);exact hok.out⟩
    | succ m=>
     obtain⟨q,hq⟩:∃q,flows[m]?=some q:=⟨_,qgq (by omega)⟩
     have hokm:Hid (kay slots flows (m+1)=decide (cmpF q y<0)):=by show kay slots flows (m+1)=_;unfold kay;rw[Y.out];simp only[hok0.out,Bool.true_and,hq]
     have G4:=Lib.hid (fun W=>kfp q y W)
     clear hok0 Y;generalize cmpF q y=cq at hokm G4
     have hm4:(m:Int)≤4000:=by omega
     have hbw:b<wr.heap.size:=by omega
     have hbw1:b<wr.heap.size+1:=by omega
     obtain⟨f1,f2,f3,f4,f5,f6,f7,f8,f9⟩:=y;obtain⟨q1,q2,q3,q4,q5,q6,q7,q8,q9⟩:=q
     simp only at hD hn2 hn3
     obtain⟨d1,d2,d3,d4⟩:=hD
     have c0:w.cell? ⟨b,off+(m+1)*9,none⟩=some (.int .i64 f1):=by have:=h.at_ hy (i:=0) rfl;simpa using this
     have c1:w.cell? ⟨b,off+(m+1)*9+1,none⟩=some (.int .i64 f2):=by have:=h.at_ hy (i:=1) rfl;simpa using this
     have c2:w.cell? ⟨b,off+(m+1)*9+2,none⟩=some (.int .i64 f3):=by have:=h.at_ hy (i:=2) rfl;simpa using this
     have c3:w.cell? ⟨b,off+(m+1)*9+3,none⟩=some (.int .i64 f4):=by have:=h.at_ hy (i:=3) rfl;simpa using this
     have c4:w.cell? ⟨b,off+(m+1)*9+4,none⟩=some (.int .i64 f5):=by have:=h.at_ hy (i:=4) rfl;simpa using this
     have c5:w.cell? ⟨b,off+(m+1)*9+5,none⟩=some (.int .i64 f6):=by have:=h.at_ hy (i:=5) rfl;simpa using this
     have c6:w.cell? ⟨b,off+(m+1)*9+6,none⟩=some (.int .i64 f7):=by have:=h.at_ hy (i:=6) rfl;simpa using this
     have c7:w.cell? ⟨b,off+(m+1)*9+7,none⟩=some (.int .i64 f8):=by have:=h.at_ hy (i:=7) rfl;simpa using this
     have c8:w.cell? ⟨b,off+(m+1)*9+8,none⟩=some (.int .i64 f9):=by have:=h.at_ hy (i:=8) rfl;simpa using this
     have g0:w.cell? ⟨b,off+m*9,none⟩=some (.int .i64 q1):=by have:=h.at_ hq (i:=0) rfl;simpa using this
     have g1:w.cell? ⟨b,off+m*9+1,none⟩=some (.int .i64 q2):=by have:=h.at_ hq (i:=1) rfl;simpa using this
     have g2:w.cell? ⟨b,off+m*9+2,none⟩=some (.int .i64 q3):=by have:=h.at_ hq (i:=2) rfl;simpa using this
     have g3:w.cell? ⟨b,off+m*9+3,none⟩=some (.int .i64 q4):=by have:=h.at_ hq (i:=3) rfl;simpa using this
     have g4:w.cell? ⟨b,off+m*9+4,none⟩=some (.int .i64 q5):=by have:=h.at_ hq (i:=4) rfl;simpa using this
     have g5:w.cell? ⟨b,off+m*9+5,none⟩=some (.int .i64 q6):=by have:=h.at_ hq (i:=5) rfl;simpa using this
     have g6:w.cell? ⟨b,off+m*9+6,none⟩=some (.int .i64 q7):=by have:=h.at_ hq (i:=6) rfl;simpa using this
     have g7:w.cell? ⟨b,off+m*9+7,none⟩=some (.int .i64 q8):=by have:=h.at_ hq (i:=7) rfl;simpa using this
     have g8:w.cell? ⟨b,off+m*9+8,none⟩=some (.int .i64 q9):=by have:=h.at_ hq (i:=8) rfl;simpa using this
     clear hy hq
     first|(have e0:decide (-50≤f1)=true:=decide_eq_true (by omega))|(have e0:decide (-50≤f1)=false:=decide_eq_false (by omega))|skip
     first|(have e1:decide (f1≤50)=true:=decide_eq_true (by omega))|(have e1:decide (f1≤50)=false:=decide_eq_false (by omega))|skip
     first|(have e2:decide (-50≤f2)=true:=decide_eq_true (by omega))|(have e2:decide (-50≤f2)=false:=decide_eq_false (by omega))|skip
     first|(have e3:decide (f2≤50)=true:=decide_eq_true (by omega))|(have e3:decide (f2≤50)=false:=decide_eq_false (by omega))|skip
     first|(have e4:decide (f3<0)=true:=decide_eq_true (by omega))|(have e4:decide (f3<0)=false:=decide_eq_false (by omega))|skip
     first|(have e5:decide (slots≤f3)=true:=decide_eq_true (by omega))|(have e5:decide (slots≤f3)=false:=decide_eq_false (by omega))|skip
     by_cases hcq:0≤cq
     ·have hF:Hid (kew slots flows=false):=kam hlt (by rw[hokm.out];simp;omega)
      go_wp2_with fail
      (refine kad (by kernel_rfl) (by kernel_rfl) ?_;(repeat (first|go_big_quiet_step ((first|(go_at_call 96;exact Xt.calls (G3.out _))|(go_at_call 97;exact Xt.calls (G4.out _))))|quiet_step ((first|(go_at_call 96;exact Xt.calls (G3.out _))|(go_at_call 97;exact Xt.calls (G4.out _))))));refine wpQuiet_nil ?_;rintro _ ⟨xq,rfl⟩;have hx2:=xq.ext;generalize xq.world=w2 at hx2 ⊢)
      go_wp2
      go_ret
      exact⟨retb (by rw[hF.out];simp),xt⟩
     ·have hok:Hid (kay slots flows (m+1)=true):=by show kay slots flows (m+1)=true;rw[hokm.out];simp;omega
      go_wp2_with fail
      (refine kad (by kernel_rfl) (by kernel_rfl) ?_;(repeat (first|go_big_quiet_step ((first|(go_at_call 96;exact Xt.calls (G3.out _))|(go_at_call 97;exact Xt.calls (G4.out _))))|quiet_step ((first|(go_at_call 96;exact Xt.calls (G3.out _))|(go_at_call 97;exact Xt.calls (G4.out _))))));refine wpQuiet_nil ?_;rintro _ ⟨xq,rfl⟩;have hx2:=xq.ext;generalize xq.world=w2 at hx2 ⊢)
      go_wp2
      go_roundg (flows.length-(m+1+1))
      case measure=>omega
      case rel=>exact⟨m+1+1,by omega,by omega,rfl,by go_num,xt,fun (j:Nat) (hj:j<m+1+1)=>by by_cases e:j=m+1;(subst e;exact hok.out);exact H.out j (by omega)⟩
   ·have hF:Hid (kew slots flows=false):=F0.out (by rw[Bool.eq_false_iff];intro hh;apply hn;simpa[and_assoc]using hh)
    have D:(y.x < -50∨(-50≤y.x∧50<y.x)∨(-50≤y.x∧y.x≤50∧y.y < -50)∨(-50≤y.x∧y.x≤50∧-50≤y.y∧50<y.y)) ∨
      ((-50≤y.x∧y.x≤50∧-50≤y.y∧y.y≤50)∧(y.slot<0∨(0≤y.slot∧slots≤y.slot)∨(0≤y.slot∧y.slot<slots∧y.ok=false))):=by
     rw[Hn.out]at hn;simp only[inB,qba,decide_eq_true_eq,not_and]at hn
     by_cases a1:y.ok=true
     ·simp only[a1,Bool.true_eq_false,and_false,or_false];simp only[a1,not_true,imp_false]at hn;omega
     ·simp only[Bool.eq_false_iff.2 a1,and_true];omega
    clear hn F0 Hn Y
    have G2:Hid (∀b,y.ok=b→∀W,Calls Tryz.prog 96 #[.agg y.vals.toArray] W fun e w'=>e=.returned (.bool b)∧Ext W w'):=fun b hb W=>by rw[←hb];exact G1.out W
    clear G1;obtain⟨f1,f2,f3,f4,f5,f6,f7,f8,f9⟩:=y
    have c0:w.cell? ⟨b,off+kk*9,none⟩=some (.int .i64 f1):=by have:=h.at_ hy (i:=0) rfl;simpa using this
    have c1:w.cell? ⟨b,off+kk*9+1,none⟩=some (.int .i64 f2):=by have:=h.at_ hy (i:=1) rfl;simpa using this
    have c2:w.cell? ⟨b,off+kk*9+2,none⟩=some (.int .i64 f3):=by have:=h.at_ hy (i:=2) rfl;simpa using this
    have c3:w.cell? ⟨b,off+kk*9+3,none⟩=some (.int .i64 f4):=by have:=h.at_ hy (i:=3) rfl;simpa using this
    have c4:w.cell? ⟨b,off+kk*9+4,none⟩=some (.int .i64 f5):=by have:=h.at_ hy (i:=4) rfl;simpa using this
    have c5:w.cell? ⟨b,off+kk*9+5,none⟩=some (.int .i64 f6):=by have:=h.at_ hy (i:=5) rfl;simpa using this
    have c6:w.cell? ⟨b,off+kk*9+6,none⟩=some (.int .i64 f7):=by have:=h.at_ hy (i:=6) rfl;simpa using this
    have c7:w.cell? ⟨b,off+kk*9+7,none⟩=some (.int .i64 f8):=by have:=h.at_ hy (i:=7) rfl;simpa using this
    have c8:w.cell? ⟨b,off+kk*9+8,none⟩=some (.int .i64 f9):=by have:=h.at_ hy (i:=8) rfl;simpa using this
    clear hy
    simp only at D
    rcases D with (d1|⟨d1,d2⟩|⟨d1,d2,d3⟩|⟨d1,d2,d3,d4⟩)|⟨⟨d1,d2,d3,d4⟩,(d5|⟨d5,d6⟩|⟨d5,d6,d7⟩)⟩
    all_goals
     first
      | (have G3:=Lib.hid (G2.out _ d7);clear d7)
      | skip
     first|(have e0:decide (-50≤f1)=true:=decide_eq_true (by omega))|(have e0:decide (-50≤f1)=false:=decide_eq_false (by omega))|skip
     first|(have e1:decide (f1≤50)=true:=decide_eq_true (by omega))|(have e1:decide (f1≤50)=false:=decide_eq_false (by omega))|skip
     first|(have e2:decide (-50≤f2)=true:=decide_eq_true (by omega))|(have e2:decide (-50≤f2)=false:=decide_eq_false (by omega))|skip
     first|(have e3:decide (f2≤50)=true:=decide_eq_true (by omega))|(have e3:decide (f2≤50)=false:=decide_eq_false (by omega))|skip
     first|(have e4:decide (f3<0)=true:=decide_eq_true (by omega))|(have e4:decide (f3<0)=false:=decide_eq_false (by omega))|skip
     first|(have e5:decide (slots≤f3)=true:=decide_eq_true (by omega))|(have e5:decide (slots≤f3)=false:=decide_eq_false (by omega))|skip
     go_wp2_with fail
     (refine kad (by kernel_rfl) (by kernel_rfl) ?_;(repeat (first|go_big_quiet_step ((go_at_call 96;exact Xt.calls (G3.out _)))|quiet_step ((go_at_call 96;exact Xt.calls (G3.out _)))));refine wpQuiet_nil ?_;rintro _ ⟨xq,rfl⟩;have hx2:=xq.ext;generalize xq.world=w2 at hx2 ⊢)
     go_wp2
     go_ret
     exact⟨retb (by rw[hF.out];simp),xt⟩
  ·have hT:Hid (kew slots flows=true):=kap (fun j hj=>H.out j (by omega))
   have hltz:¬ (kk:Int)<(flows.length:Int):=by omega
   go_wp2
   go_ret
   exact⟨retb (by rw[hT.out];simp[inB];omega),xt⟩
end Go.Proofs.YtcgghcicnanliaaGreatDoor
