/- Walks: chart.isPlace, chart.isLine. Conditions: none. -/
import Derived.Test.YtcgghcicnanliaaGreatDoorM19
import Derived.Deep.RegionWith
set_option linter.unusedVariables false
set_option linter.unusedSimpArgs false
namespace Go.Proofs.YtcgghcicnanliaaGreatDoor
open Go.RowKit
set_option maxHeartbeats 2000000
set_option maxRecDepth 100000
theorem hullErr_one (p:Pt):kaz [p]=if plB p then 0 else 1:=by
 have h:(kdv [p]).length≤64:=by
  have h1:=cpt_len (srt [p])
  simp[srt]at h1
  have:(cpt (srt [p])).length<3:=by simp[srt];omega
  rw[kdv,if_pos this];omega
 simp only[kaz]
 rw[if_neg (by simp),if_neg (by simp)]
 by_cases hp:plB p=true
 ·simp[hp];omega
 ·simp[hp]
theorem kej (p:Pt)(h1:I64 p.1)(h2:I64 p.2)(w:World) :
  Calls Tryz.prog 85 #[.agg #[.int .i64 p.1,.int .i64 p.2]] w fun e w'=>e=.returned (.bool (plB p))∧Ext w w':=by
 have hcon:=fun W=>(hull_158 _ 1 [p] (W.alloc (.cells #[.int .i64 p.1,.int .i64 p.2] 43)) (Sl.new (enc:=encP) (fun _=>rfl) W [p] 43) (fun x hx=>by simp at hx;subst hx;exact⟨h1,h2⟩)).mono fun e w' ⟨v,e1,e2,_⟩=>(⟨v,e1,e2⟩:∃v,e=Ending.returned (.tuple #[v,.int .i64 (kaz [p])])∧Ext _ w')
 have hb:(kaz [p] == 0)=plB p:=by rw[hullErr_one];cases plB p<;>rfl
 have H1:=hcon (w.alloc (.cells #[.int .i64 p.1,.int .i64 p.2] 43));simp only[qsa]at H1;have H:=Lib.hid H1;have hB:=Lib.hid hb;clear hcon hb h1 h2 H1;generalize kaz [p]=r at H hB
 go_enter Tryz.func85,Tryz.ntmps85
 go_wp2_with (go_at_call 158;refine H.out.mono ?_;rintro e w' ⟨v,rfl,hx⟩)
 go_ret
 exact⟨retb (by rw[←hB.out]),((Ext.refl w).alloc _ |>.alloc _).trans hx⟩
theorem isLine1_161 (p:Pt)(h1:I64 p.1)(h2:I64 p.2)(w:World) :
  Calls Tryz.prog 161 #[.agg #[.int .i64 p.1,.int .i64 p.2]] w fun e w'=>e=.returned (.bool (!plB p))∧Ext w w':=by
 go_enter Tryz.func161,Tryz.ntmps161
 go_wp2_with (go_at_call 85;refine(kej _ h1 h2 _).mono ?_;rintro e w' ⟨rfl,hb⟩)
 all_goals (go_ret;exact⟨rfl,xt⟩)
structure LineT where
 id:Int
 A:Option Addr
 c:Nat
 pts:List Pt
def kbp (l:LineT):List Value:=[.int .i64 l.id,.slice l.A l.pts.length l.c]
def kbw (l:LineT):Bool:=inB l.id 1 1000000&&decide (2≤l.pts.length)&&decide (l.pts.length≤64)&&!(l.pts.any fun x=>!plB x)&&decide ((cpt l.pts).length=l.pts.length)
theorem eg_161:∀args w,(callFunc 161 args).run Tryz.prog w=.ok (.enter 161 args) w:=enters_of Tryz.func161 (by kernel_rfl) rfl
theorem isLine_93 (l:LineT)(w:World)(hS:Sl encP 2 w l.A l.pts)(hI:∀x∈l.pts,I64 x.1∧I64 x.2) :
  Calls Tryz.prog 93 #[.agg (kbp l).toArray] w fun e w'=>e=.returned (.bool (kbw l))∧Ext w w':=by
 obtain⟨id,A,c,pts⟩:=l;simp only[kbp,kbw]at hS hI ⊢
 by_cases h1:2≤pts.length
 rotate_left
 ·have h1z:(pts.length:Int)<2:=by omega
  have hd:decide (2≤pts.length)=false:=decide_eq_false h1
  go_enter Tryz.func93,Tryz.ntmps93
  go_wp2_with (go_at_call 84;refine(kgz _ _).mono ?_;rintro e w' ⟨rfl,rfl⟩)
  all_goals (go_ret;exact⟨retb (by rw[hd];simp),xt⟩)
 by_cases h2:pts.length≤64
 rotate_left
 ·have h2z:64<(pts.length:Int):=by omega
  have h1z:¬ (pts.length:Int)<2:=by omega
  have hd:decide (pts.length≤64)=false:=decide_eq_false h2
  go_enter Tryz.func93,Tryz.ntmps93
  go_wp2_with (go_at_call 84;refine(kgz _ _).mono ?_;rintro e w' ⟨rfl,rfl⟩)
  all_goals (go_ret;exact⟨retb (by rw[hd];simp),xt⟩)
 have h1z:¬ (pts.length:Int)<2:=by omega
 have h2z:¬ 64<(pts.length:Int):=by omega
 have hd1:decide (2≤pts.length)=true:=decide_eq_true h1
 have hd2:decide (pts.length≤64)=true:=decide_eq_true h2
 have hH:=fun W hx=>kgo 161 #[] eg_161 (fun x=>!plB x) A c pts W (by omega) (hS.ext (w':=W) hx) (fun W' x hx' _=>by simpa[encP]using isLine1_161 x (hI x hx').1 (hI x hx').2 W')
 have hC:=fun W hx=>khf A c pts W (hS.ext (w':=W) hx) (by omega) (by omega)
 rw[hd1,hd2];clear hd1 hd2 hI
 generalize (pts.any fun x=>!plB x)=any at hH ⊢
 have H:=Lib.hid hH;have HC:=Lib.hid hC;clear hH hC
 cases any with
 | true=>
  go_enter Tryz.func93,Tryz.ntmps93
  go_wp2_with (go_at_call 84;refine(kgz _ _).mono ?_;rintro e w' ⟨rfl,rfl⟩)
  ·(refine kad (by kernel_rfl) (by kernel_rfl) ?_;(repeat (first|go_big_quiet_step ((go_at_call 160;exact Xt.calls (H.out _ (((Ext.refl w).alloc _).trans (Xt.ext _)))))|quiet_step ((go_at_call 160;exact Xt.calls (H.out _ (((Ext.refl w).alloc _).trans (Xt.ext _)))))));refine wpQuiet_nil ?_;rintro _ ⟨xq,rfl⟩;have hx2:=xq.ext;generalize xq.world=w2 at hx2 ⊢)
   go_wp2
   go_ret
   exact⟨retb (by simp),((Ext.refl w).alloc _).trans hx2⟩
  ·go_ret
   exact⟨retb (by simp_all),xt⟩
 | false=>
  go_enter Tryz.func93,Tryz.ntmps93
  go_wp2_with (go_at_call 84;refine(kgz _ _).mono ?_;rintro e w' ⟨rfl,rfl⟩)
  ·go_region_with (first
    | (go_at_call 160;refine(H.out _ xt).mono ?_;rintro e w' ⟨rfl,hb⟩;obtain⟨hc,hf,hz⟩:=hb.rules;(try simp only[qsa]at hz);have hz0:w.heap.size<w'.heap.size:=by simp at hz;omega)
    | (go_at_call 156;refine(HC.out _ xt).mono ?_;rintro e w3 ⟨g,cap,rfl,hP,hb3⟩;obtain⟨hc3,hf3,hz3⟩:=hb3.rules;have hz4:w.heap.size<w3.heap.size:=by omega)
    | (go_at_call 162;refine(koe hP (by omega)).mono ?_;rintro e w4 ⟨rfl,hP4,hB4⟩;have hc4:∀k o,k<w'.heap.size→w4.cell? ⟨k,o,none⟩=w3.cell? ⟨k,o,none⟩:=fun k o hk=>hB4.cell (p:=⟨k,o,none⟩) hk))
   all_goals
    go_wp2
    go_ret
    have hXX:Ext w w3:=xt
    refine⟨retb ?_,Below.trans hXX (Below.mono hB4 (by omega))⟩
    have hin:inB id 1 1000000=true:=by assumption
    rw[hin,Bool.eq_iff_iff]
    simp[Int.natCast_inj]
  ·go_ret
   exact⟨retb (by simp_all),xt⟩
end Go.Proofs.YtcgghcicnanliaaGreatDoor
