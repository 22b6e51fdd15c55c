/- Functions of the program as plain Lean functions, each with a proof that the program's call comes to the same; no condition. Written by a program of this session. -/
import Derived.Test.YthleflpkeigboaaPFnPoolx0
import Derived.Test.YthleflpkeigboaaPFnPoolx1
namespace Go.Proofs.Ythleflpkeigboaa.PFnPool
open Go.RowKit Go.Proofs.YthleflpkeigboaaW.PrintWords Go.Proofs.YthleflpkeigboaaW.PrintLast Go.Proofs.YthleflpkeigboaaW.PrintMore
open Go.Proofs.YthleflpkeigboaaW.PrintWords renaming below_alloc→Zba,pw_below_drewN→Zbn,below_drew1→Zbd,below_set→Zbs,below_size→Zbz,below_step→Zbt,blk_drewN→Zkn,blk_drew→Zkd,blk_alloc→Zka,blk_frozen→Zkf,blk_put→Zkp
open Go.Proofs.YthleflpkeigboaaW.PrintWords.Aside0 renaming mk→Zm
attribute [local go_sem] max2_int min2_int max_two min_two max_three min_three max_four min_four   -- for this text's walks alone
set_option maxHeartbeats 8000000
set_option maxRecDepth 100000
set_option linter.unusedVariables false
set_option linter.unusedSimpArgs false
mutual
def spec_l02Type.j0:Nat→ByteArray→Int→Bool→Option (Int×Bool)
 | 0,_,_,_=>none
 | k+1,x0,x1,x22=>if x22=true then ((spec_l02Type.f k x0 (wrap64 (x1+1)) true).bind fun bt104=>(some (bt104.1,bt104.2))) else (if 0≤x1 then (if x1 < (x0.size:Int) then (if (bt x0 x1)=76 then (spec_l02Type.l0 k x0 (wrap64 (x1+1)) (wrap64 (x1+1))) else (some (x1,false))) else (none)) else (none))
def spec_l02Type.l0:Nat→ByteArray→Int→Int→Option (Int×Bool)
 | 0,_,_,_=>none
 | k+1,x0,x8,x9=>if x9 < (x0.size:Int) then (if (wrap64 (x9 - x8)) < 20 then (if 0≤x9 then ((spec_l01NameByte.f (bt x0 x9) (x9 == x8)).bind fun t106=>(if t106=true then (spec_l02Type.l0 k x0 x8 (wrap64 (x9+1))) else (if x9=(x0.size:Int) then (some (x9,false)) else (if (bt x0 x9)=59 then (if x9=x8 then (some (x9,false)) else (some (wrap64 (x9+1),true))) else (some (x9,false)))))) else (none)) else (if x9=(x0.size:Int) then (some (x9,false)) else (if 0≤x9 then (if (bt x0 x9)=59 then (if x9=x8 then (some (x9,false)) else (some (wrap64 (x9+1),true))) else (some (x9,false))) else (none)))) else (if x9=(x0.size:Int) then (some (x9,false)) else (if 0≤x9 then (none) else (none)))
def spec_l02Type.f:Nat→ByteArray→Int→Bool→Option (Int×Bool)
 | 0,_,_,_=>none
 | k+1,a0,a1,a2=>if a1 ≥ (a0.size:Int) then (some (a1,false)) else (if 0≤a1 then (if a1 < (a0.size:Int) then (if (bt a0 a1)=73 then (some (wrap64 (a1+1),true)) else (if (bt a0 a1)=91 then (spec_l02Type.j0 k a0 a1 (!a2)) else (spec_l02Type.j0 k a0 a1 false))) else (none)) else (none))
end
theorem spec_l02Type.mono_l:∀ k,(∀ y0 y1 y2,LeO (spec_l02Type.f k y0 y1 y2) (spec_l02Type.f (k+1) y0 y1 y2))∧(∀ y0 y1 y2,LeO (spec_l02Type.j0 k y0 y1 y2) (spec_l02Type.j0 (k+1) y0 y1 y2))∧(∀ y0 y1 y2,LeO (spec_l02Type.l0 k y0 y1 y2) (spec_l02Type.l0 (k+1) y0 y1 y2))
 | 0=>by refine ⟨?_,?_,?_⟩ <;> (intros;intro r h;simp [spec_l02Type.f,spec_l02Type.j0,spec_l02Type.l0] at h)
 | k+1=>by
  obtain ⟨ih0,ih1,ih2⟩:=spec_l02Type.mono_l k;refine ⟨?_,?_,?_⟩ <;> (intros;(first|unfold spec_l02Type.f|unfold spec_l02Type.j0|unfold spec_l02Type.l0)) <;> exact mo_
theorem spec_l02Type.mono:∀ a0 a1 a2 k,LeO (spec_l02Type.f k a0 a1 a2) (spec_l02Type.f (k+1) a0 a1 a2):=by
 intro a0 a1 a2 k;obtain ⟨ih0,ih1,ih2⟩:=spec_l02Type.mono_l k;exact ih0 a0 a1 a2
theorem spec_l02Type.calls (k:Nat):∀ (a0:ByteArray) (a1:Int) (a2:Bool) (r1:Int) (r2:Bool) (w:World) (h:spec_l02Type.f k a0 a1 a2=some (r1,r2)),
 Calls Try.prog 34 #[.string a0,.int .i64 a1,.bool a2] w fun e w'=>e=.returned (.tuple #[.int .i64 r1,.bool r2])∧Drawn0 w w':=by
 induction k using Nat.strongRecOn with
 | _ k ih=>
 intro a0 a1 a2 r1 r2 w h
 cases k with
 | zero=>exact absurd h (by simp [spec_l02Type.f])
 | succ k=>
 simp only [spec_l02Type.f] at h;have H:(if a1 ≥ (a0.size:Int) then (some (a1,false)) else (if 0≤a1 then (if a1 < (a0.size:Int) then (if (bt a0 a1)=73 then (some (wrap64 (a1+1),true)) else (if (bt a0 a1)=91 then (spec_l02Type.j0 k a0 a1 (!a2)) else (spec_l02Type.j0 k a0 a1 false))) else (none)) else (none)))=some (r1,r2):=h;clear h;replace H:=sp_ H;rcases H with ⟨c4,H⟩|⟨c4,H⟩
 · have c4b0:decide ((a0.size:Int)≤a1)=false:=decide_eq_false c4;clear c4;replace H:=snd_ H;obtain ⟨c5b0,H⟩:=H;replace H:=snd_ H;obtain ⟨c6b0,H⟩:=H;replace H:=se_ H;rcases H with ⟨c8,c8b0,c8b1,H⟩|⟨c8,c8b0,c8b1,H⟩
   · have HC9:=Zm H;clear H;have p7:0≤(a1:Int):=da_;have q7:a1 < (a0.size:Int):=da_;have hx7:=bt_at a0 a1;replace p7:=eq_true p7;replace q7:=eq_true q7;go_enter Try.func34,Try.ntmps34;go_upto_region 5 with (fail);go_cut [22] (fun v22 wc=>∃ (kq:Nat) (x22_8:Bool),v22=.bool x22_8∧Aside0 (spec_l02Type.j0 kq a0 a1 x22_8=some (r1,r2))∧Aside0 (kq≤k)∧Drawn0 w wc)
     case first=>
      have H:=HC9.out;clear HC9;replace H:=se_ H;rcases H with ⟨c11,c11b0,c11b1,H⟩|⟨c11,c11b0,c11b1,H⟩
      · (first|rw [c11b0]|(simp only [i64_w,i32_w];rw [c11b0])|skip);have H':=Zm H;clear H;have p10:0≤(a1:Int):=da_;have q10:a1 < (a0.size:Int):=da_;have hx10:=bt_at a0 a1;replace p10:=eq_true p10;replace q10:=eq_true q10;go_wp2;go_meet
        case rel=>exact ⟨_,(false),s1_,H',⟨o1_⟩,dn_⟩
      clear c11;(first|rw [c11b0]|(simp only [i64_w,i32_w];rw [c11b0])|skip);have H':=Zm H;clear H;have p10:0≤(a1:Int):=da_;have q10:a1 < (a0.size:Int):=da_;have hx10:=bt_at a0 a1;replace p10:=eq_true p10;replace q10:=eq_true q10;go_wp2;go_meet
      case rel=>exact ⟨_,(!a2),s1_,H',⟨o1_⟩,dn_⟩
     case rest=>
      clear HC9;(try clear c4);(try clear c4b0);(try clear c5);(try clear c5b0);(try clear c6);(try clear c6b0);(try clear p7);(try clear q7);(try clear hx7);(try clear c8);(try clear c8b0);(try clear c8b1);(try clear p7);(try clear q7);obtain ⟨kq,x22_8,rfl,HA,HJ8,⟨mc8,rfl⟩⟩:=hcut
      cases kq with
      | zero=>exact absurd HA.out (by simp [spec_l02Type.j0])
      | succ kj8=>
       have H:=HA.out;clear HA;simp only [spec_l02Type.j0] at H;replace H:=sb_ H;rcases H with ⟨rfl,H⟩|⟨rfl,H⟩
       · replace H:=snd_ H;obtain ⟨c14b0,H⟩:=H;replace H:=snd_ H;obtain ⟨c15b0,H⟩:=H;replace H:=se_ H;rcases H with ⟨c17,c17b0,c17b1,H⟩|⟨c17,c17b0,c17b1,H⟩
         · simp only [Option.some.injEq,Prod.mk.injEq] at H;obtain ⟨rfl,rfl⟩:=H;have p16:0≤(a1:Int):=da_;have q16:a1 < (a0.size:Int):=da_;have hx16:=bt_at a0 a1;replace p16:=eq_true p16;replace q16:=eq_true q16;go_wp2;go_ret2;exact fd_
         clear c17;have H':=Zm H;clear H;have p16:0≤(a1:Int):=da_;have q16:a1 < (a0.size:Int):=da_;have hx16:=bt_at a0 a1;replace p16:=eq_true p16;replace q16:=eq_true q16;go_wp2;go_loopg [9] kj8 (fun kq v9 w'=>∃ (x9_2:Int),v9=.int .i64 x9_2∧Aside0 (spec_l02Type.l0 kq a0 (wrap64 (a1+1)) x9_2=some (r1,r2))∧Aside0 (kq≤kj8)∧Drawn0 w w')
         case atStart=>exact ⟨(wrap64 (a1+1)),s1_,H',⟨Nat.le_refl _⟩,dn_⟩
         case round=>
          clear H';(try clear c4);(try clear c4b0);(try clear c5);(try clear c5b0);(try clear c6);(try clear c6b0);(try clear p7);(try clear q7);(try clear hx7);(try clear c8);(try clear c8b0);(try clear c8b1);(try clear c12);(try clear c14);(try clear c14b0);(try clear c15);(try clear c15b0);(try clear p16);(try clear q16);(try clear hx16);(try clear c17);(try clear c17b0);(try clear c17b1);(try clear p16);(try clear p7);(try clear q16);(try clear q7);obtain ⟨x9_2,rfl,HA,HK2,⟨m2,rfl⟩⟩:=hrel
          cases gk with
          | zero=>exact absurd HA.out (by simp [spec_l02Type.l0])
          | succ k2=>
           have H:=HA.out;clear HA;simp only [spec_l02Type.l0] at H;replace H:=sd_ H;rcases H with ⟨c18b0,H⟩|⟨c18b0,H⟩
           · replace H:=se_ H;rcases H with ⟨c34,c34b0,c34b1,H⟩|⟨c34,c34b0,c34b1,H⟩
             · replace H:=sn_ H;obtain ⟨c35,H⟩:=H;exact absurd H (by simp)
             clear c34;simp only [Option.some.injEq,Prod.mk.injEq] at H;obtain ⟨rfl,rfl⟩:=H;go_wp2;go_ret2;exact fd_
           replace H:=sp_ H;rcases H with ⟨c19,H⟩|⟨c19,H⟩
           · have c19b0:=decide_eq_false c19;(try (have c19b1:decide ((IntKind.i64.wrap (x9_2 - (IntKind.i64.wrap (a1+1)))) < 20)=false:=by simp only [i64_w];exact (decide_eq_false c19)));clear c19;replace H:=se_ H;rcases H with ⟨c29,c29b0,c29b1,H⟩|⟨c29,c29b0,c29b1,H⟩
             · replace H:=snd_ H;obtain ⟨c30b0,H⟩:=H;replace H:=se_ H;rcases H with ⟨c32,c32b0,c32b1,H⟩|⟨c32,c32b0,c32b1,H⟩
               · simp only [Option.some.injEq,Prod.mk.injEq] at H;obtain ⟨rfl,rfl⟩:=H;have p31:0≤(x9_2:Int):=da_;have q31:x9_2 < (a0.size:Int):=da_;have hx31:=bt_at a0 x9_2;replace p31:=eq_true p31;replace q31:=eq_true q31;go_wp2;go_ret2;exact fd_
               clear c32;replace H:=se_ H;rcases H with ⟨c33,c33b0,c33b1,H⟩|⟨c33,c33b0,c33b1,H⟩
               · (try (have c33b2:(x9_2 == (IntKind.i64.wrap (a1+1)))=false:=by simp only [i64_w];exact (beq_eq_false_iff_ne.mpr c33)));(try (have c33b3:(x9_2 != (IntKind.i64.wrap (a1+1)))=true:=by simp only [i64_w];exact (bne_iff_ne.mpr c33)));simp only [Option.some.injEq,Prod.mk.injEq] at H;obtain ⟨rfl,rfl⟩:=H;have p31:0≤(x9_2:Int):=da_;have q31:x9_2 < (a0.size:Int):=da_;have hx31:=bt_at a0 x9_2;replace p31:=eq_true p31;replace q31:=eq_true q31;go_wp2;go_ret2;exact fd_
               (try (have c33b2:(x9_2 == (IntKind.i64.wrap (a1+1)))=true:=by simp only [i64_w];exact (beq_iff_eq.mpr c33)));(try (have c33b3:(x9_2 != (IntKind.i64.wrap (a1+1)))=false:=by simp only [i64_w];exact (bne_eq_false_iff_eq.mpr c33)));clear c33;simp only [Option.some.injEq,Prod.mk.injEq] at H;obtain ⟨rfl,rfl⟩:=H;have p31:0≤(x9_2:Int):=da_;have q31:x9_2 < (a0.size:Int):=da_;have hx31:=bt_at a0 x9_2;replace p31:=eq_true p31;replace q31:=eq_true q31;go_wp2;go_ret2;exact fd_
             clear c29;simp only [Option.some.injEq,Prod.mk.injEq] at H;obtain ⟨rfl,rfl⟩:=H;go_wp2;go_ret2;exact fd_
           have c19b0:=decide_eq_true c19;(try (have c19b1:decide ((IntKind.i64.wrap (x9_2 - (IntKind.i64.wrap (a1+1)))) < 20)=true:=by simp only [i64_w];exact (decide_eq_true c19)));clear c19;replace H:=snd_ H;obtain ⟨c20b0,H⟩:=H;replace H:=sq_ H;obtain ⟨t106,A22,H⟩:=H;(try dsimp only at H);have HC23:=Zm H;clear H;have p21:0≤(x9_2:Int):=da_;have q21:x9_2 < (a0.size:Int):=da_;have hx21:=bt_at a0 x9_2;replace p21:=eq_true p21;replace q21:=eq_true q21;go_upto_if 63 with (first|(go_at_call 33;refine ca_ (spec_l01NameByte.calls _ _ _ _ A22.out) ?_;rintro e w' ⟨rfl,⟨nd,rfl⟩⟩));have H:=HC23.out;clear HC23;replace H:=sb_ H;rcases H with ⟨rfl,H⟩|⟨rfl,H⟩
           · replace H:=se_ H;rcases H with ⟨c25,c25b0,c25b1,H⟩|⟨c25,c25b0,c25b1,H⟩
             · (first|rw [c25b0]|(simp only [i64_w,i32_w];rw [c25b0])|skip);replace H:=se_ H;rcases H with ⟨c27,c27b0,c27b1,H⟩|⟨c27,c27b0,c27b1,H⟩
               · simp only [Option.some.injEq,Prod.mk.injEq] at H;obtain ⟨rfl,rfl⟩:=H;have p26:0≤(x9_2:Int):=da_;have q26:x9_2 < (a0.size:Int):=da_;have hx26:=bt_at a0 x9_2;replace p26:=eq_true p26;replace q26:=eq_true q26;go_wp2;go_ret2;exact fd_
               clear c27;replace H:=se_ H;rcases H with ⟨c28,c28b0,c28b1,H⟩|⟨c28,c28b0,c28b1,H⟩
               · (try (have c28b2:(x9_2 == (IntKind.i64.wrap (a1+1)))=false:=by simp only [i64_w];exact (beq_eq_false_iff_ne.mpr c28)));(try (have c28b3:(x9_2 != (IntKind.i64.wrap (a1+1)))=true:=by simp only [i64_w];exact (bne_iff_ne.mpr c28)));simp only [Option.some.injEq,Prod.mk.injEq] at H;obtain ⟨rfl,rfl⟩:=H;have p26:0≤(x9_2:Int):=da_;have q26:x9_2 < (a0.size:Int):=da_;have hx26:=bt_at a0 x9_2;replace p26:=eq_true p26;replace q26:=eq_true q26;go_wp2;go_ret2;exact fd_
               (try (have c28b2:(x9_2 == (IntKind.i64.wrap (a1+1)))=true:=by simp only [i64_w];exact (beq_iff_eq.mpr c28)));(try (have c28b3:(x9_2 != (IntKind.i64.wrap (a1+1)))=false:=by simp only [i64_w];exact (bne_eq_false_iff_eq.mpr c28)));clear c28;simp only [Option.some.injEq,Prod.mk.injEq] at H;obtain ⟨rfl,rfl⟩:=H;have p26:0≤(x9_2:Int):=da_;have q26:x9_2 < (a0.size:Int):=da_;have hx26:=bt_at a0 x9_2;replace p26:=eq_true p26;replace q26:=eq_true q26;go_wp2;go_ret2;exact fd_
             clear c25;(first|rw [c25b0]|(simp only [i64_w,i32_w];rw [c25b0])|skip);simp only [Option.some.injEq,Prod.mk.injEq] at H;obtain ⟨rfl,rfl⟩:=H;go_wp2;go_ret2;exact fd_
           have H':=Zm H;clear H;go_wp2;go_roundg k2
           case measure=>have:=HJ8.out;have:=HK2.out;omega
           case rel=>exact ⟨(wrap64 (x9_2+1)),s1_,H',⟨by have:=HJ8.out;have:=HK2.out;omega⟩,dn_⟩
       replace H:=sq_ H;obtain ⟨⟨t104,t105⟩,A13,H⟩:=H;(try dsimp only at H);simp only [Option.some.injEq,Prod.mk.injEq] at H;obtain ⟨rfl,rfl⟩:=H;go_wp2_with (first|((with_reducible refine gate_callee (f:=34) rfl ?_);refine ge_ (some 34) Try.func34 #[.string a0,.int .i64 (wrap64 (a1+1)),.bool true] ?_;(with_reducible refine (ih kj8 (by have:=HJ8.out;omega) a0 (wrap64 (a1+1)) true t104 t105 _ A13.out).mono ?_);rintro e w' ⟨rfl,⟨nd,rfl⟩⟩;refine ⟨_,rfl,?_⟩));go_ret2;exact fd_
   clear c8;simp only [Option.some.injEq,Prod.mk.injEq] at H;obtain ⟨rfl,rfl⟩:=H;have p7:0≤(a1:Int):=da_;have q7:a1 < (a0.size:Int):=da_;have hx7:=bt_at a0 a1;replace p7:=eq_true p7;replace q7:=eq_true q7;go_enter Try.func34,Try.ntmps34;go_wp2;go_ret2;exact fd_
 have c4b0:decide ((a0.size:Int)≤a1)=true:=decide_eq_true c4;clear c4;simp only [Option.some.injEq,Prod.mk.injEq] at H;obtain ⟨rfl,rfl⟩:=H;go_enter Try.func34,Try.ntmps34;go_wp2;go_ret2;exact fd_
def spec_l02Wrong.f (a0:Int):Option (List ByteArray×ByteArray×Int×Int):=some (([]:List ByteArray),(⟨#[]⟩:ByteArray),a0,3)
theorem spec_l02Wrong.calls (a0:Int) (r1:List ByteArray) (r2:ByteArray) (r3:Int) (r4:Int) (w:World) (h:spec_l02Wrong.f a0=some (r1,r2,r3,r4)):
 Calls Try.prog 58 #[.int .i64 a0] w fun e w'=>∃ v0_:Value,e=.returned (.agg #[v0_,.string r2,.int .i64 r3,.int .i64 r4])∧Kd.R Kd.string 9 w' w.heap.size (fun _=>True) v0_ r1∧Below w.heap.size w w':=by
 have hu73:=Try.underlying73;have HB:=Zm (Below.refl w.heap.size w);have H:=h;clear h;unfold spec_l02Wrong.f at H;simp only [Option.some.injEq,Prod.mk.injEq] at H;obtain ⟨rfl,rfl,rfl,rfl⟩:=H;go_enter Try.func58,Try.ntmps58;go_wp2_with (first|((with_reducible refine gate_dst (N:=2) rfl ?_);refine bx_ 2 73 #[.slice none 0 0,.string (⟨#[]⟩:ByteArray),.int .i64 0,.int .i64 0] ?_;intro gb107 hg w2 hbox hb;have BK107:=Zm hbox;have GW107:=bz HB hg;have GE107:=bz HB hg;replace HB:=bt_ HB hb;clear hb hbox hg;have hcz3:=cf4 BK107.out));refine bodyPost_ret (results_cell_row rfl _ _ gb107 73 #[.slice none 0 0,.string (⟨#[]⟩:ByteArray),.int .i64 a0,.int .i64 3] (0,0) _ rfl zc_ Try.underlying73 rfl (by kernel_rfl)) rfl ?_;exact ⟨_,s2_,by first|exact Kd.R_nil _ _ _ _ _|exact Kd.N_nil _ _ _ _ _|exact Kd.V_nil _ _ _ _ _|exact Kd.Q_nil _ _ _ _ _|exact Kd.S_nil _ _ _ _ _,hb_⟩
end Go.Proofs.Ythleflpkeigboaa.PFnPool
