/- Functions of the program as plain Lean functions, each with a proof that the program's call comes to the same; no condition. Written by a program of this session. -/
import Derived.Test.YtljeeiijepoenaaGreatPFnExactPoolOfx0
import Derived.Test.YtljeeiijepoenaaGreatPFnExactPoolOfx5
namespace Go.Proofs.YtljeeiijepoenaaGreat.PFnExactPoolOf
open Go.RowKit Go.Proofs.YtljeeiijepoenaaGreatW.PrintWords Go.Proofs.YtljeeiijepoenaaGreatW.PrintLast Go.Proofs.YtljeeiijepoenaaGreatW.PrintMore
open Go.Proofs.YtljeeiijepoenaaGreatW.PrintWords renaming below_alloc→Zba,pw_below_drewN→Zbn,below_drew1→Zbd,below_set→Zbs,below_size→Zbz,below_step→Zbt,blk_drewN→Zkn,blk_drew→Zkd,blk_alloc→Zka,blk_frozen→Zkf,blk_put→Zkp
open Go.Proofs.YtljeeiijepoenaaGreatW.PrintWords.Aside0 renaming mk→Zm
attribute [local go_sem] max2_int min2_int max_two min_two max_three min_three max_four min_four   -- for this text's walks alone
set_option maxHeartbeats 8000000
set_option maxRecDepth 100000
set_option linter.unusedVariables false
set_option linter.unusedSimpArgs false
def spec_OpForm.j0:Nat→Int→List ByteArray→Bool→Option (ByteArray)
 | 0,_,_,_=>none
 | k+1,x0,x3,x13=>if x13=true then (some (⟨#[33]⟩:ByteArray)) else (if 0≤x0 then (if x0 < (x3.length:Int) then ((spec_l01Split.f k (rdOf ByteArray.empty x3 x0) 32).bind fun t233=>(if (t233.length:Int)=2 then (if 1 < (t233.length:Int) then (some (rdOf ByteArray.empty t233 1)) else (none)) else (some (⟨#[]⟩:ByteArray)))) else (none)) else (none))
def spec_OpForm.f (k:Nat) (a0:Int):Option (ByteArray):=(spec_l03Ops.f).bind fun t229=>(if a0 < 1 then (spec_OpForm.j0 k a0 t229 true) else (spec_OpForm.j0 k a0 t229 (decide (a0 ≥ (t229.length:Int)))))
theorem spec_OpForm.mono_l:∀ k,(∀ y0 y1 y2,LeO (spec_OpForm.j0 k y0 y1 y2) (spec_OpForm.j0 (k+1) y0 y1 y2))
 | 0=>by intros;intro r h;simp [spec_OpForm.j0] at h
 | k+1=>by
  have ih0:=spec_OpForm.mono_l k;have m0:=@spec_l01Split.mono;intros;unfold spec_OpForm.j0;exact mo_
theorem spec_OpForm.mono:∀ a0 k,LeO (spec_OpForm.f k a0) (spec_OpForm.f (k+1) a0):=by
 intro a0 k;have ih0:=spec_OpForm.mono_l k;unfold spec_OpForm.f;have m0:=@spec_l01Split.mono;exact mo_
theorem spec_OpForm.calls (k:Nat) (a0:Int) (r:ByteArray) (w:World) (h:spec_OpForm.f k a0=some r):
 Calls Tryz.prog 97 #[.int .i64 a0] w fun e w'=>e=.returned (.string r)∧Below w.heap.size w w':=by
 have HB:=Zm (Below.refl w.heap.size w);have H:=h;clear h;unfold spec_OpForm.f at H;replace H:=sq_ H;obtain ⟨t229,A2,H⟩:=H;have HC3:=Zm H;clear H;go_enter Tryz.func97,Tryz.ntmps97;go_upto_region 2 with (first|((with_reducible refine gate_callee (f:=140) rfl ?_);refine ge_ (some 5) Tryz.func140 #[] ?_;(with_reducible refine (spec_l03Ops.calls _ _ A2.out).mono ?_);rintro e w4 ⟨v230,rfl,ho0,hb⟩;refine ⟨_,rfl,?_⟩;have HO231:=Zm (Kd.R_lower ho0 (Zbz (bk HB.out)));replace HB:=bt_ HB hb;clear hb ho0));(try simp only [Act.put,List.setIfInBounds_toArray,List.set_cons_zero,List.set_cons_succ]);go_cut [13] (fun v13 wc=>∃ (kq:Nat) (x13_2:Bool),v13=.bool x13_2∧Aside0 (spec_OpForm.j0 kq a0 t229 x13_2=some r)∧Aside0 (kq≤k)∧Aside0 (Kd.R Kd.string 9 wc w.heap.size (fun _=>True) v230 t229)∧Aside0 (Below w.heap.size w wc))
 case first=>
  have H:=HC3.out;clear HC3;replace H:=sd_ H;rcases H with ⟨c5b0,H⟩|⟨c5b0,H⟩
  · (first|rw [c5b0]|(simp only [i64_w,i32_w];rw [c5b0])|skip);have H':=Zm H;clear H;obtain ⟨Ao6,co6,eo6⟩:=Kd.R_slice HO231.out;subst eo6;go_wp2;go_meet
    case rel=>exact ⟨_,(decide (a0 ≥ (t229.length:Int))),s1_,H',⟨o1_⟩,⟨pr HO231.out⟩,⟨bk HB.out⟩⟩
  (first|rw [c5b0]|(simp only [i64_w,i32_w];rw [c5b0])|skip);have H':=Zm H;clear H;go_wp2;go_meet
  case rel=>exact ⟨_,(true),s1_,H',⟨o1_⟩,⟨pr HO231.out⟩,⟨bk HB.out⟩⟩
 case rest=>
  clear HC3;obtain ⟨kq,x13_2,rfl,HA,HJ2,HO_3,HB⟩:=hcut
  cases kq with
  | zero=>exact absurd HA.out (by simp [spec_OpForm.j0])
  | succ kj2=>
   have H:=HA.out;clear HA;simp only [spec_OpForm.j0] at H;replace H:=sb_ H;rcases H with ⟨rfl,H⟩|⟨rfl,H⟩
   · replace H:=snd_ H;obtain ⟨c8b0,H⟩:=H;replace H:=snd_ H;obtain ⟨c9b0,H⟩:=H;replace H:=sq_ H;obtain ⟨t233,A10,H⟩:=H;have HC11:=Zm H;clear H;obtain ⟨Ao12,co12,eo12⟩:=Kd.R_slice HO_3.out;subst eo12;have p232:0≤(a0:Int):=da_;have q232:a0 < (t229.length:Int):=da_;obtain ⟨ad232,e232,hx232_0⟩:=Kd.at_string (Kd.R_reads' HO_3.out).2.2 a0 p232 q232;cases e232;replace p232:=eq_true p232;replace q232:=eq_true q232;(try clear HO_3);go_upto_if 21 with (first|((with_reducible refine gate_callee (f:=141) rfl ?_);refine ge_ (some 18) Tryz.func141 #[.string (rdOf ByteArray.empty t229 a0),.int .u8 32] ?_;(with_reducible refine (spec_l01Split.calls _ _ _ _ _ A10.out).mono ?_);rintro e w13 ⟨v234,rfl,ho0,hb⟩;refine ⟨_,rfl,?_⟩;have HO235:=Zm (Kd.R_lower ho0 (Zbz (bk HB.out)));replace HB:=bt_ HB hb;clear hb ho0;obtain ⟨Ao14,co14,eo14⟩:=Kd.R_slice HO235.out;subst eo14));have H:=HC11.out;clear HC11;replace H:=se_ H;rcases H with ⟨c15,c15b0,c15b1,H⟩|⟨c15,c15b0,c15b1,H⟩
     · (first|rw [c15b0]|(simp only [i64_w,i32_w];rw [c15b0])|rw [c15b1]|skip);obtain rfl:=Option.some.inj H;go_wp2;go_ret;exact fin_ HB
     clear c15;(first|rw [c15b0]|(simp only [i64_w,i32_w];rw [c15b0])|rw [c15b1]|skip);replace H:=sn_ H;obtain ⟨c16,H⟩:=H;have c16b0:=decide_eq_true c16;have c16b1:decide (1 < t233.length)=true:=decide_eq_true (by omega);clear c16;obtain rfl:=Option.some.inj H;have p236:0≤(1:Int):=(by omega);have q236:1 < (t233.length:Int):=da_;obtain ⟨ad236,e236,hx236_0⟩:=Kd.at_string (Kd.R_reads' HO235.out).2.2 1 p236 q236;cases e236;(try simp only [show (1:Int).toNat=1 from rfl,Nat.reduceMul,Nat.reduceEqDiff,Go.Addr.add,↓reduceIte] at hx236_0);have qi236:(1 < t233.length)=True:=eq_true (by omega);(try rw [show ((1:Int)).toNat=1 from rfl] at hx236_0);replace p236:=eq_true p236;replace q236:=eq_true q236;go_wp2;go_ret;exact fin_ HB
   obtain rfl:=Option.some.inj H;go_wp2;go_ret;exact fin_ HB
mutual
def spec_l02Type.j0:Nat→ByteArray→Int→Bool→Option (Int×Bool)
 | 0,_,_,_=>none
 | k+1,x0,x1,x22=>if x22=true then ((spec_l02Type.f k x0 (wrap64 (x1+1)) true).bind fun bt237=>(some (bt237.1,bt237.2))) else (if 0≤x1 then (if x1 < (x0.size:Int) then (if (bt x0 x1)=76 then (spec_l02Type.l0 k x0 (wrap64 (x1+1)) (wrap64 (x1+1))) else (some (x1,false))) else (none)) else (none))
def spec_l02Type.l0:Nat→ByteArray→Int→Int→Option (Int×Bool)
 | 0,_,_,_=>none
 | k+1,x0,x8,x9=>if x9 < (x0.size:Int) then (if (wrap64 (x9 - x8)) < 20 then (if 0≤x9 then ((spec_l01NameByte.f (bt x0 x9) (x9 == x8)).bind fun t239=>(if t239=true then (spec_l02Type.l0 k x0 x8 (wrap64 (x9+1))) else (if x9=(x0.size:Int) then (some (x9,false)) else (if (bt x0 x9)=59 then (if x9=x8 then (some (x9,false)) else (some (wrap64 (x9+1),true))) else (some (x9,false)))))) else (none)) else (if x9=(x0.size:Int) then (some (x9,false)) else (if 0≤x9 then (if (bt x0 x9)=59 then (if x9=x8 then (some (x9,false)) else (some (wrap64 (x9+1),true))) else (some (x9,false))) else (none)))) else (if x9=(x0.size:Int) then (some (x9,false)) else (if 0≤x9 then (none) else (none)))
def spec_l02Type.f:Nat→ByteArray→Int→Bool→Option (Int×Bool)
 | 0,_,_,_=>none
 | k+1,a0,a1,a2=>if a1 ≥ (a0.size:Int) then (some (a1,false)) else (if 0≤a1 then (if a1 < (a0.size:Int) then (if (bt a0 a1)=73 then (some (wrap64 (a1+1),true)) else (if (bt a0 a1)=91 then (spec_l02Type.j0 k a0 a1 (!a2)) else (spec_l02Type.j0 k a0 a1 false))) else (none)) else (none))
end
theorem spec_l02Type.mono_l:∀ k,(∀ y0 y1 y2,LeO (spec_l02Type.f k y0 y1 y2) (spec_l02Type.f (k+1) y0 y1 y2))∧(∀ y0 y1 y2,LeO (spec_l02Type.j0 k y0 y1 y2) (spec_l02Type.j0 (k+1) y0 y1 y2))∧(∀ y0 y1 y2,LeO (spec_l02Type.l0 k y0 y1 y2) (spec_l02Type.l0 (k+1) y0 y1 y2))
 | 0=>by refine ⟨?_,?_,?_⟩ <;> (intros;intro r h;simp [spec_l02Type.f,spec_l02Type.j0,spec_l02Type.l0] at h)
 | k+1=>by
  obtain ⟨ih0,ih1,ih2⟩:=spec_l02Type.mono_l k;refine ⟨?_,?_,?_⟩ <;> (intros;(first|unfold spec_l02Type.f|unfold spec_l02Type.j0|unfold spec_l02Type.l0)) <;> exact mo_
theorem spec_l02Type.mono:∀ a0 a1 a2 k,LeO (spec_l02Type.f k a0 a1 a2) (spec_l02Type.f (k+1) a0 a1 a2):=by
 intro a0 a1 a2 k;obtain ⟨ih0,ih1,ih2⟩:=spec_l02Type.mono_l k;exact ih0 a0 a1 a2
theorem spec_l02Type.calls (k:Nat):∀ (a0:ByteArray) (a1:Int) (a2:Bool) (r1:Int) (r2:Bool) (w:World) (h:spec_l02Type.f k a0 a1 a2=some (r1,r2)),
 Calls Tryz.prog 102 #[.string a0,.int .i64 a1,.bool a2] w fun e w'=>e=.returned (.tuple #[.int .i64 r1,.bool r2])∧Drawn0 w w':=by
 induction k using Nat.strongRecOn with
 | _ k ih=>
 intro a0 a1 a2 r1 r2 w h
 cases k with
 | zero=>exact absurd h (by simp [spec_l02Type.f])
 | succ k=>
 simp only [spec_l02Type.f] at h;have H:(if a1 ≥ (a0.size:Int) then (some (a1,false)) else (if 0≤a1 then (if a1 < (a0.size:Int) then (if (bt a0 a1)=73 then (some (wrap64 (a1+1),true)) else (if (bt a0 a1)=91 then (spec_l02Type.j0 k a0 a1 (!a2)) else (spec_l02Type.j0 k a0 a1 false))) else (none)) else (none)))=some (r1,r2):=h;clear h;replace H:=sp_ H;rcases H with ⟨c4,H⟩|⟨c4,H⟩
 · have c4b0:decide ((a0.size:Int)≤a1)=false:=decide_eq_false c4;clear c4;replace H:=snd_ H;obtain ⟨c5b0,H⟩:=H;replace H:=snd_ H;obtain ⟨c6b0,H⟩:=H;replace H:=se_ H;rcases H with ⟨c8,c8b0,c8b1,H⟩|⟨c8,c8b0,c8b1,H⟩
   · have HC9:=Zm H;clear H;have p7:0≤(a1:Int):=da_;have q7:a1 < (a0.size:Int):=da_;have hx7:=bt_at a0 a1;replace p7:=eq_true p7;replace q7:=eq_true q7;go_enter Tryz.func102,Tryz.ntmps102;go_upto_region 5 with (fail);go_cut [22] (fun v22 wc=>∃ (kq:Nat) (x22_8:Bool),v22=.bool x22_8∧Aside0 (spec_l02Type.j0 kq a0 a1 x22_8=some (r1,r2))∧Aside0 (kq≤k)∧Drawn0 w wc)
     case first=>
      have H:=HC9.out;clear HC9;replace H:=se_ H;rcases H with ⟨c11,c11b0,c11b1,H⟩|⟨c11,c11b0,c11b1,H⟩
      · (first|rw [c11b0]|(simp only [i64_w,i32_w];rw [c11b0])|skip);have H':=Zm H;clear H;have p10:0≤(a1:Int):=da_;have q10:a1 < (a0.size:Int):=da_;have hx10:=bt_at a0 a1;replace p10:=eq_true p10;replace q10:=eq_true q10;go_wp2;go_meet
        case rel=>exact ⟨_,(false),s1_,H',⟨o1_⟩,dn_⟩
      clear c11;(first|rw [c11b0]|(simp only [i64_w,i32_w];rw [c11b0])|skip);have H':=Zm H;clear H;have p10:0≤(a1:Int):=da_;have q10:a1 < (a0.size:Int):=da_;have hx10:=bt_at a0 a1;replace p10:=eq_true p10;replace q10:=eq_true q10;go_wp2;go_meet
      case rel=>exact ⟨_,(!a2),s1_,H',⟨o1_⟩,dn_⟩
     case rest=>
      clear HC9;(try clear c4);(try clear c4b0);(try clear c5);(try clear c5b0);(try clear c6);(try clear c6b0);(try clear p7);(try clear q7);(try clear hx7);(try clear c8);(try clear c8b0);(try clear c8b1);(try clear p7);(try clear q7);obtain ⟨kq,x22_8,rfl,HA,HJ8,⟨mc8,rfl⟩⟩:=hcut
      cases kq with
      | zero=>exact absurd HA.out (by simp [spec_l02Type.j0])
      | succ kj8=>
       have H:=HA.out;clear HA;simp only [spec_l02Type.j0] at H;replace H:=sb_ H;rcases H with ⟨rfl,H⟩|⟨rfl,H⟩
       · replace H:=snd_ H;obtain ⟨c14b0,H⟩:=H;replace H:=snd_ H;obtain ⟨c15b0,H⟩:=H;replace H:=se_ H;rcases H with ⟨c17,c17b0,c17b1,H⟩|⟨c17,c17b0,c17b1,H⟩
         · simp only [Option.some.injEq,Prod.mk.injEq] at H;obtain ⟨rfl,rfl⟩:=H;have p16:0≤(a1:Int):=da_;have q16:a1 < (a0.size:Int):=da_;have hx16:=bt_at a0 a1;replace p16:=eq_true p16;replace q16:=eq_true q16;go_wp2;go_ret2;exact fd_
         clear c17;have H':=Zm H;clear H;have p16:0≤(a1:Int):=da_;have q16:a1 < (a0.size:Int):=da_;have hx16:=bt_at a0 a1;replace p16:=eq_true p16;replace q16:=eq_true q16;go_wp2;go_loopg [9] kj8 (fun kq v9 w'=>∃ (x9_2:Int),v9=.int .i64 x9_2∧Aside0 (spec_l02Type.l0 kq a0 (wrap64 (a1+1)) x9_2=some (r1,r2))∧Aside0 (kq≤kj8)∧Drawn0 w w')
         case atStart=>exact ⟨(wrap64 (a1+1)),s1_,H',⟨Nat.le_refl _⟩,dn_⟩
         case round=>
          clear H';(try clear c4);(try clear c4b0);(try clear c5);(try clear c5b0);(try clear c6);(try clear c6b0);(try clear p7);(try clear q7);(try clear hx7);(try clear c8);(try clear c8b0);(try clear c8b1);(try clear c12);(try clear c14);(try clear c14b0);(try clear c15);(try clear c15b0);(try clear p16);(try clear q16);(try clear hx16);(try clear c17);(try clear c17b0);(try clear c17b1);(try clear p16);(try clear p7);(try clear q16);(try clear q7);obtain ⟨x9_2,rfl,HA,HK2,⟨m2,rfl⟩⟩:=hrel
          cases gk with
          | zero=>exact absurd HA.out (by simp [spec_l02Type.l0])
          | succ k2=>
           have H:=HA.out;clear HA;simp only [spec_l02Type.l0] at H;replace H:=sd_ H;rcases H with ⟨c18b0,H⟩|⟨c18b0,H⟩
           · replace H:=se_ H;rcases H with ⟨c34,c34b0,c34b1,H⟩|⟨c34,c34b0,c34b1,H⟩
             · replace H:=sn_ H;obtain ⟨c35,H⟩:=H;exact absurd H (by simp)
             clear c34;simp only [Option.some.injEq,Prod.mk.injEq] at H;obtain ⟨rfl,rfl⟩:=H;go_wp2;go_ret2;exact fd_
           replace H:=sp_ H;rcases H with ⟨c19,H⟩|⟨c19,H⟩
           · have c19b0:=decide_eq_false c19;(try (have c19b1:decide ((IntKind.i64.wrap (x9_2 - (IntKind.i64.wrap (a1+1)))) < 20)=false:=by simp only [i64_w];exact (decide_eq_false c19)));clear c19;replace H:=se_ H;rcases H with ⟨c29,c29b0,c29b1,H⟩|⟨c29,c29b0,c29b1,H⟩
             · replace H:=snd_ H;obtain ⟨c30b0,H⟩:=H;replace H:=se_ H;rcases H with ⟨c32,c32b0,c32b1,H⟩|⟨c32,c32b0,c32b1,H⟩
               · simp only [Option.some.injEq,Prod.mk.injEq] at H;obtain ⟨rfl,rfl⟩:=H;have p31:0≤(x9_2:Int):=da_;have q31:x9_2 < (a0.size:Int):=da_;have hx31:=bt_at a0 x9_2;replace p31:=eq_true p31;replace q31:=eq_true q31;go_wp2;go_ret2;exact fd_
               clear c32;replace H:=se_ H;rcases H with ⟨c33,c33b0,c33b1,H⟩|⟨c33,c33b0,c33b1,H⟩
               · (try (have c33b2:(x9_2 == (IntKind.i64.wrap (a1+1)))=false:=by simp only [i64_w];exact (beq_eq_false_iff_ne.mpr c33)));(try (have c33b3:(x9_2 != (IntKind.i64.wrap (a1+1)))=true:=by simp only [i64_w];exact (bne_iff_ne.mpr c33)));simp only [Option.some.injEq,Prod.mk.injEq] at H;obtain ⟨rfl,rfl⟩:=H;have p31:0≤(x9_2:Int):=da_;have q31:x9_2 < (a0.size:Int):=da_;have hx31:=bt_at a0 x9_2;replace p31:=eq_true p31;replace q31:=eq_true q31;go_wp2;go_ret2;exact fd_
               (try (have c33b2:(x9_2 == (IntKind.i64.wrap (a1+1)))=true:=by simp only [i64_w];exact (beq_iff_eq.mpr c33)));(try (have c33b3:(x9_2 != (IntKind.i64.wrap (a1+1)))=false:=by simp only [i64_w];exact (bne_eq_false_iff_eq.mpr c33)));clear c33;simp only [Option.some.injEq,Prod.mk.injEq] at H;obtain ⟨rfl,rfl⟩:=H;have p31:0≤(x9_2:Int):=da_;have q31:x9_2 < (a0.size:Int):=da_;have hx31:=bt_at a0 x9_2;replace p31:=eq_true p31;replace q31:=eq_true q31;go_wp2;go_ret2;exact fd_
             clear c29;simp only [Option.some.injEq,Prod.mk.injEq] at H;obtain ⟨rfl,rfl⟩:=H;go_wp2;go_ret2;exact fd_
           have c19b0:=decide_eq_true c19;(try (have c19b1:decide ((IntKind.i64.wrap (x9_2 - (IntKind.i64.wrap (a1+1)))) < 20)=true:=by simp only [i64_w];exact (decide_eq_true c19)));clear c19;replace H:=snd_ H;obtain ⟨c20b0,H⟩:=H;replace H:=sq_ H;obtain ⟨t239,A22,H⟩:=H;(try dsimp only at H);have HC23:=Zm H;clear H;have p21:0≤(x9_2:Int):=da_;have q21:x9_2 < (a0.size:Int):=da_;have hx21:=bt_at a0 x9_2;replace p21:=eq_true p21;replace q21:=eq_true q21;go_upto_if 63 with (first|(go_at_call 101;refine ca_ (spec_l01NameByte.calls _ _ _ _ A22.out) ?_;rintro e w' ⟨rfl,⟨nd,rfl⟩⟩));have H:=HC23.out;clear HC23;replace H:=sb_ H;rcases H with ⟨rfl,H⟩|⟨rfl,H⟩
           · replace H:=se_ H;rcases H with ⟨c25,c25b0,c25b1,H⟩|⟨c25,c25b0,c25b1,H⟩
             · (first|rw [c25b0]|(simp only [i64_w,i32_w];rw [c25b0])|skip);replace H:=se_ H;rcases H with ⟨c27,c27b0,c27b1,H⟩|⟨c27,c27b0,c27b1,H⟩
               · simp only [Option.some.injEq,Prod.mk.injEq] at H;obtain ⟨rfl,rfl⟩:=H;have p26:0≤(x9_2:Int):=da_;have q26:x9_2 < (a0.size:Int):=da_;have hx26:=bt_at a0 x9_2;replace p26:=eq_true p26;replace q26:=eq_true q26;go_wp2;go_ret2;exact fd_
               clear c27;replace H:=se_ H;rcases H with ⟨c28,c28b0,c28b1,H⟩|⟨c28,c28b0,c28b1,H⟩
               · (try (have c28b2:(x9_2 == (IntKind.i64.wrap (a1+1)))=false:=by simp only [i64_w];exact (beq_eq_false_iff_ne.mpr c28)));(try (have c28b3:(x9_2 != (IntKind.i64.wrap (a1+1)))=true:=by simp only [i64_w];exact (bne_iff_ne.mpr c28)));simp only [Option.some.injEq,Prod.mk.injEq] at H;obtain ⟨rfl,rfl⟩:=H;have p26:0≤(x9_2:Int):=da_;have q26:x9_2 < (a0.size:Int):=da_;have hx26:=bt_at a0 x9_2;replace p26:=eq_true p26;replace q26:=eq_true q26;go_wp2;go_ret2;exact fd_
               (try (have c28b2:(x9_2 == (IntKind.i64.wrap (a1+1)))=true:=by simp only [i64_w];exact (beq_iff_eq.mpr c28)));(try (have c28b3:(x9_2 != (IntKind.i64.wrap (a1+1)))=false:=by simp only [i64_w];exact (bne_eq_false_iff_eq.mpr c28)));clear c28;simp only [Option.some.injEq,Prod.mk.injEq] at H;obtain ⟨rfl,rfl⟩:=H;have p26:0≤(x9_2:Int):=da_;have q26:x9_2 < (a0.size:Int):=da_;have hx26:=bt_at a0 x9_2;replace p26:=eq_true p26;replace q26:=eq_true q26;go_wp2;go_ret2;exact fd_
             clear c25;(first|rw [c25b0]|(simp only [i64_w,i32_w];rw [c25b0])|skip);simp only [Option.some.injEq,Prod.mk.injEq] at H;obtain ⟨rfl,rfl⟩:=H;go_wp2;go_ret2;exact fd_
           have H':=Zm H;clear H;go_wp2;go_roundg k2
           case measure=>have:=HJ8.out;have:=HK2.out;omega
           case rel=>exact ⟨(wrap64 (x9_2+1)),s1_,H',⟨by have:=HJ8.out;have:=HK2.out;omega⟩,dn_⟩
       replace H:=sq_ H;obtain ⟨⟨t237,t238⟩,A13,H⟩:=H;(try dsimp only at H);simp only [Option.some.injEq,Prod.mk.injEq] at H;obtain ⟨rfl,rfl⟩:=H;go_wp2_with (first|((with_reducible refine gate_callee (f:=102) rfl ?_);refine ge_ (some 34) Tryz.func102 #[.string a0,.int .i64 (wrap64 (a1+1)),.bool true] ?_;(with_reducible refine (ih kj8 (by have:=HJ8.out;omega) a0 (wrap64 (a1+1)) true t237 t238 _ A13.out).mono ?_);rintro e w' ⟨rfl,⟨nd,rfl⟩⟩;refine ⟨_,rfl,?_⟩));go_ret2;exact fd_
   clear c8;simp only [Option.some.injEq,Prod.mk.injEq] at H;obtain ⟨rfl,rfl⟩:=H;have p7:0≤(a1:Int):=da_;have q7:a1 < (a0.size:Int):=da_;have hx7:=bt_at a0 a1;replace p7:=eq_true p7;replace q7:=eq_true q7;go_enter Tryz.func102,Tryz.ntmps102;go_wp2;go_ret2;exact fd_
 have c4b0:decide ((a0.size:Int)≤a1)=true:=decide_eq_true c4;clear c4;simp only [Option.some.injEq,Prod.mk.injEq] at H;obtain ⟨rfl,rfl⟩:=H;go_enter Tryz.func102,Tryz.ntmps102;go_wp2;go_ret2;exact fd_
def spec_l02Wrong.f (a0:Int):Option (List ByteArray×ByteArray×Int×Int):=some (([]:List ByteArray),(⟨#[]⟩:ByteArray),a0,3)
theorem spec_l02Wrong.calls (a0:Int) (r1:List ByteArray) (r2:ByteArray) (r3:Int) (r4:Int) (w:World) (h:spec_l02Wrong.f a0=some (r1,r2,r3,r4)):
 Calls Tryz.prog 142 #[.int .i64 a0] w fun e w'=>∃ v0_:Value,e=.returned (.agg #[v0_,.string r2,.int .i64 r3,.int .i64 r4])∧Kd.R Kd.string 9 w' w.heap.size (fun _=>True) v0_ r1∧Below w.heap.size w w':=by
 have hu141:=Tryz.underlying141;have HB:=Zm (Below.refl w.heap.size w);have H:=h;clear h;unfold spec_l02Wrong.f at H;simp only [Option.some.injEq,Prod.mk.injEq] at H;obtain ⟨rfl,rfl,rfl,rfl⟩:=H;go_enter Tryz.func142,Tryz.ntmps142;go_wp2_with (first|((with_reducible refine gate_dst (N:=2) rfl ?_);refine bx_ 2 141 #[.slice none 0 0,.string (⟨#[]⟩:ByteArray),.int .i64 0,.int .i64 0] ?_;intro gb240 hg w2 hbox hb;have BK240:=Zm hbox;have GW240:=bz HB hg;have GE240:=bz HB hg;replace HB:=bt_ HB hb;clear hb hbox hg;have hcz3:=cf4 BK240.out));refine bodyPost_ret (results_cell_row rfl _ _ gb240 141 #[.slice none 0 0,.string (⟨#[]⟩:ByteArray),.int .i64 a0,.int .i64 3] (0,0) _ rfl zc_ Tryz.underlying141 rfl (by kernel_rfl)) rfl ?_;exact ⟨_,s2_,by first|exact Kd.R_nil _ _ _ _ _|exact Kd.N_nil _ _ _ _ _|exact Kd.V_nil _ _ _ _ _|exact Kd.Q_nil _ _ _ _ _|exact Kd.S_nil _ _ _ _ _,hb_⟩
end Go.Proofs.YtljeeiijepoenaaGreat.PFnExactPoolOf
