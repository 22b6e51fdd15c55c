/- Functions of the program as plain Lean functions, each with a proof that the program's call comes to the same; no condition. Written by a program of this session. -/
import Derived.Test.YtljeeiijepoenaaGreatPFnExactPoolOfx0
import Derived.Test.YtljeeiijepoenaaGreatPFnExactPoolOfx12
namespace Go.Proofs.YtljeeiijepoenaaGreat.PFnExactPoolOf
open Go.RowKit Go.Proofs.YtljeeiijepoenaaGreatW.PrintWords Go.Proofs.YtljeeiijepoenaaGreatW.PrintLast Go.Proofs.YtljeeiijepoenaaGreatW.PrintMore
attribute [local go_sem] max2_int min2_int max_two min_two max_three min_three max_four min_four   -- for this text's walks alone
set_option maxHeartbeats 8000000
set_option maxRecDepth 100000
set_option linter.unusedVariables false
set_option linter.unusedSimpArgs false
def impl_isMethodName.f (k:Nat) (a0:ByteArray):Option (Bool):=(impl_NameRight.f k a0).bind fun t479=>(if t479=true then (some true) else (some (a0.toList == ([60,105,110,105,116,62]:List UInt8))))
theorem impl_isMethodName.mono:∀ a0 k,LeO (impl_isMethodName.f k a0) (impl_isMethodName.f (k+1) a0):=by
 intro a0 k;unfold impl_isMethodName.f;have m0:=@impl_NameRight.mono;exact mo_
theorem impl_isMethodName.calls (k:Nat) (a0:ByteArray) (r:Bool) (w:World) (h:impl_isMethodName.f k a0=some r):
 Calls Tryz.prog 122 #[.string a0] w fun e w'=>e=.returned (.bool r)∧Drawn0 w w':=by
 have H:=h;clear h;unfold impl_isMethodName.f at H;replace H:=sq_ H;obtain ⟨t479,A2,H⟩:=H;replace H:=sb_ H;rcases H with ⟨rfl,H⟩|⟨rfl,H⟩
 · obtain rfl:=Option.some.inj H;go_enter Tryz.func122,Tryz.ntmps122;go_wp2_with (first|((with_reducible refine gate_callee (f:=72) rfl ?_);refine ge_ (some 4) Tryz.func72 #[.string a0] ?_;(with_reducible refine (impl_NameRight.calls _ _ _ _ A2.out).mono ?_);rintro e w' ⟨rfl,⟨nd,rfl⟩⟩;refine ⟨_,rfl,?_⟩));go_ret;exact fd_
 obtain rfl:=Option.some.inj H;go_enter Tryz.func122,Tryz.ntmps122;go_wp2_with (first|((with_reducible refine gate_callee (f:=72) rfl ?_);refine ge_ (some 4) Tryz.func72 #[.string a0] ?_;(with_reducible refine (impl_NameRight.calls _ _ _ _ A2.out).mono ?_);rintro e w' ⟨rfl,⟨nd,rfl⟩⟩;refine ⟨_,rfl,?_⟩));go_ret;exact fd_
def impl_isText.l0:Nat→List ByteArray→Int→Int→Option (Bool)
 | 0,_,_,_=>none
 | k+1,x5,x6,x7=>if x7 < x6 then (if 0≤x7 then (if x7 < (x5.length:Int) then (if ((rdOf ByteArray.empty x5 x7).size:Int) > 20000 then (some false) else (impl_isText.l0 k x5 x6 (wrap64 (x7+1)))) else (none)) else (none)) else (some true)
def impl_isText.f (k:Nat) (l0:List ByteArray):Option (Bool):=impl_isText.l0 k l0 (l0.length:Int) 0
theorem impl_isText.mono_l:∀ k,(∀ y0 y1 y2,LeO (impl_isText.l0 k y0 y1 y2) (impl_isText.l0 (k+1) y0 y1 y2))
 | 0=>by intros;intro r h;simp [impl_isText.l0] at h
 | k+1=>by
  have ih0:=impl_isText.mono_l k;intros;unfold impl_isText.l0;exact mo_
theorem impl_isText.mono:∀ a0 k,LeO (impl_isText.f k a0) (impl_isText.f (k+1) a0):=by
 intro a0 k;have ih0:=impl_isText.mono_l k;unfold impl_isText.f;exact mo_
theorem impl_isText.calls (k:Nat) (A0:Option Addr) (c0:Nat) (l0:List ByteArray) (r:Bool) (w:World) (hr0:Kd.C Kd.string w A0 l0.length l0) (hc0:l0.length≤c0) (h:impl_isText.f k l0=some r):
 Calls Tryz.prog 33 #[.slice A0 l0.length c0] w fun e w'=>e=.returned (.bool r)∧Drawn0 w w':=by
 have HR0:=Aside0.mk hr0;have HC0:=Aside0.mk hc0;clear hr0 hc0;have H:=h;clear h;unfold impl_isText.f at H;have H':=Aside0.mk H;clear H;go_enter Tryz.func33,Tryz.ntmps33;go_wp2;go_loopg [7] k (fun kq v7 w'=>∃ (x7_1:Int),v7=.int .i64 x7_1∧Aside0 (impl_isText.l0 kq l0 (l0.length:Int) x7_1=some r)∧Aside0 (kq≤k)∧Drawn0 w w')
 case atStart=>exact ⟨(0),s1_,H',⟨Nat.le_refl _⟩,dn_⟩
 case round=>
  clear H';obtain ⟨x7_1,rfl,HA,HK1,⟨m1,rfl⟩⟩:=hrel
  cases gk with
  | zero=>exact absurd HA.out (by simp [impl_isText.l0])
  | succ k1=>
   have H:=HA.out;clear HA;simp only [impl_isText.l0] at H;replace H:=sd_ H;rcases H with ⟨c2b0,H⟩|⟨c2b0,H⟩
   · obtain rfl:=Option.some.inj H;go_wp2;go_ret;exact fd_
   replace H:=snd_ H;obtain ⟨c3b0,H⟩:=H;replace H:=snd_ H;obtain ⟨c4b0,H⟩:=H;replace H:=sp_ H;rcases H with ⟨c5,H⟩|⟨c5,H⟩
   · have c5b0:decide (20000 < ((rdOf ByteArray.empty l0 x7_1).size:Int))=false:=decide_eq_false c5;have c5b1:decide (20000 < (rdOf ByteArray.empty l0 x7_1).size)=false:=decide_eq_false (by omega);clear c5;have H':=Aside0.mk H;clear H;have p480:0≤(x7_1:Int):=da_;have q480:x7_1 < (l0.length:Int):=da_;obtain ⟨ad480,e480,hx480_0⟩:=Kd.at_string HR0.out x7_1 p480 q480;cases e480;replace p480:=eq_true p480;replace q480:=eq_true q480;go_wp2;go_roundg k1
     case measure=>have:=HK1.out;omega
     case rel=>exact ⟨(wrap64 (x7_1+1)),s1_,H',⟨by have:=HK1.out;omega⟩,dn_⟩
   have c5b0:decide (20000 < ((rdOf ByteArray.empty l0 x7_1).size:Int))=true:=decide_eq_true c5;have c5b1:decide (20000 < (rdOf ByteArray.empty l0 x7_1).size)=true:=decide_eq_true (by omega);clear c5;obtain rfl:=Option.some.inj H;have p480:0≤(x7_1:Int):=da_;have q480:x7_1 < (l0.length:Int):=da_;obtain ⟨ad480,e480,hx480_0⟩:=Kd.at_string HR0.out x7_1 p480 q480;cases e480;replace p480:=eq_true p480;replace q480:=eq_true q480;go_wp2;go_ret;exact fd_
end Go.Proofs.YtljeeiijepoenaaGreat.PFnExactPoolOf
