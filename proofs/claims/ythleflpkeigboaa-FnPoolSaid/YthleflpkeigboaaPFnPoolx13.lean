/- Functions of the program as plain Lean functions, each with a proof that the program's call comes to the same; no condition. Written by a program of this session. -/
import Derived.Test.YthleflpkeigboaaPFnPoolx0
import Derived.Test.YthleflpkeigboaaPFnPoolx10
import Derived.Test.YthleflpkeigboaaPFnPoolx11
import Derived.Test.YthleflpkeigboaaPFnPoolx12
namespace Go.Proofs.Ythleflpkeigboaa.PFnPool
open Go.RowKit Go.Proofs.YthleflpkeigboaaW.PrintWords Go.Proofs.YthleflpkeigboaaW.PrintLast Go.Proofs.YthleflpkeigboaaW.PrintMore
open Go.Proofs.YthleflpkeigboaaW.PrintWords renaming below_size→Zbz,below_step→Zbt,blk_below→Zkb
open Go.Proofs.YthleflpkeigboaaW.PrintWords.Aside0 renaming mk→Zm
attribute [local go_sem] max2_int min2_int max_two min_two max_three min_three max_four min_four   -- for this text's walks alone
set_option linter.unusedVariables false
set_option linter.unusedSimpArgs false
def impl_isText.l0:Nat→List ByteArray→Int→Int→Option (Bool)
 | 0,_,_,_=>none
 | k+1,x5,x6,x7=>if x7 < x6 then (if 0≤x7 then (if x7 < (x5.length:Int) then (if ((rdOf ByteArray.empty x5 x7).size:Int) > 20000 then (some false) else (impl_isText.l0 k x5 x6 (wrap64 (x7+1)))) else (none)) else (none)) else (some true)
def impl_isText.f (k:Nat) (l0:List ByteArray):Option (Bool):=impl_isText.l0 k l0 (l0.length:Int) 0
theorem impl_isText.mono_l:∀ k,(∀ y0 y1 y2,LeO (impl_isText.l0 k y0 y1 y2) (impl_isText.l0 (k+1) y0 y1 y2))
 | 0=>by intros;intro r h;simp [impl_isText.l0] at h
 | k+1=>by
  have ih0:=impl_isText.mono_l k;intros;unfold impl_isText.l0;exact mo_
theorem impl_isText.mono:∀ a0 k,LeO (impl_isText.f k a0) (impl_isText.f (k+1) a0):=by
 intro a0 k;have ih0:=impl_isText.mono_l k;unfold impl_isText.f;exact mo_
set_option maxHeartbeats 80000000 in
set_option maxRecDepth 100000 in
theorem impl_isText.calls (k:Nat) (A0:Option Addr) (c0:Nat) (l0:List ByteArray) (r:Bool) (w:World) (hr0:Kd.C Kd.string w A0 l0.length l0) (hc0:l0.length≤c0) (h:impl_isText.f k l0=some r):
 Calls Try.prog 71 #[.slice A0 l0.length c0] w fun e w'=>e=.returned (.bool r)∧Drawn0 w w':=by
 have HR0:=Zm hr0;have HC0:=Zm hc0;clear hr0 hc0;have H:=h;clear h;unfold impl_isText.f at H;have H':=Zm H;clear H;go_enter Try.func71,Try.ntmps71;go_wp2;go_loopg [7] k (fun kq v7 w'=>∃ (x7_1:Int),v7=.int .i64 x7_1∧Aside0 (impl_isText.l0 kq l0 (l0.length:Int) x7_1=some r)∧Aside0 (kq≤k)∧Drawn0 w w')
 case atStart=>exact ⟨(0),s1_,H',⟨Nat.le_refl _⟩,dn_⟩
 case round=>
  clear H';obtain ⟨x7_1,rfl,HA,HK1,⟨m1,rfl⟩⟩:=hrel
  cases gk with
  | zero=>exact absurd HA.out (by simp [impl_isText.l0])
  | succ k1=>
   have H:=HA.out;clear HA;simp only [impl_isText.l0] at H;replace H:=sd_ H;rcases H with ⟨c2b0,H⟩|⟨c2b0,H⟩
   · obtain rfl:=Option.some.inj H;go_wp2;go_ret;exact fd_
   replace H:=snd_ H;obtain ⟨c3b0,H⟩:=H;replace H:=snd_ H;obtain ⟨c4b0,H⟩:=H;replace H:=sp_ H;rcases H with ⟨c5,H⟩|⟨c5,H⟩
   · have c5b0:decide (20000 < ((rdOf ByteArray.empty l0 x7_1).size:Int))=false:=decide_eq_false c5;have c5b1:decide (20000 < (rdOf ByteArray.empty l0 x7_1).size)=false:=decide_eq_false (by omega);clear c5;have H':=Zm H;clear H;have p696:0≤(x7_1:Int):=da_;have q696:x7_1 < (l0.length:Int):=da_;obtain ⟨ad696,e696,hx696_0⟩:=Kd.at_string HR0.out x7_1 p696 q696;cases e696;replace p696:=eq_true p696;replace q696:=eq_true q696;go_wp2;go_roundg k1
     case measure=>have:=HK1.out;omega
     case rel=>exact ⟨(wrap64 (x7_1+1)),s1_,H',⟨by have:=HK1.out;omega⟩,dn_⟩
   have c5b0:decide (20000 < ((rdOf ByteArray.empty l0 x7_1).size:Int))=true:=decide_eq_true c5;have c5b1:decide (20000 < (rdOf ByteArray.empty l0 x7_1).size)=true:=decide_eq_true (by omega);clear c5;obtain rfl:=Option.some.inj H;have p696:0≤(x7_1:Int):=da_;have q696:x7_1 < (l0.length:Int):=da_;obtain ⟨ad696,e696,hx696_0⟩:=Kd.at_string HR0.out x7_1 p696 q696;cases e696;replace p696:=eq_true p696;replace q696:=eq_true q696;go_wp2;go_ret;exact fd_
def impl_isDesc.f (k:Nat) (a0:ByteArray):Option (Bool):=(impl_isText.f k (([a0]:List ByteArray))).bind fun t700=>(if t700=true then ((impl_descRead.f k a0).bind fun bt701=>(some (bt701.2.2.2 == 0))) else (some false))
theorem impl_isDesc.mono:∀ a0 k,LeO (impl_isDesc.f k a0) (impl_isDesc.f (k+1) a0):=by
 intro a0 k;unfold impl_isDesc.f;have m0:=@impl_descRead.mono;have m1:=@impl_isText.mono;exact mo_
set_option maxHeartbeats 80000000 in
set_option maxRecDepth 100000 in
theorem impl_isDesc.calls (k:Nat) (a0:ByteArray) (r:Bool) (w:World) (h:impl_isDesc.f k a0=some r):
 Calls Try.prog 48 #[.string a0] w fun e w'=>e=.returned (.bool r)∧Below w.heap.size w w':=by
 have hf73_2:∀ (a0_ a1_ a2_ a3_:Value) (W_:World),(Instr.field 73 (.agg #[a0_,a1_,a2_,a3_]) 2).run Try.prog W_=.ok (a3_) W_:=fun _ _ _ _ _=>by rfl
 have HB:=Zm (Below.refl w.heap.size w);have H:=h;clear h;unfold impl_isDesc.f at H;obtain ⟨y697,hy_⟩:∃ y_:List ByteArray,y_=(([a0]:List ByteArray)):=⟨_,rfl⟩;replace H:((impl_isText.f k y697).bind fun t700=>(if t700=true then ((impl_descRead.f k a0).bind fun bt701=>(some (bt701.2.2.2 == 0))) else (some false)))=some r:=ry_
 have Ny697:=Zm hy_;clear hy_;replace H:=sq_ H;obtain ⟨t700,A2,H⟩:=H;replace H:=sb_ H;rcases H with ⟨rfl,H⟩|⟨rfl,H⟩
 · obtain rfl:=Option.some.inj H;go_enter Try.func48,Try.ntmps48;go_wp2_with (first|((with_reducible refine gate_dst (N:=4) rfl ?_);refine Kd.R_lit Kd.string _ 9 ?hg (N:=4) ?hd (xs:=([a0]:List ByteArray)) (inner:=[.string a0]) (ok:=fun _=>True) (okp:=fun _=>True) ?hr ?hp (fun _ hk=>hk) trivial (Below.refl _ _) (Nat.le_refl _) (by simp) ?_;(case hd=>rfl);(case hg=>rfl);(case hr=>exact gs_);(case hp=>exact rs_ _);intro v698 w9 ho10 hb hg_ hnew_;clear hg_ hnew_;(first|rw [← Ny697.out] at ho10|(simp only [Int.reduceToNat] at ho10;rw [← Ny697.out] at ho10));have HO699:=Zm (Kd.R_lower ho10 (Zbz (bk HB.out)));replace HB:=bt_ HB hb;clear hb ho10;obtain ⟨Ao11,co11,eo11⟩:=Kd.R_slice HO699.out;subst eo11)|((with_reducible refine gate_callee (f:=71) rfl ?_);refine ge_ (some 5) Try.func71 #[.slice Ao11 y697.length co11] ?_;refine ca_ (impl_isText.calls _ _ _ _ _ _ (pc (Kd.R_reads' HO699.out).2.2) ((Kd.R_reads' HO699.out).2.1) A2.out) ?_;rintro e w' ⟨rfl,⟨nd,rfl⟩⟩;refine ⟨_,rfl,?_⟩));go_ret;exact fin_ HB
 replace H:=sq_ H;obtain ⟨⟨t701,t704,t705,t706⟩,A4,H⟩:=H;(try dsimp only at H);obtain rfl:=Option.some.inj H;go_enter Try.func48,Try.ntmps48;go_wp2_with (first|((with_reducible refine gate_dst (N:=4) rfl ?_);refine Kd.R_lit Kd.string _ 9 ?hg (N:=4) ?hd (xs:=([a0]:List ByteArray)) (inner:=[.string a0]) (ok:=fun _=>True) (okp:=fun _=>True) ?hr ?hp (fun _ hk=>hk) trivial (Below.refl _ _) (Nat.le_refl _) (by simp) ?_;(case hd=>rfl);(case hg=>rfl);(case hr=>exact gs_);(case hp=>exact rs_ _);intro v698 w5 ho6 hb hg_ hnew_;clear hg_ hnew_;(first|rw [← Ny697.out] at ho6|(simp only [Int.reduceToNat] at ho6;rw [← Ny697.out] at ho6));have HO699:=Zm (Kd.R_lower ho6 (Zbz (bk HB.out)));replace HB:=bt_ HB hb;clear hb ho6;obtain ⟨Ao7,co7,eo7⟩:=Kd.R_slice HO699.out;subst eo7)|((with_reducible refine gate_callee (f:=71) rfl ?_);refine ge_ (some 5) Try.func71 #[.slice Ao7 y697.length co7] ?_;refine ca_ (impl_isText.calls _ _ _ _ _ _ (pc (Kd.R_reads' HO699.out).2.2) ((Kd.R_reads' HO699.out).2.1) A2.out) ?_;rintro e w' ⟨rfl,⟨nd,rfl⟩⟩;refine ⟨_,rfl,?_⟩;(try clear HO699))|(go_at_call 51;refine ca_ (impl_descRead.calls _ _ _ _ _ _ _ A4.out) ?_;rintro e w8 ⟨v702,rfl,ho0,hb⟩;have HO703:=Zm (Kd.R_lower ho0 (Zbz (bk HB.out)));replace HB:=bt_ HB hb;clear hb ho0));go_ret;exact fin_ HB
def impl_Ins.f (l0:List (S77)):Option (Int):=some (l0.length:Int)
set_option maxHeartbeats 80000000 in
set_option maxRecDepth 100000 in
theorem impl_Ins.calls (A0:Option Addr) (c0:Nat) (l0:List (S77)) (r:Int) (w:World) (hr0:Kd.C k77 w A0 l0.length l0) (hc0:l0.length≤c0) (h:impl_Ins.f l0=some r):
 Calls Try.prog 55 #[.slice A0 l0.length c0] w fun e w'=>e=.returned (.int .i64 r)∧Drawn0 w w':=by
 have HR0:=Zm hr0;have HC0:=Zm hc0;clear hr0 hc0;have H:=h;clear h;unfold impl_Ins.f at H;obtain rfl:=Option.some.inj H;go_enter Try.func55,Try.ntmps55;go_wp2;go_ret;exact fd_
def impl_isOp.f (a0:Int):Option (Bool):=(impl_within.f a0 1 44).bind fun t707=>(some t707)
set_option maxHeartbeats 80000000 in
set_option maxRecDepth 100000 in
theorem impl_isOp.calls (a0:Int) (r:Bool) (w:World) (h:impl_isOp.f a0=some r):
 Calls Try.prog 83 #[.int .i64 a0] w fun e w'=>e=.returned (.bool r)∧Drawn0 w w':=by
 have H:=h;clear h;unfold impl_isOp.f at H;replace H:=sq_ H;obtain ⟨t707,A2,H⟩:=H;obtain rfl:=Option.some.inj H;go_enter Try.func83,Try.ntmps83;go_wp2_with (first|((with_reducible refine gate_callee (f:=42) rfl ?_);refine ge_ (some 4) Try.func42 #[.int .i64 a0,.int .i64 1,.int .i64 44] ?_;(with_reducible refine (impl_within.calls _ _ _ _ _ A2.out).mono ?_);rintro e w' ⟨rfl,⟨nd,rfl⟩⟩;refine ⟨_,rfl,?_⟩));go_ret;exact fd_
def impl_opForms.f  : Option (List ByteArray):=some (([(⟨#[110]⟩:ByteArray),(⟨#[]⟩:ByteArray),(⟨#[105]⟩:ByteArray),(⟨#[105]⟩:ByteArray),(⟨#[]⟩:ByteArray),(⟨#[]⟩:ByteArray),(⟨#[]⟩:ByteArray),(⟨#[]⟩:ByteArray),(⟨#[]⟩:ByteArray),(⟨#[]⟩:ByteArray),(⟨#[]⟩:ByteArray),(⟨#[]⟩:ByteArray),(⟨#[]⟩:ByteArray),(⟨#[]⟩:ByteArray),(⟨#[]⟩:ByteArray),(⟨#[]⟩:ByteArray),(⟨#[]⟩:ByteArray),(⟨#[]⟩:ByteArray),(⟨#[116]⟩:ByteArray),(⟨#[116]⟩:ByteArray),(⟨#[116]⟩:ByteArray),(⟨#[116]⟩:ByteArray),(⟨#[116]⟩:ByteArray),(⟨#[116]⟩:ByteArray),(⟨#[116]⟩:ByteArray),(⟨#[]⟩:ByteArray),(⟨#[]⟩:ByteArray),(⟨#[]⟩:ByteArray),(⟨#[]⟩:ByteArray),(⟨#[]⟩:ByteArray),(⟨#[99]⟩:ByteArray),(⟨#[102]⟩:ByteArray),(⟨#[102]⟩:ByteArray),(⟨#[102]⟩:ByteArray),(⟨#[102]⟩:ByteArray),(⟨#[109]⟩:ByteArray),(⟨#[109]⟩:ByteArray),(⟨#[109]⟩:ByteArray),(⟨#[99]⟩:ByteArray),(⟨#[99]⟩:ByteArray),(⟨#[121]⟩:ByteArray),(⟨#[]⟩:ByteArray),(⟨#[]⟩:ByteArray),(⟨#[]⟩:ByteArray)]:List ByteArray))
set_option maxHeartbeats 80000000 in
set_option maxRecDepth 100000 in
theorem impl_opForms.calls  (r:List ByteArray) (w:World) (h:impl_opForms.f  = some r):
 Calls Try.prog 84 #[] w fun e w'=>∃ v0_:Value,e=.returned (v0_)∧Kd.R Kd.string 9 w' w.heap.size (fun _=>True) v0_ r∧Below w.heap.size w w':=by
 have HB:=Zm (Below.refl w.heap.size w);have H:(some (([(⟨#[110]⟩:ByteArray),(⟨#[]⟩:ByteArray),(⟨#[105]⟩:ByteArray),(⟨#[105]⟩:ByteArray),(⟨#[]⟩:ByteArray),(⟨#[]⟩:ByteArray),(⟨#[]⟩:ByteArray),(⟨#[]⟩:ByteArray),(⟨#[]⟩:ByteArray),(⟨#[]⟩:ByteArray),(⟨#[]⟩:ByteArray),(⟨#[]⟩:ByteArray),(⟨#[]⟩:ByteArray),(⟨#[]⟩:ByteArray),(⟨#[]⟩:ByteArray),(⟨#[]⟩:ByteArray),(⟨#[]⟩:ByteArray),(⟨#[]⟩:ByteArray),(⟨#[116]⟩:ByteArray),(⟨#[116]⟩:ByteArray),(⟨#[116]⟩:ByteArray),(⟨#[116]⟩:ByteArray),(⟨#[116]⟩:ByteArray),(⟨#[116]⟩:ByteArray),(⟨#[116]⟩:ByteArray),(⟨#[]⟩:ByteArray),(⟨#[]⟩:ByteArray),(⟨#[]⟩:ByteArray),(⟨#[]⟩:ByteArray),(⟨#[]⟩:ByteArray),(⟨#[99]⟩:ByteArray),(⟨#[102]⟩:ByteArray),(⟨#[102]⟩:ByteArray),(⟨#[102]⟩:ByteArray),(⟨#[102]⟩:ByteArray),(⟨#[109]⟩:ByteArray),(⟨#[109]⟩:ByteArray),(⟨#[109]⟩:ByteArray),(⟨#[99]⟩:ByteArray),(⟨#[99]⟩:ByteArray),(⟨#[121]⟩:ByteArray),(⟨#[]⟩:ByteArray),(⟨#[]⟩:ByteArray),(⟨#[]⟩:ByteArray)]:List ByteArray)))=some r:=h;clear h;obtain ⟨y708,hy_⟩:∃ y_:List ByteArray,y_=(([(⟨#[110]⟩:ByteArray),(⟨#[]⟩:ByteArray),(⟨#[105]⟩:ByteArray),(⟨#[105]⟩:ByteArray),(⟨#[]⟩:ByteArray),(⟨#[]⟩:ByteArray),(⟨#[]⟩:ByteArray),(⟨#[]⟩:ByteArray),(⟨#[]⟩:ByteArray),(⟨#[]⟩:ByteArray),(⟨#[]⟩:ByteArray),(⟨#[]⟩:ByteArray),(⟨#[]⟩:ByteArray),(⟨#[]⟩:ByteArray),(⟨#[]⟩:ByteArray),(⟨#[]⟩:ByteArray),(⟨#[]⟩:ByteArray),(⟨#[]⟩:ByteArray),(⟨#[116]⟩:ByteArray),(⟨#[116]⟩:ByteArray),(⟨#[116]⟩:ByteArray),(⟨#[116]⟩:ByteArray),(⟨#[116]⟩:ByteArray),(⟨#[116]⟩:ByteArray),(⟨#[116]⟩:ByteArray),(⟨#[]⟩:ByteArray),(⟨#[]⟩:ByteArray),(⟨#[]⟩:ByteArray),(⟨#[]⟩:ByteArray),(⟨#[]⟩:ByteArray),(⟨#[99]⟩:ByteArray),(⟨#[102]⟩:ByteArray),(⟨#[102]⟩:ByteArray),(⟨#[102]⟩:ByteArray),(⟨#[102]⟩:ByteArray),(⟨#[109]⟩:ByteArray),(⟨#[109]⟩:ByteArray),(⟨#[109]⟩:ByteArray),(⟨#[99]⟩:ByteArray),(⟨#[99]⟩:ByteArray),(⟨#[121]⟩:ByteArray),(⟨#[]⟩:ByteArray),(⟨#[]⟩:ByteArray),(⟨#[]⟩:ByteArray)]:List ByteArray)):=⟨_,rfl⟩;replace H:(some y708)=some r:=ry_
 have Ny708:=Zm hy_;clear hy_;obtain rfl:=Option.some.inj H;go_enter Try.func84,Try.ntmps84;go_wp2_with (first|((with_reducible refine gate_dst (N:=1) rfl ?_);refine Kd.R_lit Kd.string _ 9 ?hg (N:=1) ?hd (xs:=([(⟨#[110]⟩:ByteArray),(⟨#[]⟩:ByteArray),(⟨#[105]⟩:ByteArray),(⟨#[105]⟩:ByteArray),(⟨#[]⟩:ByteArray),(⟨#[]⟩:ByteArray),(⟨#[]⟩:ByteArray),(⟨#[]⟩:ByteArray),(⟨#[]⟩:ByteArray),(⟨#[]⟩:ByteArray),(⟨#[]⟩:ByteArray),(⟨#[]⟩:ByteArray),(⟨#[]⟩:ByteArray),(⟨#[]⟩:ByteArray),(⟨#[]⟩:ByteArray),(⟨#[]⟩:ByteArray),(⟨#[]⟩:ByteArray),(⟨#[]⟩:ByteArray),(⟨#[116]⟩:ByteArray),(⟨#[116]⟩:ByteArray),(⟨#[116]⟩:ByteArray),(⟨#[116]⟩:ByteArray),(⟨#[116]⟩:ByteArray),(⟨#[116]⟩:ByteArray),(⟨#[116]⟩:ByteArray),(⟨#[]⟩:ByteArray),(⟨#[]⟩:ByteArray),(⟨#[]⟩:ByteArray),(⟨#[]⟩:ByteArray),(⟨#[]⟩:ByteArray),(⟨#[99]⟩:ByteArray),(⟨#[102]⟩:ByteArray),(⟨#[102]⟩:ByteArray),(⟨#[102]⟩:ByteArray),(⟨#[102]⟩:ByteArray),(⟨#[109]⟩:ByteArray),(⟨#[109]⟩:ByteArray),(⟨#[109]⟩:ByteArray),(⟨#[99]⟩:ByteArray),(⟨#[99]⟩:ByteArray),(⟨#[121]⟩:ByteArray),(⟨#[]⟩:ByteArray),(⟨#[]⟩:ByteArray),(⟨#[]⟩:ByteArray)]:List ByteArray)) (inner:=[.string (⟨#[110]⟩:ByteArray),.string (⟨#[]⟩:ByteArray),.string (⟨#[105]⟩:ByteArray),.string (⟨#[105]⟩:ByteArray),.string (⟨#[]⟩:ByteArray),.string (⟨#[]⟩:ByteArray),.string (⟨#[]⟩:ByteArray),.string (⟨#[]⟩:ByteArray),.string (⟨#[]⟩:ByteArray),.string (⟨#[]⟩:ByteArray),.string (⟨#[]⟩:ByteArray),.string (⟨#[]⟩:ByteArray),.string (⟨#[]⟩:ByteArray),.string (⟨#[]⟩:ByteArray),.string (⟨#[]⟩:ByteArray),.string (⟨#[]⟩:ByteArray),.string (⟨#[]⟩:ByteArray),.string (⟨#[]⟩:ByteArray),.string (⟨#[116]⟩:ByteArray),.string (⟨#[116]⟩:ByteArray),.string (⟨#[116]⟩:ByteArray),.string (⟨#[116]⟩:ByteArray),.string (⟨#[116]⟩:ByteArray),.string (⟨#[116]⟩:ByteArray),.string (⟨#[116]⟩:ByteArray),.string (⟨#[]⟩:ByteArray),.string (⟨#[]⟩:ByteArray),.string (⟨#[]⟩:ByteArray),.string (⟨#[]⟩:ByteArray),.string (⟨#[]⟩:ByteArray),.string (⟨#[99]⟩:ByteArray),.string (⟨#[102]⟩:ByteArray),.string (⟨#[102]⟩:ByteArray),.string (⟨#[102]⟩:ByteArray),.string (⟨#[102]⟩:ByteArray),.string (⟨#[109]⟩:ByteArray),.string (⟨#[109]⟩:ByteArray),.string (⟨#[109]⟩:ByteArray),.string (⟨#[99]⟩:ByteArray),.string (⟨#[99]⟩:ByteArray),.string (⟨#[121]⟩:ByteArray),.string (⟨#[]⟩:ByteArray),.string (⟨#[]⟩:ByteArray),.string (⟨#[]⟩:ByteArray)]) (ok:=fun _=>True) (okp:=fun _=>True) ?hr ?hp (fun _ hk=>hk) trivial (Below.refl _ _) (Nat.le_refl _) (by simp) ?_;(case hd=>rfl);(case hg=>rfl);(case hr=>exact gs_);(case hp=>exact rs_ _);intro v709 w1 ho2 hb hg_ hnew_;clear hg_ hnew_;(first|rw [← Ny708.out] at ho2|(simp only [Int.reduceToNat] at ho2;rw [← Ny708.out] at ho2));have HO710:=Zm (Kd.R_lower ho2 (Zbz (bk HB.out)));replace HB:=bt_ HB hb;clear hb ho2));go_ret;exact ⟨_,s2_,pr HO710.out,bk HB.out⟩
def impl_OpForm.f (a0:Int):Option (ByteArray):=(impl_isOp.f a0).bind fun t711=>(if t711=true then ((impl_opForms.f).bind fun t712=>(if 0≤(wrap64 (a0 - 1)) then (if (wrap64 (a0 - 1)) < (t712.length:Int) then (some (rdOf ByteArray.empty t712 (wrap64 (a0 - 1)))) else (none)) else (none))) else (some (⟨#[33]⟩:ByteArray)))
set_option maxHeartbeats 80000000 in
set_option maxRecDepth 100000 in
theorem impl_OpForm.calls (a0:Int) (r:ByteArray) (w:World) (h:impl_OpForm.f a0=some r):
 Calls Try.prog 73 #[.int .i64 a0] w fun e w'=>e=.returned (.string r)∧Below w.heap.size w w':=by
 have HB:=Zm (Below.refl w.heap.size w);have H:=h;clear h;unfold impl_OpForm.f at H;replace H:=sq_ H;obtain ⟨t711,A2,H⟩:=H;have HC3:=Zm H;clear H;go_enter Try.func73,Try.ntmps73;go_upto_if 5 with (first|((with_reducible refine gate_callee (f:=83) rfl ?_);refine ge_ (some 4) Try.func83 #[.int .i64 a0] ?_;(with_reducible refine (impl_isOp.calls _ _ _ A2.out).mono ?_);rintro e w' ⟨rfl,⟨nd,rfl⟩⟩;refine ⟨_,rfl,?_⟩));have H:=HC3.out;clear HC3;replace H:=sb_ H;rcases H with ⟨rfl,H⟩|⟨rfl,H⟩
 · obtain rfl:=Option.some.inj H;go_wp2;go_ret;exact fin_ HB
 replace H:=sq_ H;obtain ⟨t712,A5,H⟩:=H;obtain ⟨ji6,hji6⟩:∃ j_:Int,(wrap64 (a0 - 1))=j_:=⟨_,rfl⟩;replace H:(if 0≤(ji6) then (if (ji6) < (t712.length:Int) then (some (rdOf ByteArray.empty t712 (ji6))) else (none)) else (none))=some r:=by first|(rw [hji6] at H;exact H)|(simp only [hji6] at H ⊢;exact H)
 (try rw [hji6] at A5);have hji6w:(IntKind.i64.wrap (a0 - 1))=ji6:=(i64_w _).trans hji6;replace H:=snd_ H;obtain ⟨c7b0,H⟩:=H;(first|rw [c7b0]|(simp only [i64_w,i32_w];rw [c7b0])|skip);replace H:=snd_ H;obtain ⟨c8b0,H⟩:=H;obtain rfl:=Option.some.inj H;go_wp2_with (first|((with_reducible refine gate_callee (f:=84) rfl ?_);refine ge_ (some 6) Try.func84 #[] ?_;(with_reducible refine (impl_opForms.calls _ _ A5.out).mono ?_);rintro e w9 ⟨v713,rfl,ho0,hb⟩;refine ⟨_,rfl,?_⟩;have HO714:=Zm (Kd.R_lower ho0 (Zbz (bk HB.out)));replace HB:=bt_ HB hb;clear hb ho0;obtain ⟨Ao10,co10,eo10⟩:=Kd.R_slice HO714.out;subst eo10;have p715:0≤((ji6):Int):=da_;have q715:(ji6) < (t712.length:Int):=da_;obtain ⟨ad715,e715,hx715_0⟩:=Kd.at_string (Kd.R_reads' HO714.out).2.2 (ji6) p715 q715;cases e715;replace p715:=eq_true p715;replace q715:=eq_true q715));go_ret;exact ⟨by first|rfl|(simp [errW_none,errW_some] <;> rfl)|(simp only [← hji6];first|rfl|(simp [errW_none,errW_some] <;> rfl))|(simp [*,errW_none,errW_some] <;> rfl),bk HB.out⟩
def impl_isInt.f (a0:Int):Option (Bool):=(impl_within.f a0 (-2147483648) 2147483647).bind fun t716=>(some t716)
set_option maxHeartbeats 80000000 in
set_option maxRecDepth 100000 in
theorem impl_isInt.calls (a0:Int) (r:Bool) (w:World) (h:impl_isInt.f a0=some r):
 Calls Try.prog 82 #[.int .i64 a0] w fun e w'=>e=.returned (.bool r)∧Drawn0 w w':=by
 have H:=h;clear h;unfold impl_isInt.f at H;replace H:=sq_ H;obtain ⟨t716,A2,H⟩:=H;obtain rfl:=Option.some.inj H;go_enter Try.func82,Try.ntmps82;go_wp2_with (first|((with_reducible refine gate_callee (f:=42) rfl ?_);refine ge_ (some 4) Try.func42 #[.int .i64 a0,.int .i64 (-2147483648),.int .i64 2147483647] ?_;(with_reducible refine (impl_within.calls _ _ _ _ _ A2.out).mono ?_);rintro e w' ⟨rfl,⟨nd,rfl⟩⟩;refine ⟨_,rfl,?_⟩));go_ret;exact fd_
def impl_InsRight.j0:Nat→Bool→Int→Int→ByteArray→ByteArray→ByteArray→Option (Bool)
 | 0,_,_,_,_,_,_=>none
 | k+1,x3,x718000,x718001,x718002,x718003,x718004=>(impl_OpForm.f x718000).bind fun t718=>(if t718.toList=([]:List UInt8) then (if x3=true then (some (x718001 == 0)) else (some false)) else (if t718.toList=([110]:List UInt8) then (if x3=true then ((impl_isInt.f x718001).bind fun t719=>(some t719)) else (some false)) else (if t718.toList=([105]:List UInt8) then (if x3=true then ((impl_within.f x718001 0 15).bind fun t720=>(some t720)) else (some false)) else (if t718.toList=([116]:List UInt8) then (if x3=true then ((impl_within.f x718001 0 59).bind fun t721=>(some t721)) else (some false)) else (if t718.toList=([99]:List UInt8) then (if x718001=0 then ((impl_NameRight.f k x718002).bind fun t722=>(if t722=true then (if x718003.toList=([]:List UInt8) then (some (x718004.toList == ([]:List UInt8))) else (some false)) else (some false))) else (some false)) else (if t718.toList=([121]:List UInt8) then (if x718001=0 then (if x718002.toList=([]:List UInt8) then (if x718003.toList=([]:List UInt8) then (if x718004.toList=([73]:List UInt8) then (some true) else ((impl_typeRight.f k x718004).bind fun t723=>(if t723=true then (if 0 < (x718004.size:Int) then (some ((bt x718004 0) == 76)) else (none)) else (some false)))) else (some false)) else (some false)) else (some false)) else (if t718.toList=([102]:List UInt8) then (if x718001=0 then ((impl_NameRight.f k x718002).bind fun t724=>(if t724=true then ((impl_NameRight.f k x718003).bind fun t725=>(if t725=true then ((impl_typeRight.f k x718004).bind fun t726=>(some t726)) else (some false))) else (some false))) else (some false)) else (if t718.toList=([109]:List UInt8) then (if x718001=0 then ((impl_NameRight.f k x718002).bind fun t727=>(if t727=true then ((impl_isMethodName.f k x718003).bind fun t728=>(if t728=true then ((impl_isDesc.f k x718004).bind fun t729=>(some t729)) else (some false))) else (some false))) else (some false)) else (some false)))))))))
def impl_InsRight.f (k:Nat) (a0_0:Int) (a0_1:Int) (a0_2:ByteArray) (a0_3:ByteArray) (a0_4:ByteArray):Option (Bool):=if a0_2.toList=([]:List UInt8) then (if a0_3.toList=([]:List UInt8) then (impl_InsRight.j0 k (a0_4.toList == ([]:List UInt8)) a0_0 a0_1 a0_2 a0_3 a0_4) else (impl_InsRight.j0 k false a0_0 a0_1 a0_2 a0_3 a0_4)) else (impl_InsRight.j0 k false a0_0 a0_1 a0_2 a0_3 a0_4)
theorem impl_InsRight.mono_l:∀ k,(∀ y0 y1 y2 y3 y4 y5,LeO (impl_InsRight.j0 k y0 y1 y2 y3 y4 y5) (impl_InsRight.j0 (k+1) y0 y1 y2 y3 y4 y5))
 | 0=>by intros;intro r h;simp [impl_InsRight.j0] at h
 | k+1=>by
  have ih0:=impl_InsRight.mono_l k;have m0:=@impl_NameRight.mono;have m1:=@impl_isDesc.mono;have m2:=@impl_isMethodName.mono;have m3:=@impl_typeRight.mono;intros;unfold impl_InsRight.j0;exact mo_
theorem impl_InsRight.mono:∀ a0 a1 a2 a3 a4 k,LeO (impl_InsRight.f k a0 a1 a2 a3 a4) (impl_InsRight.f (k+1) a0 a1 a2 a3 a4):=by
 intro a0 a1 a2 a3 a4 k;have ih0:=impl_InsRight.mono_l k;unfold impl_InsRight.f;have m0:=@impl_NameRight.mono;have m1:=@impl_isDesc.mono;have m2:=@impl_isMethodName.mono;have m3:=@impl_typeRight.mono;exact mo_
set_option maxHeartbeats 80000000 in
set_option maxRecDepth 100000 in
theorem impl_InsRight.calls (k:Nat) (a0_0:Int) (a0_1:Int) (a0_2:ByteArray) (a0_3:ByteArray) (a0_4:ByteArray) (r:Bool) (w:World) (h:impl_InsRight.f k a0_0 a0_1 a0_2 a0_3 a0_4=some r):
 Calls Try.prog 72 #[.agg #[.int .i64 a0_0,.int .i64 a0_1,.string a0_2,.string a0_3,.string a0_4]] w fun e w'=>e=.returned (.bool r)∧Below w.heap.size w w':=by
 have hu77:=Try.underlying77;have HB:=Zm (Below.refl w.heap.size w);have H:=h;clear h;unfold impl_InsRight.f at H;have HC2:=Zm H;clear H;go_enter Try.func72,Try.ntmps72;go_upto_region 1 with (first|((with_reducible refine gate_dst (N:=1) rfl ?_);refine bx_ 1 77 #[.int .i64 a0_0,.int .i64 a0_1,.string a0_2,.string a0_3,.string a0_4] ?_;intro gb717 hg w3 hbox hb;have BK717:=Zm hbox;have GW717:=bz HB hg;have GE717:=bz HB hg;replace HB:=bt_ HB hb;clear hb hbox hg));(try simp only [Act.put,List.setIfInBounds_toArray,List.set_cons_zero,List.set_cons_succ]);go_cut [3] (fun v3 wc=>∃ (kq:Nat) (x3_1:Bool),v3=.bool x3_1∧Aside0 (impl_InsRight.j0 kq x3_1 a0_0 a0_1 a0_2 a0_3 a0_4=some r)∧Aside0 (kq≤k)∧Aside0 (wc.heap[gb717]?=some (.cells #[.int .i64 a0_0,.int .i64 a0_1,.string a0_2,.string a0_3,.string a0_4] 77 (0,0)))∧Aside0 (Below w.heap.size w wc))
 case first=>
  have H:=HC2.out;clear HC2;replace H:=se_ H;rcases H with ⟨c4,c4b0,c4b1,H⟩|⟨c4,c4b0,c4b1,H⟩
  · (first|rw [c4b0]|(simp only [i64_w,i32_w];rw [c4b0])|rw [ie_ c4b0]|skip);have H':=Zm H;clear H;have hcz8:=cz5 BK717.out;go_wp2;go_meet
    case rel=>exact ⟨_,(false),s1_,H',⟨o1_⟩,⟨pk BK717.out⟩,⟨bk HB.out⟩⟩
  clear c4;(first|rw [c4b0]|(simp only [i64_w,i32_w];rw [c4b0])|rw [ie_ c4b0]|skip);replace H:=se_ H;rcases H with ⟨c5,c5b0,c5b1,H⟩|⟨c5,c5b0,c5b1,H⟩
  · have H':=Zm H;clear H;have hcz7:=cz5 BK717.out;go_wp2;go_meet
    case rel=>exact ⟨_,(false),s1_,H',⟨o1_⟩,⟨pk BK717.out⟩,⟨bk HB.out⟩⟩
  clear c5;have H':=Zm H;clear H;have hcz6:=cz5 BK717.out;go_wp2;go_meet
  case rel=>exact ⟨_,((a0_4.toList == ([]:List UInt8))),s1_,H',⟨o1_⟩,⟨pk BK717.out⟩,⟨bk HB.out⟩⟩
 case rest=>
  clear HC2;obtain ⟨kq,x3_1,rfl,HA,HJ1,BK717,HB⟩:=hcut
  cases kq with
  | zero=>exact absurd HA.out (by simp [impl_InsRight.j0])
  | succ kj1=>
   have H:=HA.out;clear HA;simp only [impl_InsRight.j0] at H;replace H:=sq_ H;obtain ⟨t718,A9,H⟩:=H;have HC10:=Zm H;clear H;have hcz11:=cz5 BK717.out;go_upto_if 20 with (first|((with_reducible refine gate_callee (f:=73) rfl ?_);refine ge_ (some 19) Try.func73 #[.int .i64 a0_0] ?_;(with_reducible refine (impl_OpForm.calls _ _ _ A9.out).mono ?_);rintro e w12 ⟨rfl,hb⟩;refine ⟨_,rfl,?_⟩;replace BK717:=kb BK717 hb;replace HB:=bt_ HB hb;clear hb));have H:=HC10.out;clear HC10;replace H:=se_ H;rcases H with ⟨c13,c13b0,c13b1,H⟩|⟨c13,c13b0,c13b1,H⟩
   · (first|rw [c13b0]|(simp only [i64_w,i32_w];rw [c13b0])|rw [ie_ c13b0]|skip);replace H:=se_ H;rcases H with ⟨c16,c16b0,c16b1,H⟩|⟨c16,c16b0,c16b1,H⟩
     · replace H:=se_ H;rcases H with ⟨c20,c20b0,c20b1,H⟩|⟨c20,c20b0,c20b1,H⟩
       · replace H:=se_ H;rcases H with ⟨c24,c24b0,c24b1,H⟩|⟨c24,c24b0,c24b1,H⟩
         · replace H:=se_ H;rcases H with ⟨c28,c28b0,c28b1,H⟩|⟨c28,c28b0,c28b1,H⟩
           · replace H:=se_ H;rcases H with ⟨c37,c37b0,c37b1,H⟩|⟨c37,c37b0,c37b1,H⟩
             · replace H:=se_ H;rcases H with ⟨c55,c55b0,c55b1,H⟩|⟨c55,c55b0,c55b1,H⟩
               · replace H:=se_ H;rcases H with ⟨c67,c67b0,c67b1,H⟩|⟨c67,c67b0,c67b1,H⟩
                 · obtain rfl:=Option.some.inj H;go_wp2;go_ret;exact fin_ HB
                 clear c67;replace H:=se_ H;rcases H with ⟨c68,c68b0,c68b1,H⟩|⟨c68,c68b0,c68b1,H⟩
                 · obtain rfl:=Option.some.inj H;have hcz78:=cz5 BK717.out;go_wp2;go_ret;exact fin_ HB
                 clear c68;replace H:=sq_ H;obtain ⟨t727,A69,H⟩:=H;replace H:=sb_ H;rcases H with ⟨rfl,H⟩|⟨rfl,H⟩
                 · obtain rfl:=Option.some.inj H;have hcz77:=cz5 BK717.out;(try clear BK717);go_wp2_with (first|(go_at_call 22;refine ca_ (impl_NameRight.calls _ _ _ _ A69.out) ?_;rintro e w' ⟨rfl,⟨nd,rfl⟩⟩));go_ret;exact fin_ HB
                 replace H:=sq_ H;obtain ⟨t728,A71,H⟩:=H;replace H:=sb_ H;rcases H with ⟨rfl,H⟩|⟨rfl,H⟩
                 · obtain rfl:=Option.some.inj H;have hcz76:=cz5 BK717.out;go_wp2_with (first|(go_at_call 22;refine ca_ (impl_NameRight.calls _ _ _ _ A69.out) ?_;rintro e w' ⟨rfl,⟨nd,rfl⟩⟩;(try clear BK717))|(go_at_call 47;refine ca_ (impl_isMethodName.calls _ _ _ _ A71.out) ?_;rintro e w' ⟨rfl,⟨nd,rfl⟩⟩));go_ret;exact fin_ HB
                 replace H:=sq_ H;obtain ⟨t729,A73,H⟩:=H;obtain rfl:=Option.some.inj H;have hcz74:=cz5 BK717.out;go_wp2_with (first|(go_at_call 22;refine ca_ (impl_NameRight.calls _ _ _ _ A69.out) ?_;rintro e w' ⟨rfl,⟨nd,rfl⟩⟩)|(go_at_call 47;refine ca_ (impl_isMethodName.calls _ _ _ _ A71.out) ?_;rintro e w' ⟨rfl,⟨nd,rfl⟩⟩;(try clear BK717))|(go_at_call 48;refine ca_ (impl_isDesc.calls _ _ _ _ A73.out) ?_;rintro e w75 ⟨rfl,hb⟩;have n0_:=bt_ HB hb;clear HB;have HB:=n0_;clear n0_;clear hb));go_ret;exact fin_ HB
               clear c55;replace H:=se_ H;rcases H with ⟨c56,c56b0,c56b1,H⟩|⟨c56,c56b0,c56b1,H⟩
               · obtain rfl:=Option.some.inj H;have hcz66:=cz5 BK717.out;go_wp2;go_ret;exact fin_ HB
               clear c56;replace H:=sq_ H;obtain ⟨t724,A57,H⟩:=H;replace H:=sb_ H;rcases H with ⟨rfl,H⟩|⟨rfl,H⟩
               · obtain rfl:=Option.some.inj H;have hcz65:=cz5 BK717.out;(try clear BK717);go_wp2_with (first|(go_at_call 22;refine ca_ (impl_NameRight.calls _ _ _ _ A57.out) ?_;rintro e w' ⟨rfl,⟨nd,rfl⟩⟩));go_ret;exact fin_ HB
               replace H:=sq_ H;obtain ⟨t725,A59,H⟩:=H;replace H:=sb_ H;rcases H with ⟨rfl,H⟩|⟨rfl,H⟩
               · obtain rfl:=Option.some.inj H;have hcz64:=cz5 BK717.out;go_wp2_with (first|(go_at_call 22;refine ca_ (impl_NameRight.calls _ _ _ _ A57.out) ?_;rintro e w' ⟨rfl,⟨nd,rfl⟩⟩;(try clear BK717))|(go_at_call 22;refine ca_ (impl_NameRight.calls _ _ _ _ A59.out) ?_;rintro e w' ⟨rfl,⟨nd,rfl⟩⟩));go_ret;exact fin_ HB
               replace H:=sq_ H;obtain ⟨t726,A61,H⟩:=H;obtain rfl:=Option.some.inj H;have hcz62:=cz5 BK717.out;go_wp2_with (first|(go_at_call 22;refine ca_ (impl_NameRight.calls _ _ _ _ A57.out) ?_;rintro e w' ⟨rfl,⟨nd,rfl⟩⟩)|(go_at_call 22;refine ca_ (impl_NameRight.calls _ _ _ _ A59.out) ?_;rintro e w' ⟨rfl,⟨nd,rfl⟩⟩;(try clear BK717))|(go_at_call 23;refine ca_ (impl_typeRight.calls _ _ _ _ A61.out) ?_;rintro e w63 ⟨rfl,hb⟩;have n0_:=bt_ HB hb;clear HB;have HB:=n0_;clear n0_;clear hb));go_ret;exact fin_ HB
             clear c37;replace H:=se_ H;rcases H with ⟨c38,c38b0,c38b1,H⟩|⟨c38,c38b0,c38b1,H⟩
             · obtain rfl:=Option.some.inj H;have hcz54:=cz5 BK717.out;go_wp2;go_ret;exact fin_ HB
             clear c38;replace H:=se_ H;rcases H with ⟨c39,c39b0,c39b1,H⟩|⟨c39,c39b0,c39b1,H⟩
             · obtain rfl:=Option.some.inj H;have hcz53:=cz5 BK717.out;go_wp2;go_ret;exact fin_ HB
             clear c39;replace H:=se_ H;rcases H with ⟨c40,c40b0,c40b1,H⟩|⟨c40,c40b0,c40b1,H⟩
             · obtain rfl:=Option.some.inj H;have hcz52:=cz5 BK717.out;go_wp2;go_ret;exact fin_ HB
             clear c40;replace H:=se_ H;rcases H with ⟨c41,c41b0,c41b1,H⟩|⟨c41,c41b0,c41b1,H⟩
             · replace H:=sq_ H;obtain ⟨t723,A43,H⟩:=H;replace H:=sb_ H;rcases H with ⟨rfl,H⟩|⟨rfl,H⟩
               · obtain rfl:=Option.some.inj H;have hcz50:=cz5 BK717.out;(try clear BK717);go_wp2_with (first|(go_at_call 23;refine ca_ (impl_typeRight.calls _ _ _ _ A43.out) ?_;rintro e w51 ⟨rfl,hb⟩;have n0_:=bt_ HB hb;clear HB;have HB:=n0_;clear n0_;clear hb));go_ret;exact fin_ HB
               replace H:=sn_ H;obtain ⟨c45,H⟩:=H;have c45b0:=decide_eq_true c45;have c45b1:decide (0 < a0_4.size)=true:=decide_eq_true (by omega);clear c45;obtain rfl:=Option.some.inj H;have hcz47:=cz5 BK717.out;go_wp2_with (first|(go_at_call 23;refine ca_ (impl_typeRight.calls _ _ _ _ A43.out) ?_;rintro e w48 ⟨rfl,hb⟩;replace BK717:=kb BK717 hb;replace HB:=bt_ HB hb;clear hb;have hcz49:=cz5 BK717.out;have p46:0≤(0:Int):=(by omega);have q46:0 < a0_4.size:=(by have:(0:Int) < (a0_4.size:Int):=da_;omega);have hx46:∀ h:0 < a0_4.size,((a0_4[0]'h).toNat:Int)=bt a0_4 0:=bt_at a0_4 0;clear p46;have qi46:(0 < (a0_4.size:Int))=True:=eq_true da_;replace q46:=eq_true q46));go_ret;exact fin_ HB
             clear c41;obtain rfl:=Option.some.inj H;have hcz42:=cz5 BK717.out;go_wp2;go_ret;exact fin_ HB
           clear c28;replace H:=se_ H;rcases H with ⟨c29,c29b0,c29b1,H⟩|⟨c29,c29b0,c29b1,H⟩
           · obtain rfl:=Option.some.inj H;have hcz36:=cz5 BK717.out;go_wp2;go_ret;exact fin_ HB
           clear c29;replace H:=sq_ H;obtain ⟨t722,A30,H⟩:=H;replace H:=sb_ H;rcases H with ⟨rfl,H⟩|⟨rfl,H⟩
           · obtain rfl:=Option.some.inj H;have hcz35:=cz5 BK717.out;(try clear BK717);go_wp2_with (first|(go_at_call 22;refine ca_ (impl_NameRight.calls _ _ _ _ A30.out) ?_;rintro e w' ⟨rfl,⟨nd,rfl⟩⟩));go_ret;exact fin_ HB
           replace H:=se_ H;rcases H with ⟨c32,c32b0,c32b1,H⟩|⟨c32,c32b0,c32b1,H⟩
           · obtain rfl:=Option.some.inj H;have hcz34:=cz5 BK717.out;go_wp2_with (first|(go_at_call 22;refine ca_ (impl_NameRight.calls _ _ _ _ A30.out) ?_;rintro e w' ⟨rfl,⟨nd,rfl⟩⟩));go_ret;exact fin_ HB
           clear c32;obtain rfl:=Option.some.inj H;have hcz33:=cz5 BK717.out;go_wp2_with (first|(go_at_call 22;refine ca_ (impl_NameRight.calls _ _ _ _ A30.out) ?_;rintro e w' ⟨rfl,⟨nd,rfl⟩⟩));go_ret;exact fin_ HB
         clear c24;replace H:=sb_ H;rcases H with ⟨rfl,H⟩|⟨rfl,H⟩
         · obtain rfl:=Option.some.inj H;go_wp2;go_ret;exact fin_ HB
         replace H:=sq_ H;obtain ⟨t721,A26,H⟩:=H;obtain rfl:=Option.some.inj H;have hcz27:=cz5 BK717.out;(try clear BK717);go_wp2_with (first|(go_at_call 42;refine ca_ (impl_within.calls _ _ _ _ _ A26.out) ?_;rintro e w' ⟨rfl,⟨nd,rfl⟩⟩));go_ret;exact fin_ HB
       clear c20;replace H:=sb_ H;rcases H with ⟨rfl,H⟩|⟨rfl,H⟩
       · obtain rfl:=Option.some.inj H;go_wp2;go_ret;exact fin_ HB
       replace H:=sq_ H;obtain ⟨t720,A22,H⟩:=H;obtain rfl:=Option.some.inj H;have hcz23:=cz5 BK717.out;(try clear BK717);go_wp2_with (first|(go_at_call 42;refine ca_ (impl_within.calls _ _ _ _ _ A22.out) ?_;rintro e w' ⟨rfl,⟨nd,rfl⟩⟩));go_ret;exact fin_ HB
     clear c16;replace H:=sb_ H;rcases H with ⟨rfl,H⟩|⟨rfl,H⟩
     · obtain rfl:=Option.some.inj H;go_wp2;go_ret;exact fin_ HB
     replace H:=sq_ H;obtain ⟨t719,A18,H⟩:=H;obtain rfl:=Option.some.inj H;have hcz19:=cz5 BK717.out;(try clear BK717);go_wp2_with (first|(go_at_call 82;refine ca_ (impl_isInt.calls _ _ _ A18.out) ?_;rintro e w' ⟨rfl,⟨nd,rfl⟩⟩));go_ret;exact fin_ HB
   clear c13;(first|rw [c13b0]|(simp only [i64_w,i32_w];rw [c13b0])|rw [ie_ c13b0]|skip);replace H:=sb_ H;rcases H with ⟨rfl,H⟩|⟨rfl,H⟩
   · obtain rfl:=Option.some.inj H;go_wp2;go_ret;exact fin_ HB
   obtain rfl:=Option.some.inj H;have hcz15:=cz5 BK717.out;go_wp2;go_ret;exact fin_ HB
end Go.Proofs.Ythleflpkeigboaa.PFnPool
