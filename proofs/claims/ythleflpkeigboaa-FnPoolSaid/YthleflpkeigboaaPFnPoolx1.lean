/- Functions of the program as plain Lean functions, each with a proof that the program's call comes to the same; no condition. Written by a program of this session. -/
import Derived.Test.YthleflpkeigboaaPFnPoolx0
namespace Go.Proofs.Ythleflpkeigboaa.PFnPool
open Go.RowKit Go.Proofs.YthleflpkeigboaaW.PrintWords Go.Proofs.YthleflpkeigboaaW.PrintLast Go.Proofs.YthleflpkeigboaaW.PrintMore
open Go.Proofs.YthleflpkeigboaaW.PrintWords renaming below_alloc→Zba,pw_below_drewN→Zbn,below_drew1→Zbd,below_set→Zbs,below_step→Zbt,blk_drewN→Zkn,blk_drew→Zkd,blk_alloc→Zka,blk_cell→Zkc,blk_frozen→Zkf,blk_far→Zkr
open Go.Proofs.YthleflpkeigboaaW.PrintWords.Aside0 renaming mk→Zm
attribute [local go_sem] max2_int min2_int max_two min_two max_three min_three max_four min_four   -- for this text's walks alone
set_option maxHeartbeats 8000000
set_option maxRecDepth 100000
set_option linter.unusedVariables false
set_option linter.unusedSimpArgs false
def IsS53 (w0 W:World) (g:Nat) (f0:List Int) (f1:Int) (f2:Int) (f3:Int):Prop:=∃ A0 c0,W.heap[g]?=some (.cells #[.slice A0 f0.length c0,.int .i64 f1,.int .u64 f2,.int .i64 f3] 53 (0,0))∧w0.heap.size≤g∧Kd.C (Kd.int .u8) w0 A0 f0.length f0
theorem IsS53.grown {w0 W:World} {g:Nat} {f0:List Int} {f1:Int} {f2:Int} {f3:Int} {W1:World} {row:Option Nat} (h:IsS53 w0 W g f0 f1 f2 f3) (hw:W.grownBy W1 row) (hne:some g≠row):IsS53 w0 W1 g f0 f1 f2 f3:=by
 obtain ⟨A0,c0,hb,hg,hr0⟩:=h;exact ⟨A0,c0,blk_grown hb hw hne,hg,hr0⟩
theorem IsS53.own_neN {w0 W:World} {g:Nat} {f0:List Int} {f1:Int} {f2:Int} {f3:Int} {α:Type} {d:Kd α} {e:Nat} {base:Nat} {ok:Nat→Prop} {v:Value} {xs:List α} (h:IsS53 w0 W g f0 f1 f2 f3) (ho:Kd.N d e W base ok v xs) (ht:e≠53):some g≠v.ownBlock:=by
 obtain ⟨A0,c0,hb,hg,hr0⟩:=h;exact Kd.N_ne ho hb ht
theorem IsS53.fresh {w0 W:World} {g:Nat} {f0:List Int} {f1:Int} {f2:Int} {f3:Int} (h:IsS53 w0 W g f0 f1 f2 f3):∀ k,W.heap.size≤k→k≠g:=by
 obtain ⟨A0,c0,hb,hg,hr0⟩:=h;exact Kd.freshB hb
theorem IsS53.kept {w0 W:World} {g:Nat} {f0:List Int} {f1:Int} {f2:Int} {f3:Int} {W1:World} {S:Nat→Prop} (h:IsS53 w0 W g f0 f1 f2 f3) (hk:Kept W W1 S) (hne:¬ S g):IsS53 w0 W1 g f0 f1 f2 f3:=by
 obtain ⟨A0,c0,hb,hg,hr0⟩:=h;exact ⟨A0,c0,blk_kept hb hk hne,hg,hr0⟩
theorem IsS53.below {w0 W:World} {g:Nat} {f0:List Int} {f1:Int} {f2:Int} {f3:Int} {W1:World} (h:IsS53 w0 W g f0 f1 f2 f3) (hw:Below W.heap.size W W1):IsS53 w0 W1 g f0 f1 f2 f3:=h.grown (grown_of_below hw none) (by simp)
theorem IsS53.alloc {w0 W:World} {g:Nat} {f0:List Int} {f1:Int} {f2:Int} {f3:Int} (h:IsS53 w0 W g f0 f1 f2 f3) (o:Obj):IsS53 w0 (W.alloc o) g f0 f1 f2 f3:=h.below (Zba (Below.refl _ _) o)
theorem IsS53.drewN {w0 W:World} {g:Nat} {f0:List Int} {f1:Int} {f2:Int} {f3:Int} (h:IsS53 w0 W g f0 f1 f2 f3) (m:Nat):IsS53 w0 (W.drewN m) g f0 f1 f2 f3:=h
theorem IsS53.drew {w0 W:World} {g:Nat} {f0:List Int} {f1:Int} {f2:Int} {f3:Int} (h:IsS53 w0 W g f0 f1 f2 f3):IsS53 w0 W.drew g f0 f1 f2 f3:=h
theorem IsS53.at_ {w0 W:World} {g:Nat} {f0:List Int} {f1:Int} {f2:Int} {f3:Int} {w':World} {m:Nat} (hq:W.drewN m=w') (h:IsS53 w0 W g f0 f1 f2 f3):IsS53 w0 w' g f0 f1 f2 f3:=by subst hq;exact IsS53.drewN h m
theorem IsS53.apart {w0 W:World} {g:Nat} {f0:List Int} {f1:Int} {f2:Int} {f3:Int} {α:Type} {d:Kd α} {e:Nat} {base:Nat} {ok:Nat→Prop} {v:Value} {xs:List α} (h:IsS53 w0 W g f0 f1 f2 f3) (ho:d.R e W base ok v xs) (ht:∀ q,q∈e :: d.E→q≠53):d.R e W base (fun k=>ok k∧k≠g) v xs:=by
 obtain ⟨A0,c0,hb,hg,hr0⟩:=h;exact Kd.R_types ho hb ht
theorem IsS53.own_ne {w0 W:World} {g:Nat} {f0:List Int} {f1:Int} {f2:Int} {f3:Int} {α:Type} {d:Kd α} {e:Nat} {base:Nat} {ok:Nat→Prop} {v:Value} {xs:List α} (h:IsS53 w0 W g f0 f1 f2 f3) (ho:d.R e W base ok v xs) (ht:e≠53):some g≠v.ownBlock:=by
 obtain ⟨A0,c0,hb,hg,hr0⟩:=h;exact Kd.R_ne ho hb ht
theorem IsS53.apartQ {w0 W:World} {g:Nat} {f0:List Int} {f1:Int} {f2:Int} {f3:Int} {α:Type} {d:Kd α} {e:Nat} {base:Nat} {ok:Nat→Prop} {v:Value} {xs:List α} (h:IsS53 w0 W g f0 f1 f2 f3) (ho:d.Q e W base ok v xs) (ht:∀ q,q∈e :: d.E→q≠53):d.Q e W base (fun k=>ok k∧k≠g) v xs:=by
 obtain ⟨A0,c0,hb,hg,hr0⟩:=h;exact Kd.Q_types ho hb ht
theorem IsS53.own_neQ {w0 W:World} {g:Nat} {f0:List Int} {f1:Int} {f2:Int} {f3:Int} {α:Type} {d:Kd α} {e:Nat} {base:Nat} {ok:Nat→Prop} {v:Value} {xs:List α} (h:IsS53 w0 W g f0 f1 f2 f3) (ho:d.Q e W base ok v xs) (ht:e≠53):some g≠v.ownBlock:=by
 obtain ⟨A0,c0,hb,hg,hr0⟩:=h;exact Kd.Q_ne ho hb ht
theorem IsS53.apartS {w0 W:World} {g:Nat} {f0:List Int} {f1:Int} {f2:Int} {f3:Int} {α:Type} {d:Kd α} {e:Nat} {base:Nat} {ok:Nat→Prop} {v:Value} {xs:List α} (h:IsS53 w0 W g f0 f1 f2 f3) (ho:d.S e W base ok v xs) (ht:∀ q,q∈e :: d.E→q≠53):d.S e W base (fun k=>ok k∧k≠g) v xs:=by
 obtain ⟨A0,c0,hb,hg,hr0⟩:=h;exact Kd.S_types ho hb ht
theorem IsS53.own_neS {w0 W:World} {g:Nat} {f0:List Int} {f1:Int} {f2:Int} {f3:Int} {α:Type} {d:Kd α} {e:Nat} {base:Nat} {ok:Nat→Prop} {v:Value} {xs:List α} (h:IsS53 w0 W g f0 f1 f2 f3) (ho:d.S e W base ok v xs) (ht:e≠53):some g≠v.ownBlock:=by
 obtain ⟨A0,c0,hb,hg,hr0⟩:=h;exact Kd.S_ne ho hb ht
theorem IsS53.lt {w0 W:World} {g:Nat} {f0:List Int} {f1:Int} {f2:Int} {f3:Int} (h:IsS53 w0 W g f0 f1 f2 f3):g < W.heap.size:=by
 obtain ⟨A0,c0,hb,hg,hr0⟩:=h;exact blk_lt hb
theorem IsS53.ge {w0 W:World} {g:Nat} {f0:List Int} {f1:Int} {f2:Int} {f3:Int} (h:IsS53 w0 W g f0 f1 f2 f3):w0.heap.size≤g:=by
 obtain ⟨A0,c0,hb,hg,hr0⟩:=h;exact hg
theorem IsS53.ne_blk {w0 W:World} {g:Nat} {f0:List Int} {f1:Int} {f2:Int} {f3:Int} {a:Nat} {cs:Array Value} {t:TypeId} {fr:Nat×Nat} (h:IsS53 w0 W g f0 f1 f2 f3) (hb2:W.heap[a]?=some (.cells cs t fr)) (ht:t≠53):g≠a:=by
 obtain ⟨A0,c0,hb,hg,hr0⟩:=h;rintro rfl;rw [hb] at hb2;injection hb2 with hb2;injection hb2 with _ ht2;exact ht ht2.symm
theorem IsS53.far {w0 W:World} {g:Nat} {f0:List Int} {f1:Int} {f2:Int} {f3:Int} {p:Addr} (h:IsS53 w0 W g f0 f1 f2 f3) (hne:g≠p.block) (u:Value):IsS53 w0 (W.setCell p u) g f0 f1 f2 f3:=by
 obtain ⟨A0,c0,hb,hg,hr0⟩:=h;exact ⟨A0,c0,Zkr hb hne u,hg,hr0⟩
theorem cellS53_0 {W:World} {g:Nat} {A0:Option Addr} {c0:Nat} {f0:List Int} {f1:Int} {f2:Int} {f3:Int} (h:W.heap[g]?=some (.cells #[.slice A0 f0.length c0,.int .i64 f1,.int .u64 f2,.int .i64 f3] 53 (0,0))):W.cell? ⟨g,0,none⟩=some (.slice A0 f0.length c0):=(Zkc h 0).trans rfl
theorem cellS53_1 {W:World} {g:Nat} {A0:Option Addr} {c0:Nat} {f0:List Int} {f1:Int} {f2:Int} {f3:Int} (h:W.heap[g]?=some (.cells #[.slice A0 f0.length c0,.int .i64 f1,.int .u64 f2,.int .i64 f3] 53 (0,0))):W.cell? ⟨g,1,none⟩=some (.int .i64 f1):=(Zkc h 1).trans rfl
theorem IsS53.set_1 {w0 W:World} {g:Nat} {f0:List Int} {f1:Int} {f2:Int} {f3:Int} (h:IsS53 w0 W g f0 f1 f2 f3) (x:Int):IsS53 w0 (W.setCell ⟨g,1,none⟩ (.int .i64 x)) g f0 x f2 f3:=by
 obtain ⟨A0,c0,hb,hg,hr0⟩:=h;exact ⟨A0,c0,by simpa using blk_set hb 1 (.int .i64 x),hg,hr0⟩
theorem cellS53_2 {W:World} {g:Nat} {A0:Option Addr} {c0:Nat} {f0:List Int} {f1:Int} {f2:Int} {f3:Int} (h:W.heap[g]?=some (.cells #[.slice A0 f0.length c0,.int .i64 f1,.int .u64 f2,.int .i64 f3] 53 (0,0))):W.cell? ⟨g,2,none⟩=some (.int .u64 f2):=(Zkc h 2).trans rfl
theorem IsS53.set_2 {w0 W:World} {g:Nat} {f0:List Int} {f1:Int} {f2:Int} {f3:Int} (h:IsS53 w0 W g f0 f1 f2 f3) (x:Int):IsS53 w0 (W.setCell ⟨g,2,none⟩ (.int .u64 x)) g f0 f1 x f3:=by
 obtain ⟨A0,c0,hb,hg,hr0⟩:=h;exact ⟨A0,c0,by simpa using blk_set hb 2 (.int .u64 x),hg,hr0⟩
theorem cellS53_3 {W:World} {g:Nat} {A0:Option Addr} {c0:Nat} {f0:List Int} {f1:Int} {f2:Int} {f3:Int} (h:W.heap[g]?=some (.cells #[.slice A0 f0.length c0,.int .i64 f1,.int .u64 f2,.int .i64 f3] 53 (0,0))):W.cell? ⟨g,3,none⟩=some (.int .i64 f3):=(Zkc h 3).trans rfl
theorem IsS53.set_3 {w0 W:World} {g:Nat} {f0:List Int} {f1:Int} {f2:Int} {f3:Int} (h:IsS53 w0 W g f0 f1 f2 f3) (x:Int):IsS53 w0 (W.setCell ⟨g,3,none⟩ (.int .i64 x)) g f0 f1 f2 x:=by
 obtain ⟨A0,c0,hb,hg,hr0⟩:=h;exact ⟨A0,c0,by simpa using blk_set hb 3 (.int .i64 x),hg,hr0⟩
theorem IsS53.new (w0 W:World) (A0:Option Addr) (c0:Nat) (f0:List Int) (f1:Int) (f2:Int) (f3:Int) (hB:Below w0.heap.size w0 W) (hr0:Kd.C (Kd.int .u8) w0 A0 f0.length f0):IsS53 w0 (W.alloc (.cells #[.slice A0 f0.length c0,.int .i64 f1,.int .u64 f2,.int .i64 f3] 53)) W.heap.size f0 f1 f2 f3:=⟨A0,c0,by simpa using heap_alloc_new W _,hB.size,hr0⟩
theorem sS53_ {w0 W:World} {g:Nat} {f0:List Int} {f1:Int} {f2:Int} {f3:Int} (h:IsS53 w0 W g f0 f1 f2 f3:=by repeat (first|(with_reducible first|(refine Aside0.out ?_;assumption)|apply IsS53.alloc|apply IsS53.drewN|apply IsS53.drew|apply IsS53.set_1|apply IsS53.set_2|apply IsS53.set_3|refine IsS53.far ?_ (Aside0.out (by assumption)) _)|(refine Aside0.out ?_;assumption))):IsS53 w0 W g f0 f1 f2 f3:=h
theorem hb53_ {w W:World} (h:Below w.heap.size w W:=by repeat (first|(with_reducible first|(refine Aside0.out ?_;assumption)|apply below_alloc|apply pw_below_drewN|apply below_drew1|refine below_set ?_ (Aside0.out (by assumption))|refine below_set ?_ (IsS53.ge (Aside0.out (by assumption))))|(refine Aside0.out ?_;assumption))):Below w.heap.size w W:=h
def spec_l01Source.l0:Nat→List Int→Int→List Int→Int→Int→Int→Option (List Int×Int×Int×Int)
 | 0,_,_,_,_,_,_=>none
 | k+1,x0,x4,x102000,x102001,x102002,x102003=>if x4 < (x0.length:Int) then (if x4 < 64 then (if 0≤x4 then (spec_l01Source.l0 k x0 (wrap64 (x4+1)) x102000 x102001 (IntKind.u64.wrap ((Go.bits .xor .u64 x102002 (IntKind.u64.wrap (rd x0 x4)))*1099511628211)) x102003) else (none)) else (if (wrap64 ((x0.length:Int) / 20)) > 12 then (some (x102000,x102001,x102002,12)) else (some (x102000,x102001,x102002,wrap64 ((x0.length:Int) / 20))))) else (if (wrap64 ((x0.length:Int) / 20)) > 12 then (some (x102000,x102001,x102002,12)) else (some (x102000,x102001,x102002,wrap64 ((x0.length:Int) / 20))))
def spec_l01Source.f (k:Nat) (l0:List Int):Option (List Int×Int×Int×Int):=spec_l01Source.l0 k l0 0 l0 0 88172645463325252 0
theorem spec_l01Source.mono_l:∀ k,(∀ y0 y1 y2 y3 y4 y5,LeO (spec_l01Source.l0 k y0 y1 y2 y3 y4 y5) (spec_l01Source.l0 (k+1) y0 y1 y2 y3 y4 y5))
 | 0=>by intros;intro r h;simp [spec_l01Source.l0] at h
 | k+1=>by
  have ih0:=spec_l01Source.mono_l k;intros;unfold spec_l01Source.l0;exact mo_
theorem spec_l01Source.mono:∀ a0 k,LeO (spec_l01Source.f k a0) (spec_l01Source.f (k+1) a0):=by
 intro a0 k;have ih0:=spec_l01Source.mono_l k;unfold spec_l01Source.f;exact mo_
theorem spec_l01Source.calls (k:Nat) (A0:Option Addr) (c0:Nat) (l0:List Int) (r1:List Int) (r2:Int) (r3:Int) (r4:Int) (w0 w:World) (hB:Below w0.heap.size w0 w) (hr0:Kd.C (Kd.int .u8) w0 A0 l0.length l0) (hc0:l0.length≤c0) (h:spec_l01Source.f k l0=some (r1,r2,r3,r4)):
 Calls Try.prog 8 #[.slice A0 l0.length c0] w fun e w'=>∃ g_:Nat,e=.returned (.pointer (some ⟨g_,0,none⟩))∧IsS53 w0 w' g_ r1 r2 r3 r4∧Below w0.heap.size w0 w'∧Below w.heap.size w w':=by
 have hu53:=Try.underlying53;have HR0:=Zm hr0;have HC0:=Zm hc0;clear hr0 hc0;have HBW:=Zm (Below.refl w.heap.size w);have HW0:=Zm hB.size;have HB:=Zm hB;clear hB;have H:=h;clear h;unfold spec_l01Source.f at H;have HBW0:=HB;have H':=Zm H;clear H;go_enter Try.func8,Try.ntmps8;go_wp2_with (first|((with_reducible refine gate_dst (N:=7) rfl ?_);refine bx_ 7 53 #[.slice A0 l0.length c0,.int .i64 0,.int .u64 88172645463325252,.int .i64 0] ?_;intro gb hg w2 hbox hb;have n0_:=Zm (Zbt HBW.out hb);have n1_:=Zm (Zbt HB.out hb);have n2_:=Zm hbox;have n3_:=Zm ((by rw [hg];exact Nat.le_refl _):w.heap.size≤gb);have n4_:=Zm ((Nat.le_trans HW0.out (by rw [hg];exact Nat.le_refl _)):w0.heap.size≤gb);clear HBW;clear HB;have HBW:=n0_;have HB:=n1_;have BK:=n2_;have GW:=n3_;have GE:=n4_;clear n0_ n1_ n2_ n3_ n4_;clear hb hbox hg));go_loopg [4] k (fun kq v4 w'=>∃ (x4:Int) (m:Int),v4=.int .i64 x4∧Aside0 (spec_l01Source.l0 kq l0 x4 l0 0 m 0=some (r1,r2,r3,r4))∧Aside0 (kq≤k)∧Aside0 (w'.heap[gb]?=some (.cells #[(.slice A0 l0.length c0),.int .i64 0,.int .u64 m,.int .i64 0] 53 (0,0)))∧Aside0 (Below w0.heap.size w0 w')∧Aside0 (Below w.heap.size w w'))
 case atStart=>exact ⟨(0),(88172645463325252),rfl,H',⟨Nat.le_refl _⟩,⟨BK.out⟩,⟨HB.out⟩,⟨HBW.out⟩⟩
 case round=>
  clear H' BK HB HBW;obtain ⟨x4,m,rfl,HA,HK1,BK,HB,HBW⟩:=hrel
  cases gk with
  | zero=>exact absurd HA.out (by simp [spec_l01Source.l0])
  | succ k1=>
   have H:=HA.out;clear HA;simp only [spec_l01Source.l0] at H;have f0:wr.cell? ⟨gb,0,none⟩=some (.slice A0 l0.length c0):=(Zkc BK.out 0).trans rfl;have f2:wr.cell? ⟨gb,2,none⟩=some (.int .u64 m):=(Zkc BK.out 2).trans rfl;have f3:wr.cell? ⟨gb,3,none⟩=some (.int .i64 0):=(Zkc BK.out 3).trans rfl;have z2:=Zkf BK.out 2;have z3:=Zkf BK.out 3;have k3:∀ (u:Value),(wr.setCell ⟨gb,3,none⟩ u).cell? ⟨gb,3,none⟩=some u:=fun u=>(Zkc (blk_set BK.out 3 u) 3).trans (by simp)
   replace H:=sp_ H;rcases H with ⟨c3,H⟩|⟨c3,H⟩
   · have c3b:decide (x4 < (l0.length:Int))=false:=decide_eq_false c3;by_cases c8:(wrap64 ((l0.length:Int) / 20)) > 12;rotate_left
     · have c8b:decide (12 < (wrap64 ((l0.length:Int) / 20)))=false:=decide_eq_false c8;rw [if_neg c8] at H;simp only [Option.some.injEq,Prod.mk.injEq] at H;obtain ⟨rfl,rfl,rfl,rfl⟩:=H;go_wp2;go_ret;exact ⟨_,rfl,⟨A0,c0,(blk_set BK.out 3 _).trans (by simp),GE.out,HR0.out⟩,by repeat (with_reducible first|exact HB.out|apply Zbn|apply Zbd|refine Zbs ?_ GE.out),by repeat (with_reducible first|exact HBW.out|apply Zbn|apply Zbd|refine Zbs ?_ GW.out)⟩
     have c8b:decide (12 < (wrap64 ((l0.length:Int) / 20)))=true:=decide_eq_true c8;rw [if_pos c8] at H;simp only [Option.some.injEq,Prod.mk.injEq] at H;obtain ⟨rfl,rfl,rfl,rfl⟩:=H;go_wp2;go_ret;exact ⟨_,rfl,⟨A0,c0,(blk_set (blk_set BK.out 3 _) 3 _).trans (by simp),GE.out,HR0.out⟩,by repeat (with_reducible first|exact HB.out|apply Zbn|apply Zbd|refine Zbs ?_ GE.out),by repeat (with_reducible first|exact HBW.out|apply Zbn|apply Zbd|refine Zbs ?_ GW.out)⟩
   have c3b:decide (x4 < (l0.length:Int))=true:=decide_eq_true c3;replace H:=sp_ H;rcases H with ⟨c4,H⟩|⟨c4,H⟩
   · have c4b:decide (x4 < 64)=false:=decide_eq_false c4;by_cases c8:(wrap64 ((l0.length:Int) / 20)) > 12;rotate_left
     · have c8b:decide (12 < (wrap64 ((l0.length:Int) / 20)))=false:=decide_eq_false c8;rw [if_neg c8] at H;simp only [Option.some.injEq,Prod.mk.injEq] at H;obtain ⟨rfl,rfl,rfl,rfl⟩:=H;go_wp2;go_ret;exact ⟨_,rfl,⟨A0,c0,(blk_set BK.out 3 _).trans (by simp),GE.out,HR0.out⟩,by repeat (with_reducible first|exact HB.out|apply Zbn|apply Zbd|refine Zbs ?_ GE.out),by repeat (with_reducible first|exact HBW.out|apply Zbn|apply Zbd|refine Zbs ?_ GW.out)⟩
     have c8b:decide (12 < (wrap64 ((l0.length:Int) / 20)))=true:=decide_eq_true c8;rw [if_pos c8] at H;simp only [Option.some.injEq,Prod.mk.injEq] at H;obtain ⟨rfl,rfl,rfl,rfl⟩:=H;go_wp2;go_ret;exact ⟨_,rfl,⟨A0,c0,(blk_set (blk_set BK.out 3 _) 3 _).trans (by simp),GE.out,HR0.out⟩,by repeat (with_reducible first|exact HB.out|apply Zbn|apply Zbd|refine Zbs ?_ GE.out),by repeat (with_reducible first|exact HBW.out|apply Zbn|apply Zbd|refine Zbs ?_ GW.out)⟩
   have c4b:decide (x4 < 64)=true:=decide_eq_true c4;replace H:=sn_ H;obtain ⟨c5,H⟩:=H;have c5b:decide (0≤x4)=true:=decide_eq_true c5;have H':=Zm H;clear H;obtain ⟨ad,rfl,hx0⟩:=Kd.at_int HR0.out x4 c5 c3;have hx:=pw_cell_below HB.out hx0;clear hx0 k3 f3 z3;go_wp2;go_region;go_wp2;go_roundg k1
   case measure=>have:=HK1.out;omega
   case rel=>exact ⟨wrap64 (x4+1),IntKind.u64.wrap ((Go.bits .xor .u64 m (IntKind.u64.wrap (rd l0 x4)))*1099511628211),(by first|rfl|(have e:wrap64 (x4+1)=x4+1:=(by unfold wrap64;omega);rw [e])),H',⟨by have:=HK1.out;omega⟩,⟨by (with_reducible repeat (first|refine Zkn ?_ _|refine Zkd ?_|refine Zka ?_ _));exact (blk_set BK.out 2 _).trans (by simp)⟩,⟨by repeat (with_reducible first|exact HB.out|apply Zbn|apply Zbd|refine Zbs ?_ GE.out)⟩,⟨by repeat (with_reducible first|exact HBW.out|apply Zbn|apply Zbd|refine Zbs ?_ GW.out)⟩⟩
def spec_l01NameByte.f (a0:Int) (a1:Bool):Option (Bool):=if a0 ≥ 97 then (if a0≤122 then (some true) else (if a0 ≥ 65 then (if a0≤90 then (some true) else (if a0=36 then (some true) else (if a1=true then (some false) else (if a0 ≥ 48 then (some (decide (a0≤57))) else (some false))))) else (if a0=36 then (some true) else (if a1=true then (some false) else (if a0 ≥ 48 then (some (decide (a0≤57))) else (some false)))))) else (if a0 ≥ 65 then (if a0≤90 then (some true) else (if a0=36 then (some true) else (if a1=true then (some false) else (if a0 ≥ 48 then (some (decide (a0≤57))) else (some false))))) else (if a0=36 then (some true) else (if a1=true then (some false) else (if a0 ≥ 48 then (some (decide (a0≤57))) else (some false)))))
theorem spec_l01NameByte.calls (a0:Int) (a1:Bool) (r:Bool) (w:World) (h:spec_l01NameByte.f a0 a1=some r):
 Calls Try.prog 33 #[.int .u8 a0,.bool a1] w fun e w'=>e=.returned (.bool r)∧Drawn0 w w':=by
 have H:=h;clear h;unfold spec_l01NameByte.f at H;replace H:=sp_ H;rcases H with ⟨c3,H⟩|⟨c3,H⟩
 · have c3b0:decide (97≤a0)=false:=decide_eq_false c3;clear c3;replace H:=sp_ H;rcases H with ⟨c13,H⟩|⟨c13,H⟩
   · have c13b0:decide (65≤a0)=false:=decide_eq_false c13;clear c13;replace H:=se_ H;rcases H with ⟨c18,c18b0,c18b1,H⟩|⟨c18,c18b0,c18b1,H⟩
     · replace H:=sb_ H;rcases H with ⟨rfl,H⟩|⟨rfl,H⟩
       · replace H:=sp_ H;rcases H with ⟨c20,H⟩|⟨c20,H⟩
         · have c20b0:decide (48≤a0)=false:=decide_eq_false c20;clear c20;obtain rfl:=Option.some.inj H;go_enter Try.func33,Try.ntmps33;go_wp2;go_ret;exact fd_
         have c20b0:decide (48≤a0)=true:=decide_eq_true c20;clear c20;obtain rfl:=Option.some.inj H;go_enter Try.func33,Try.ntmps33;go_wp2;go_ret;exact fd_
       obtain rfl:=Option.some.inj H;go_enter Try.func33,Try.ntmps33;go_wp2;go_ret;exact fd_
     clear c18;obtain rfl:=Option.some.inj H;go_enter Try.func33,Try.ntmps33;go_wp2;go_ret;exact fd_
   have c13b0:decide (65≤a0)=true:=decide_eq_true c13;clear c13;replace H:=sd_ H;rcases H with ⟨c14b0,H⟩|⟨c14b0,H⟩
   · replace H:=se_ H;rcases H with ⟨c15,c15b0,c15b1,H⟩|⟨c15,c15b0,c15b1,H⟩
     · replace H:=sb_ H;rcases H with ⟨rfl,H⟩|⟨rfl,H⟩
       · replace H:=sp_ H;rcases H with ⟨c17,H⟩|⟨c17,H⟩
         · have c17b0:decide (48≤a0)=false:=decide_eq_false c17;clear c17;obtain rfl:=Option.some.inj H;go_enter Try.func33,Try.ntmps33;go_wp2;go_ret;exact fd_
         have c17b0:decide (48≤a0)=true:=decide_eq_true c17;clear c17;obtain rfl:=Option.some.inj H;go_enter Try.func33,Try.ntmps33;go_wp2;go_ret;exact fd_
       obtain rfl:=Option.some.inj H;go_enter Try.func33,Try.ntmps33;go_wp2;go_ret;exact fd_
     clear c15;obtain rfl:=Option.some.inj H;go_enter Try.func33,Try.ntmps33;go_wp2;go_ret;exact fd_
   obtain rfl:=Option.some.inj H;go_enter Try.func33,Try.ntmps33;go_wp2;go_ret;exact fd_
 have c3b0:decide (97≤a0)=true:=decide_eq_true c3;clear c3;replace H:=sd_ H;rcases H with ⟨c4b0,H⟩|⟨c4b0,H⟩
 · replace H:=sp_ H;rcases H with ⟨c5,H⟩|⟨c5,H⟩
   · have c5b0:decide (65≤a0)=false:=decide_eq_false c5;clear c5;replace H:=se_ H;rcases H with ⟨c10,c10b0,c10b1,H⟩|⟨c10,c10b0,c10b1,H⟩
     · replace H:=sb_ H;rcases H with ⟨rfl,H⟩|⟨rfl,H⟩
       · replace H:=sp_ H;rcases H with ⟨c12,H⟩|⟨c12,H⟩
         · have c12b0:decide (48≤a0)=false:=decide_eq_false c12;clear c12;obtain rfl:=Option.some.inj H;go_enter Try.func33,Try.ntmps33;go_wp2;go_ret;exact fd_
         have c12b0:decide (48≤a0)=true:=decide_eq_true c12;clear c12;obtain rfl:=Option.some.inj H;go_enter Try.func33,Try.ntmps33;go_wp2;go_ret;exact fd_
       obtain rfl:=Option.some.inj H;go_enter Try.func33,Try.ntmps33;go_wp2;go_ret;exact fd_
     clear c10;obtain rfl:=Option.some.inj H;go_enter Try.func33,Try.ntmps33;go_wp2;go_ret;exact fd_
   have c5b0:decide (65≤a0)=true:=decide_eq_true c5;clear c5;replace H:=sd_ H;rcases H with ⟨c6b0,H⟩|⟨c6b0,H⟩
   · replace H:=se_ H;rcases H with ⟨c7,c7b0,c7b1,H⟩|⟨c7,c7b0,c7b1,H⟩
     · replace H:=sb_ H;rcases H with ⟨rfl,H⟩|⟨rfl,H⟩
       · replace H:=sp_ H;rcases H with ⟨c9,H⟩|⟨c9,H⟩
         · have c9b0:decide (48≤a0)=false:=decide_eq_false c9;clear c9;obtain rfl:=Option.some.inj H;go_enter Try.func33,Try.ntmps33;go_wp2;go_ret;exact fd_
         have c9b0:decide (48≤a0)=true:=decide_eq_true c9;clear c9;obtain rfl:=Option.some.inj H;go_enter Try.func33,Try.ntmps33;go_wp2;go_ret;exact fd_
       obtain rfl:=Option.some.inj H;go_enter Try.func33,Try.ntmps33;go_wp2;go_ret;exact fd_
     clear c7;obtain rfl:=Option.some.inj H;go_enter Try.func33,Try.ntmps33;go_wp2;go_ret;exact fd_
   obtain rfl:=Option.some.inj H;go_enter Try.func33,Try.ntmps33;go_wp2;go_ret;exact fd_
 obtain rfl:=Option.some.inj H;go_enter Try.func33,Try.ntmps33;go_wp2;go_ret;exact fd_
mutual
def spec_NameRight.j0:Nat→ByteArray→Bool→Option (Bool)
 | 0,_,_=>none
 | k+1,x0,x11=>if x11=true then (some false) else (spec_NameRight.l0 k x0 0)
def spec_NameRight.l0:Nat→ByteArray→Int→Option (Bool)
 | 0,_,_=>none
 | k+1,x0,x3=>if x3 < (x0.size:Int) then (if 0≤x3 then ((spec_l01NameByte.f (bt x0 x3) (x3 == 0)).bind fun t103=>(if t103=true then (spec_NameRight.l0 k x0 (wrap64 (x3+1))) else (some false))) else (none)) else (some true)
end
def spec_NameRight.f (k:Nat) (a0:ByteArray):Option (Bool):=if (a0.size:Int) < 1 then (spec_NameRight.j0 k a0 true) else (spec_NameRight.j0 k a0 (decide ((a0.size:Int) > 20)))
theorem spec_NameRight.mono_l:∀ k,(∀ y0 y1,LeO (spec_NameRight.j0 k y0 y1) (spec_NameRight.j0 (k+1) y0 y1))∧(∀ y0 y1,LeO (spec_NameRight.l0 k y0 y1) (spec_NameRight.l0 (k+1) y0 y1))
 | 0=>by refine ⟨?_,?_⟩ <;> (intros;intro r h;simp [spec_NameRight.j0,spec_NameRight.l0] at h)
 | k+1=>by
  obtain ⟨ih0,ih1⟩:=spec_NameRight.mono_l k;refine ⟨?_,?_⟩ <;> (intros;(first|unfold spec_NameRight.j0|unfold spec_NameRight.l0)) <;> exact mo_
theorem spec_NameRight.mono:∀ a0 k,LeO (spec_NameRight.f k a0) (spec_NameRight.f (k+1) a0):=by
 intro a0 k;obtain ⟨ih0,ih1⟩:=spec_NameRight.mono_l k;unfold spec_NameRight.f;exact mo_
theorem spec_NameRight.calls (k:Nat) (a0:ByteArray) (r:Bool) (w:World) (h:spec_NameRight.f k a0=some r):
 Calls Try.prog 12 #[.string a0] w fun e w'=>e=.returned (.bool r)∧Drawn0 w w':=by
 have H:=h;clear h;unfold spec_NameRight.f at H;have HC2:=Zm H;clear H;go_enter Try.func12,Try.ntmps12;go_upto_region 1 with (fail);go_cut [11] (fun v11 wc=>∃ (kq:Nat) (x11_1:Bool),v11=.bool x11_1∧Aside0 (spec_NameRight.j0 kq a0 x11_1=some r)∧Aside0 (kq≤k)∧Drawn0 w wc)
 case first=>
  have H:=HC2.out;clear HC2;replace H:=sp_ H;rcases H with ⟨c3,H⟩|⟨c3,H⟩
  · have c3b0:=decide_eq_false c3;have c3b1:decide (a0.size < 1)=false:=decide_eq_false (by omega);clear c3;(first|rw [c3b0]|(simp only [i64_w,i32_w];rw [c3b0])|skip);have H':=Zm H;clear H;go_wp2;go_meet
    case rel=>exact ⟨_,(decide ((a0.size:Int) > 20)),s1_,H',⟨o1_⟩,dn_⟩
  have c3b0:=decide_eq_true c3;have c3b1:decide (a0.size < 1)=true:=decide_eq_true (by omega);clear c3;(first|rw [c3b0]|(simp only [i64_w,i32_w];rw [c3b0])|skip);have H':=Zm H;clear H;go_wp2;go_meet
  case rel=>exact ⟨_,(true),s1_,H',⟨o1_⟩,dn_⟩
 case rest=>
  clear HC2;obtain ⟨kq,x11_1,rfl,HA,HJ1,⟨mc1,rfl⟩⟩:=hcut
  cases kq with
  | zero=>exact absurd HA.out (by simp [spec_NameRight.j0])
  | succ kj1=>
   have H:=HA.out;clear HA;simp only [spec_NameRight.j0] at H;replace H:=sb_ H;rcases H with ⟨rfl,H⟩|⟨rfl,H⟩
   · have H':=Zm H;clear H;go_wp2;go_loopg [3] kj1 (fun kq v3 w'=>∃ (x3_2:Int),v3=.int .i64 x3_2∧Aside0 (spec_NameRight.l0 kq a0 x3_2=some r)∧Aside0 (kq≤kj1)∧Drawn0 w w')
     case atStart=>exact ⟨(0),s1_,H',⟨Nat.le_refl _⟩,dn_⟩
     case round=>
      clear H';(try clear c4);obtain ⟨x3_2,rfl,HA,HK2,⟨m2,rfl⟩⟩:=hrel
      cases gk with
      | zero=>exact absurd HA.out (by simp [spec_NameRight.l0])
      | succ k2=>
       have H:=HA.out;clear HA;simp only [spec_NameRight.l0] at H;replace H:=sd_ H;rcases H with ⟨c5b0,H⟩|⟨c5b0,H⟩
       · obtain rfl:=Option.some.inj H;go_wp2;go_ret;exact fd_
       replace H:=snd_ H;obtain ⟨c6b0,H⟩:=H;replace H:=sq_ H;obtain ⟨t103,A8,H⟩:=H;have HC9:=Zm H;clear H;have p7:0≤(x3_2:Int):=da_;have q7:x3_2 < (a0.size:Int):=da_;have hx7:=bt_at a0 x3_2;replace p7:=eq_true p7;replace q7:=eq_true q7;go_upto_if 24 with (first|((with_reducible refine gate_callee (f:=33) rfl ?_);refine ge_ (some 23) Try.func33 #[.int .u8 (bt a0 x3_2),.bool (x3_2 == 0)] ?_;(with_reducible refine (spec_l01NameByte.calls _ _ _ _ A8.out).mono ?_);rintro e w' ⟨rfl,⟨nd,rfl⟩⟩;refine ⟨_,rfl,?_⟩));have H:=HC9.out;clear HC9;replace H:=sb_ H;rcases H with ⟨rfl,H⟩|⟨rfl,H⟩
       · obtain rfl:=Option.some.inj H;go_wp2;go_ret;exact fd_
       have H':=Zm H;clear H;go_wp2;go_roundg k2
       case measure=>have:=HJ1.out;have:=HK2.out;omega
       case rel=>exact ⟨(wrap64 (x3_2+1)),s1_,H',⟨by have:=HJ1.out;have:=HK2.out;omega⟩,dn_⟩
   obtain rfl:=Option.some.inj H;go_wp2;go_ret;exact fd_
end Go.Proofs.Ythleflpkeigboaa.PFnPool
