/- The pool of a drawn right class has no text twice, begins with its name and its super, and has each method's name. -/
import Derived.Test.YthleflpkeigboaaPFnPoolx23
namespace Go.Proofs.Ythleflpkeigboaa.Pure
open Go.RowKit Go.Proofs.Ythleflpkeigboaa.PFnPool Go.Proofs.YthleflpkeigboaaW.PrintWords Go.Proofs.YthleflpkeigboaaW.PrintLast
set_option linter.unusedVariables false
set_option linter.unusedSimpArgs false
def LW:List ByteArray:=[⟨#[]⟩,⟨#[49,97]⟩,⟨#[97,32,98]⟩,⟨#[97,98,99,100,101,102,103,104,105,106,107,108,109,110,111,112,113,114,115,116]⟩,⟨#[97,98,99,100,101,102,103,104,105,106,107,108,109,110,111,112,113,114,115,116,117]⟩,⟨#[10]⟩,⟨#[255]⟩,⟨#[65]⟩,⟨#[66]⟩,⟨#[79,98,106,101,99,116]⟩,⟨#[120,36,49]⟩,⟨#[114,117,110]⟩,⟨#[102]⟩,⟨#[109,97,105,110]⟩,
  ⟨#[86]⟩,⟨#[76,59]⟩,⟨#[76,65]⟩,⟨#[91,91,73]⟩,⟨#[73,59]⟩,⟨#[76,49,59]⟩,⟨#[76,97,98,99,100,101,102,103,104,105,106,107,108,109,110,111,112,113,114,115,116,59]⟩,⟨#[76,97,98,99,100,101,102,103,104,105,106,107,108,109,110,111,112,113,114,115,116,117,59]⟩,⟨#[73]⟩,⟨#[76,65,59]⟩,⟨#[76,66,59]⟩,⟨#[76,79,98,106,101,99,116,59]⟩,⟨#[91,73]⟩,⟨#[91,76,65,59]⟩,
  ⟨#[120]⟩,⟨#[121]⟩,⟨#[60,105,110,105,116,62]⟩,⟨#[40,41,86]⟩,⟨#[40,73,41,73]⟩]
theorem op_forms_nat:∀ n:Nat,n < 44→spec_OpForm.f 16 (((n+1:Nat):Int))=impl_OpForm.f (((n+1:Nat):Int))∧(impl_OpForm.f (((n+1:Nat):Int))).isSome=true:=by decide +kernel
theorem op_form (a:Int):∃ F,impl_OpForm.f a=some F∧∀ k,16≤k→spec_OpForm.f k a=some F:=by
  have up:∀ F,spec_OpForm.f 16 a=some F→∀ k,16≤k→spec_OpForm.f k a=some F:=fun F h k hk=>at_rounds (g:=fun k=>spec_OpForm.f k a) (fun k=>spec_OpForm.mono _ _) hk h
  by_cases h1:1≤a∧a≤44
  · have e:a=(((a - 1).toNat+1:Nat):Int):=by omega
    have h:=op_forms_nat (a - 1).toNat (by omega)
    rw [← e] at h
    obtain ⟨F,hF⟩:=Option.isSome_iff_exists.mp h.2
    exact ⟨F,hF,up F (h.1.trans hF)⟩
  · refine ⟨⟨#[33]⟩,?_,up _ ?_⟩
    · unfold impl_OpForm.f impl_isOp.f impl_within.f
      by_cases c:a ≥ 1
      · rw [if_pos c]
        simp only [Option.bind_some]
        rw [if_neg (by simp;omega)]
      · rw [if_neg c]
        simp only [Option.bind_some]
        rw [if_neg (by simp)]
    · unfold spec_OpForm.f spec_l03Ops.f
      simp only [Option.bind_some]
      by_cases c:a < 1
      · rw [if_pos c]
        rfl
      · rw [if_neg c,decide_eq_true (by simp;omega)]
        rfl
theorem u64_w (n:Int):IntKind.u64.wrap n=n % 18446744073709551616:=IntKind.wrap_u64 n
theorem draw_n (b:List Int) (i m z:Int) (most:Int) (h0:0≤i) (hb:b.length≤140737488355328) (hm:most≤9223372036854775807):
    ∃ r i' m',spec_l01Src_n.f b i m z most=some (r,i',m',z)∧0≤i'∧0≤r∧(1≤most→r < most):=by
  unfold spec_l01Src_n.f
  by_cases c1:most≤1
  · rw [if_pos c1]
    exact ⟨_,_,_,rfl,h0,by omega,fun h=>by omega⟩
  · rw [if_neg c1]
    have e1:IntKind.u64.wrap most=most:=by rw [u64_w];omega
    have key:∀ X:Int,0≤wrap64 (Int.tmod (IntKind.u64.wrap X) most)∧wrap64 (Int.tmod (IntKind.u64.wrap X) most) < most:=by
      intro X
      have hx:0≤IntKind.u64.wrap X:=by rw [u64_w];omega
      rw [Int.tmod_eq_emod_of_nonneg hx]
      have a1:=Int.emod_nonneg (IntKind.u64.wrap X) (b:=most) (by omega)
      have a2:=Int.emod_lt_of_pos (IntKind.u64.wrap X) (b:=most) (by omega)
      have e:wrap64 (IntKind.u64.wrap X % most)=IntKind.u64.wrap X % most:=by unfold wrap64;omega
      rw [e]
      exact ⟨a1,a2⟩
    rw [e1]
    by_cases c2:i < (b.length:Int)
    · rw [if_pos c2,if_pos h0,if_neg (by omega)]
      refine ⟨_,_,_,rfl,?_,(key _).1,fun _=>(key _).2⟩
      unfold wrap64;omega
    · rw [if_neg c2,if_neg (by omega)]
      exact ⟨_,_,_,rfl,h0,(key _).1,fun _=>(key _).2⟩
theorem draw_loop (l0:List Int) (hb:l0.length≤140737488355328) (d:Nat):∀ (k:Nat) (i m:Int),0≤i→i+d=64→d < k→∃ m' z,spec_l01Source.l0 k l0 i l0 0 m 0=some (l0,0,m',z):=by
  have fin:∀ m:Int,∃ m' z,(if (wrap64 ((l0.length:Int) / 20)) > 12 then (some (l0,(0:Int),m,(12:Int))) else (some (l0,0,m,wrap64 ((l0.length:Int) / 20))))=some (l0,0,m',z):=by
    intro m
    split
    · exact ⟨_,_,rfl⟩
    · exact ⟨_,_,rfl⟩
  induction d with
  | zero =>
    intro k i m h0 h1 hk
    obtain ⟨k,rfl⟩:∃ m,k=m+1:=⟨k - 1,by omega⟩
    simp only [spec_l01Source.l0]
    by_cases c1:i < (l0.length:Int)
    · rw [if_pos c1,if_neg (by omega)];exact fin m
    · rw [if_neg c1];exact fin m
  | succ d ih =>
    intro k i m h0 h1 hk
    obtain ⟨k,rfl⟩:∃ m,k=m+1:=⟨k - 1,by omega⟩
    simp only [spec_l01Source.l0]
    by_cases c1:i < (l0.length:Int)
    · rw [if_pos c1,if_pos (by omega),if_pos h0]
      have e:wrap64 (i+1)=i+1:=by unfold wrap64;omega
      rw [e]
      exact ih k _ _ (by omega) (by omega) (by omega)
    · rw [if_neg c1];exact fin m
theorem draw_source (l0:List Int) (hb:l0.length≤140737488355328):∃ m z,spec_l01Source.f 65 l0=some (l0,0,m,z):=draw_loop l0 hb 64 65 0 _ (by omega) (by omega) (by omega)
theorem rdOf_at {α:Type} (d:α) (l:List α) (i:Int) (h:i.toNat < l.length):rdOf d l i=l[i.toNat]:=by
  simp [rdOf,List.getD_eq_getElem?_getD,List.getElem?_eq_getElem h]
def EvIff (g:Nat→Option Bool) (P:Prop):Prop:=∃ r,Ev g r∧(r=true↔P)
theorem EvIff.iff {g:Nat→Option Bool} {P Q:Prop} (h:EvIff g P) (e:P↔Q):EvIff g Q:=by
  obtain ⟨r,h1,h2⟩:=h
  exact ⟨r,h1,h2.trans e⟩
theorem EvIff.congr {g f:Nat→Option Bool} {P:Prop} (e:∀ k,g k=f k) (h:EvIff f P):EvIff g P:=by
  obtain ⟨r,h1,h2⟩:=h
  exact ⟨r,Ev.congr e h1,h2⟩
theorem EvIff.step {g f:Nat→Option Bool} {P:Prop} (e:∀ k,g (k+1)=f k) (h:EvIff f P):EvIff g P:=by
  obtain ⟨r,h1,h2⟩:=h
  exact ⟨r,Ev.step e h1,h2⟩
theorem EvIff.yes:EvIff (fun _=>some true) True:=⟨true,Ev.now _,by simp⟩
theorem EvIff.no:EvIff (fun _=>some false) False:=⟨false,Ev.now _,by simp⟩
theorem EvIff.val (b:Bool):EvIff (fun _=>some b) (b=true):=⟨b,Ev.now _,Iff.rfl⟩
theorem EvIff.ite {c:Prop} [Decidable c] {g:Nat→Option Bool} {P:Prop} (h:EvIff g P):EvIff (fun k=>if c then g k else some false) (c∧P):=by
  by_cases hc:c
  · exact EvIff.iff (EvIff.congr (fun k=>if_pos hc) h) (by simp [hc])
  · exact EvIff.iff (EvIff.congr (f:=fun _=>some false) (fun k=>if_neg hc) EvIff.no) (by simp [hc])
theorem EvIff.iten {c:Prop} [Decidable c] {g:Nat→Option Bool} {P:Prop} (h:EvIff g P):EvIff (fun k=>if c then some false else g k) (¬ c∧P):=by
  by_cases hc:c
  · exact EvIff.iff (EvIff.congr (f:=fun _=>some false) (fun k=>if_pos hc) EvIff.no) (by simp [hc])
  · exact EvIff.iff (EvIff.congr (fun k=>if_neg hc) h) (by simp [hc])
theorem EvIff.bind {g h:Nat→Option Bool} {P Q:Prop} (hh:EvIff h Q) (hg:EvIff g P):EvIff (fun k=>(h k).bind fun t=>if t=true then g k else some false) (Q∧P):=by
  obtain ⟨r,h1,h2⟩:=hh
  obtain ⟨s,g1,g2⟩:=hg
  cases r with
  | true=>exact ⟨s,Ev.bind (f:=fun k t=>if t=true then g k else some false) h1 (Ev.congr (fun k=>if_pos rfl) g1),by rw [g2,← h2];simp⟩
  | false=>exact ⟨false,Ev.bind (f:=fun k t=>if t=true then g k else some false) h1 (Ev.congr (f:=fun _=>some false) (fun k=>if_neg (by simp)) (Ev.now _)),by rw [← h2];simp⟩
theorem EvIff.last {h:Nat→Option Bool} {Q:Prop} (hh:EvIff h Q):EvIff (fun k=>(h k).bind fun t=>some t) Q:=by
  obtain ⟨r,h1,h2⟩:=hh
  exact ⟨r,Ev.bind (f:=fun _ t=>some t) h1 (Ev.now _),h2⟩
theorem EvIff.same {g h:Nat→Option Bool} {P:Prop} (hg:EvIff g P) (hh:EvIff h P):∃ r,Ev g r∧Ev h r:=by
  obtain ⟨r,h1,h2⟩:=hg
  obtain ⟨s,g1,g2⟩:=hh
  have e:r=s:=Bool.eq_iff_iff.mpr (h2.trans g2.symm)
  subst e
  exact ⟨r,h1,g1⟩
theorem toList_eq (a b:ByteArray):a.toList=b.toList↔a=b:=⟨fun h=>WideShapes.bytes_inj (by rw [← Lib.toList_data,← Lib.toList_data];exact h),fun h=>by rw [h]⟩
theorem getD_at {α:Type} {a:List α} {z:α} {i:Nat} (h:i < a.length):a.getD (i:Int).toNat z=a[i]:=by
  simp [List.getD_eq_getElem?_getD,List.getElem?_eq_getElem h]
theorem up64 {i n:Nat} (h:i < n) (hn:n≤4611686018427387904):wrap64 ((i:Int)+1)=((i+1:Nat):Int):=by unfold wrap64;omega
theorem less64 {m:Int} {n:Nat} (h0:0≤m) (h1:m≤1048576) (hn:n≤9223372036854775807):wrap64 (m - (n:Int))=m - (n:Int):=by unfold wrap64;omega
def SzOk (g:Nat→Option Int) (m:Int) (B:Prop):Prop:=∃ v,Ev g v∧(v < 0∨(0≤v∧v≤m∧B))
theorem SzOk.size {m:Int} {n:Nat} {g:Int→Nat→Option Int} {B:Prop} (h0:0≤m) (h1:m≤1048576) (hn:n≤9223372036854775807) (h:∀ v,0≤v→v≤m→v=m - (n:Int)→SzOk (g v) v B):
    SzOk (fun k=>if wrap64 (m - (n:Int)) < 0 then some (-1) else g (wrap64 (m - (n:Int))) k) m ((n:Int)≤1048576∧B):=by
  rw [less64 h0 h1 hn]
  by_cases c:m - (n:Int) < 0
  · exact ⟨-1,Ev.congr (f:=fun _=>some (-1)) (fun k=>by rw [if_pos c]) (Ev.now _),.inl (by omega)⟩
  · obtain ⟨v,h2,h3⟩:=h (m - (n:Int)) (by omega) (by omega) rfl
    refine ⟨v,Ev.congr (fun k=>by rw [if_neg c]) h2,?_⟩
    rcases h3 with h3|⟨h3,h4,h5⟩
    · exact .inl h3
    · exact .inr ⟨h3,by omega,by omega,h5⟩
theorem SzOk.bind {m:Int} {f:Nat→Option Int} {g:Nat→Int→Option Int} {A B:Prop} (hf:SzOk f m A) (h:∀ v,0≤v→v≤m→SzOk (fun k=>g k v) v B):
    SzOk (fun k=>(f k).bind fun t=>if t < 0 then some (-1) else g k t) m (A∧B):=by
  obtain ⟨v,hv,hb⟩:=hf
  rcases hb with hb|⟨b0,b1,b2⟩
  · exact ⟨-1,Ev.bind (f:=fun k t=>if t < 0 then (some (-1)) else g k t) hv (Ev.congr (f:=fun _=>some (-1)) (fun k=>by rw [if_pos hb]) (Ev.now _)),.inl (by omega)⟩
  · obtain ⟨u,hu,hc⟩:=h v b0 b1
    refine ⟨u,Ev.bind (f:=fun k t=>if t < 0 then (some (-1)) else g k t) hv (Ev.congr (fun k=>by rw [if_neg (by omega)]) hu),?_⟩
    rcases hc with hc|⟨c0,c1,c2⟩
    · exact .inl hc
    · exact .inr ⟨c0,by omega,b2,c2⟩
theorem SzOk.mono {m:Int} {f g:Nat→Option Int} {A B:Prop} (h:SzOk f m A) (e:∀ k,g k=f k) (i:A→B):SzOk g m B:=by
  obtain ⟨v,h1,h2⟩:=h
  refine ⟨v,Ev.congr e h1,?_⟩
  rcases h2 with h2|⟨h2,h3,h4⟩
  · exact .inl h2
  · exact .inr ⟨h2,h3,i h4⟩
theorem EvIff.ite2 {c:Prop} [Decidable c] {g h:Nat→Option Bool} {P Q:Prop} (hg:EvIff g P) (hh:EvIff h Q):EvIff (fun k=>if c then g k else h k) ((c∧P)∨(¬ c∧Q)):=by
  by_cases hc:c
  · exact EvIff.iff (EvIff.congr (fun k=>if_pos hc) hg) (by simp [hc])
  · exact EvIff.iff (EvIff.congr (fun k=>if_neg hc) hh) (by simp [hc])
theorem EvIff.iteP {c:Prop} [Decidable c] {g h:Nat→Option Bool} {P:Prop} (hc:c) (hg:EvIff g P):EvIff (fun k=>if c then g k else h k) P:=EvIff.congr (fun k=>if_pos hc) hg
theorem EvIff.iteN {c:Prop} [Decidable c] {g h:Nat→Option Bool} {P:Prop} (hc:¬ c) (hh:EvIff h P):EvIff (fun k=>if c then g k else h k) P:=EvIff.congr (fun k=>if_neg hc) hh
theorem EvIff.bind2 {g f h:Nat→Option Bool} {P Q R:Prop} (hh:EvIff h Q) (hg:EvIff g P) (hf:EvIff f R):EvIff (fun k=>(h k).bind fun t=>if t=true then g k else f k) ((Q∧P)∨(¬ Q∧R)):=by
  obtain ⟨r,h1,h2⟩:=hh
  obtain ⟨s,g1,g2⟩:=hg
  obtain ⟨u,f1,f2⟩:=hf
  cases r with
  | true=>exact ⟨s,Ev.bind (f:=fun k t=>if t=true then g k else f k) h1 (Ev.congr (fun k=>if_pos rfl) g1),by rw [g2,← h2];simp⟩
  | false=>exact ⟨u,Ev.bind (f:=fun k t=>if t=true then g k else f k) h1 (Ev.congr (fun k=>if_neg (by simp)) f1),by rw [f2,← h2];simp⟩
theorem draw_one (b:List Int) (i m z most:Int) (h0:0≤i) (hb:b.length≤140737488355328) (hm:most≤9223372036854775807):∃ r i' m',spec_l01Src_one.f b i m z most=some (r,i',m',z)∧0≤i':=by
  obtain ⟨r,i',m',e,h1,_⟩:=draw_n b i m z most h0 hb hm
  exact ⟨r == 0,i',m',by unfold spec_l01Src_one.f;rw [e];rfl,h1⟩
theorem draw_pick (b:List Int) (i m z:Int) (l:List ByteArray) (h0:0≤i) (hb:b.length≤140737488355328) (hl:0 < l.length) (hl2:l.length≤1000):∃ s i' m',spec_l01Src_pick.f b i m z l=some (s,i',m',z)∧0≤i'∧s∈l:=by
  obtain ⟨r,i',m',e,h1,h2,h3⟩:=draw_n b i m z (l.length:Int) h0 hb (by omega)
  have h4:=h3 (by omega)
  refine ⟨rdOf ByteArray.empty l r,i',m',by unfold spec_l01Src_pick.f;rw [e];simp only [Option.bind_some];rw [if_pos h2,if_pos h4],h1,?_⟩
  rw [rdOf_at _ _ _ (by omega)]
  exact List.getElem_mem _
theorem draw_word (b:List Int) (i m z:Int) (h0:0≤i) (hb:b.length≤140737488355328):∃ s i' m',spec_l01Src_word.f b i m z=some (s,i',m',z)∧0≤i'∧s∈LW:=by
  obtain ⟨r,i1,m1,e1,h1⟩:=draw_one b i m z 30 h0 hb (by omega)
  unfold spec_l01Src_word.f
  rw [e1]
  simp only [Option.bind_some]
  split
  · obtain ⟨s,i2,m2,e2,h2,h3⟩:=draw_pick b i1 m1 z [(⟨#[]⟩:ByteArray),(⟨#[49,97]⟩:ByteArray),(⟨#[97,32,98]⟩:ByteArray),(⟨#[97,98,99,100,101,102,103,104,105,106,107,108,109,110,111,112,113,114,115,116]⟩:ByteArray),(⟨#[97,98,99,100,101,102,103,104,105,106,107,108,109,110,111,112,113,114,115,116,117]⟩:ByteArray),(⟨#[10]⟩:ByteArray),(⟨#[255]⟩:ByteArray)] h1 hb (by decide) (by decide)
    rw [e2]
    refine ⟨s,i2,m2,rfl,h2,?_⟩
    simp only [List.mem_cons,List.not_mem_nil,or_false] at h3
    rcases h3 with rfl|rfl|rfl|rfl|rfl|rfl|rfl <;> simp [LW]
  · obtain ⟨s,i2,m2,e2,h2,h3⟩:=draw_pick b i1 m1 z [(⟨#[65]⟩:ByteArray),(⟨#[66]⟩:ByteArray),(⟨#[79,98,106,101,99,116]⟩:ByteArray),(⟨#[120,36,49]⟩:ByteArray),(⟨#[114,117,110]⟩:ByteArray),(⟨#[102]⟩:ByteArray),(⟨#[109,97,105,110]⟩:ByteArray)] h1 hb (by decide) (by decide)
    rw [e2]
    refine ⟨s,i2,m2,rfl,h2,?_⟩
    simp only [List.mem_cons,List.not_mem_nil,or_false] at h3
    rcases h3 with rfl|rfl|rfl|rfl|rfl|rfl|rfl <;> simp [LW]
theorem draw_type (b:List Int) (i m z:Int) (h0:0≤i) (hb:b.length≤140737488355328):∃ s i' m',spec_l01Src_l02Type.f b i m z=some (s,i',m',z)∧0≤i'∧s∈LW:=by
  obtain ⟨r,i1,m1,e1,h1⟩:=draw_one b i m z 30 h0 hb (by omega)
  unfold spec_l01Src_l02Type.f
  rw [e1]
  simp only [Option.bind_some]
  split
  · obtain ⟨s,i2,m2,e2,h2,h3⟩:=draw_pick b i1 m1 z [(⟨#[]⟩:ByteArray),(⟨#[86]⟩:ByteArray),(⟨#[76,59]⟩:ByteArray),(⟨#[76,65]⟩:ByteArray),(⟨#[91,91,73]⟩:ByteArray),(⟨#[73,59]⟩:ByteArray),(⟨#[76,49,59]⟩:ByteArray),(⟨#[76,97,98,99,100,101,102,103,104,105,106,107,108,109,110,111,112,113,114,115,116,59]⟩:ByteArray),(⟨#[76,97,98,99,100,101,102,103,104,105,106,107,108,109,110,111,112,113,114,115,116,117,59]⟩:ByteArray)] h1 hb (by decide) (by decide)
    rw [e2]
    refine ⟨s,i2,m2,rfl,h2,?_⟩
    simp only [List.mem_cons,List.not_mem_nil,or_false] at h3
    rcases h3 with rfl|rfl|rfl|rfl|rfl|rfl|rfl|rfl|rfl <;> simp [LW]
  · obtain ⟨s,i2,m2,e2,h2,h3⟩:=draw_pick b i1 m1 z [(⟨#[73]⟩:ByteArray),(⟨#[73]⟩:ByteArray),(⟨#[76,65,59]⟩:ByteArray),(⟨#[76,66,59]⟩:ByteArray),(⟨#[76,79,98,106,101,99,116,59]⟩:ByteArray),(⟨#[91,73]⟩:ByteArray),(⟨#[91,76,65,59]⟩:ByteArray)] h1 hb (by decide) (by decide)
    rw [e2]
    refine ⟨s,i2,m2,rfl,h2,?_⟩
    simp only [List.mem_cons,List.not_mem_nil,or_false] at h3
    rcases h3 with rfl|rfl|rfl|rfl|rfl|rfl|rfl <;> simp [LW]
theorem draw_edge (b:List Int) (i m z:Int) (h0:0≤i) (hb:b.length≤140737488355328):∃ v i' m',spec_l01Src_edge.f b i m z=some (v,i',m',z)∧0≤i'∧-9223372036854775808≤v∧v≤9223372036854775807:=by
  obtain ⟨r,i1,m1,e1,h1,h2,h3⟩:=draw_n b i m z 14 h0 hb (by omega)
  have h4:=h3 (by omega)
  unfold spec_l01Src_edge.f
  rw [e1]
  simp only [Option.bind_some]
  rw [if_pos h2,if_pos (show r < (([0,1,(-1),2,1000,1001,2147483648,2147483647,(-2147483648),4611686018427387904,9223372036854775807,(-9223372036854775808),1000000,1000001]:List Int).length:Int) from h4)]
  refine ⟨_,i1,m1,rfl,h1,?_⟩
  have key:∀ n:Nat,n < 14→-9223372036854775808≤rd ([0,1,(-1),2,1000,1001,2147483648,2147483647,(-2147483648),4611686018427387904,9223372036854775807,(-9223372036854775808),1000000,1000001]:List Int) (n:Int)∧rd ([0,1,(-1),2,1000,1001,2147483648,2147483647,(-2147483648),4611686018427387904,9223372036854775807,(-9223372036854775808),1000000,1000001]:List Int) (n:Int)≤9223372036854775807:=by decide
  have h5:=key r.toNat (by omega)
  rwa [show ((r.toNat:Nat):Int)=r by omega] at h5
def DIns (o a:Int) (c n d:ByteArray):Prop:=(-1≤o∧o≤46)∧(-9223372036854775808≤a∧a≤9223372036854775807)∧c∈LW∧n∈LW∧d∈LW
theorem ins_j0_eq (k:Nat) (b:List Int) (i m z o a:Int) (c n d:ByteArray):spec_l01Src_l03Ins.j0 (k+1) b i m z o a c n d=(spec_l01Src_one.f b i m z 12).bind fun t=>(if t.1=true then ((spec_l01Src_n.f b t.2.1 t.2.2.1 t.2.2.2 5).bind fun u=>(if u.1=0 then ((spec_l01Src_n.f b u.2.1 u.2.2.1 u.2.2.2 47).bind fun v=>(some (wrap64 (v.1 - 1),a,c,n,d,v.2.1,v.2.2.1,v.2.2.2))) else (if u.1=1 then ((spec_l01Src_edge.f b u.2.1 u.2.2.1 u.2.2.2).bind fun v=>(some (o,v.1,c,n,d,v.2.1,v.2.2.1,v.2.2.2))) else (if u.1=2 then ((spec_l01Src_word.f b u.2.1 u.2.2.1 u.2.2.2).bind fun v=>(some (o,a,v.1,n,d,v.2.1,v.2.2.1,v.2.2.2))) else (if u.1=3 then ((spec_l01Src_word.f b u.2.1 u.2.2.1 u.2.2.2).bind fun v=>(some (o,a,c,v.1,d,v.2.1,v.2.2.1,v.2.2.2))) else ((spec_l01Src_l02Type.f b u.2.1 u.2.2.1 u.2.2.2).bind fun v=>(some (o,a,c,n,v.1,v.2.1,v.2.2.1,v.2.2.2)))))))) else (some (o,a,c,n,d,t.2.1,t.2.2.1,t.2.2.2))):=rfl
theorem draw_j0 (k:Nat) (b:List Int) (i m z o a:Int) (c n d:ByteArray) (h0:0≤i) (hb:b.length≤140737488355328) (h:DIns o a c n d):
    ∃ o' a' c' n' d' i' m',spec_l01Src_l03Ins.j0 (k+1) b i m z o a c n d=some (o',a',c',n',d',i',m',z)∧0≤i'∧DIns o' a' c' n' d':=by
  obtain ⟨ho,ha,hc,hn,hd⟩:=h
  obtain ⟨r,i1,m1,e1,h1⟩:=draw_one b i m z 12 h0 hb (by omega)
  rw [ins_j0_eq,e1]
  simp only [Option.bind_some]
  split
  · obtain ⟨r2,i2,m2,e2,h2,_⟩:=draw_n b i1 m1 z 5 h1 hb (by omega)
    rw [e2]
    simp only [Option.bind_some]
    split
    · obtain ⟨r3,i3,m3,e3,h3,h4,h5⟩:=draw_n b i2 m2 z 47 h2 hb (by omega)
      have h6:=h5 (by omega)
      rw [e3]
      exact ⟨_,_,_,_,_,_,_,rfl,h3,⟨by unfold wrap64;omega,by unfold wrap64;omega⟩,ha,hc,hn,hd⟩
    · split
      · obtain ⟨v,i3,m3,e3,h3,h4⟩:=draw_edge b i2 m2 z h2 hb
        rw [e3]
        exact ⟨_,_,_,_,_,_,_,rfl,h3,ho,h4,hc,hn,hd⟩
      · split
        · obtain ⟨s,i3,m3,e3,h3,h4⟩:=draw_word b i2 m2 z h2 hb
          rw [e3]
          exact ⟨_,_,_,_,_,_,_,rfl,h3,ho,ha,h4,hn,hd⟩
        · split
          · obtain ⟨s,i3,m3,e3,h3,h4⟩:=draw_word b i2 m2 z h2 hb
            rw [e3]
            exact ⟨_,_,_,_,_,_,_,rfl,h3,ho,ha,hc,h4,hd⟩
          · obtain ⟨s,i3,m3,e3,h3,h4⟩:=draw_type b i2 m2 z h2 hb
            rw [e3]
            exact ⟨_,_,_,_,_,_,_,rfl,h3,ho,ha,hc,hn,h4⟩
  · exact ⟨_,_,_,_,_,_,_,rfl,h1,ho,ha,hc,hn,hd⟩
theorem lw0:(⟨#[]⟩:ByteArray)∈LW:=by simp [LW]
theorem draw_ins (b:List Int) (i m z:Int) (h0:0≤i) (hb:b.length≤140737488355328):
    ∃ o a c n d i' m',Ev (fun k=>spec_l01Src_l03Ins.f k b i m z) (o,a,c,n,d,i',m',z)∧0≤i'∧DIns o a c n d:=by
  suffices ∃ o a c n d i' m',spec_l01Src_l03Ins.f 20 b i m z=some (o,a,c,n,d,i',m',z)∧0≤i'∧DIns o a c n d by
    obtain ⟨o,a,c,n,d,i',m',h1,h2,h3⟩:=this
    exact ⟨o,a,c,n,d,i',m',⟨20,fun k hk=>at_rounds (g:=fun k=>spec_l01Src_l03Ins.f k b i m z) (fun k=>spec_l01Src_l03Ins.mono _ _ _ _ _) hk h1⟩,h2,h3⟩
  obtain ⟨r,i1,m1,e1,h1,h2,h3⟩:=draw_n b i m z 44 h0 hb (by omega)
  have h4:=h3 (by omega)
  have w1:wrap64 (1+r)=1+r:=by unfold wrap64;omega
  obtain ⟨F,_,f2⟩:=op_form (1+r)
  unfold spec_l01Src_l03Ins.f
  rw [e1,Option.bind_some]
  show ∃ o a c n d i' m',((spec_OpForm.f 20 (wrap64 (1+r))).bind _)=_∧_
  rw [w1,f2 20 (by omega),Option.bind_some]
  have ho:-1≤1+r∧1+r≤46:=by omega
  have z0:(-9223372036854775808:Int)≤0∧(0:Int)≤9223372036854775807:=by omega
  by_cases c0:F.toList=([110]:List UInt8)
  · rw [if_pos c0]
    obtain ⟨r2,i2,m2,e2,h5,h6,h7⟩:=draw_n b i1 m1 z 20 h1 hb (by omega)
    have h8:=h7 (by omega)
    rw [e2]
    exact draw_j0 19 b i2 m2 z _ _ _ _ _ h5 hb ⟨ho,⟨by unfold wrap64;omega,by unfold wrap64;omega⟩,lw0,lw0,lw0⟩
  rw [if_neg c0]
  by_cases c1:F.toList=([105]:List UInt8)
  · rw [if_pos c1]
    obtain ⟨r2,i2,m2,e2,h5,h6,h7⟩:=draw_n b i1 m1 z 4 h1 hb (by omega)
    have h8:=h7 (by omega)
    rw [e2]
    exact draw_j0 19 b i2 m2 z _ _ _ _ _ h5 hb ⟨ho,⟨by omega,by omega⟩,lw0,lw0,lw0⟩
  rw [if_neg c1]
  by_cases c2:F.toList=([116]:List UInt8)
  · rw [if_pos c2]
    obtain ⟨r2,i2,m2,e2,h5,h6,h7⟩:=draw_n b i1 m1 z 6 h1 hb (by omega)
    have h8:=h7 (by omega)
    rw [e2]
    exact draw_j0 19 b i2 m2 z _ _ _ _ _ h5 hb ⟨ho,⟨by omega,by omega⟩,lw0,lw0,lw0⟩
  rw [if_neg c2]
  by_cases c3:F.toList=([99]:List UInt8)
  · rw [if_pos c3]
    obtain ⟨s,i2,m2,e2,h5,h6⟩:=draw_pick b i1 m1 z [(⟨#[65]⟩:ByteArray),(⟨#[66]⟩:ByteArray),(⟨#[79,98,106,101,99,116]⟩:ByteArray)] h1 hb (by decide) (by decide)
    rw [e2]
    refine draw_j0 19 b i2 m2 z _ _ _ _ _ h5 hb ⟨ho,z0,?_,lw0,lw0⟩
    simp only [List.mem_cons,List.not_mem_nil,or_false] at h6
    rcases h6 with rfl|rfl|rfl <;> simp [LW]
  rw [if_neg c3]
  by_cases c4:F.toList=([121]:List UInt8)
  · rw [if_pos c4]
    obtain ⟨s,i2,m2,e2,h5,h6⟩:=draw_pick b i1 m1 z [(⟨#[73]⟩:ByteArray),(⟨#[76,65,59]⟩:ByteArray)] h1 hb (by decide) (by decide)
    rw [e2]
    refine draw_j0 19 b i2 m2 z _ _ _ _ _ h5 hb ⟨ho,z0,lw0,lw0,?_⟩
    simp only [List.mem_cons,List.not_mem_nil,or_false] at h6
    rcases h6 with rfl|rfl <;> simp [LW]
  rw [if_neg c4]
  by_cases c5:F.toList=([102]:List UInt8)
  · rw [if_pos c5]
    obtain ⟨s,i2,m2,e2,h5,h6⟩:=draw_pick b i1 m1 z [(⟨#[120]⟩:ByteArray),(⟨#[121]⟩:ByteArray)] h1 hb (by decide) (by decide)
    rw [e2]
    refine draw_j0 19 b i2 m2 z _ _ _ _ _ h5 hb ⟨ho,z0,by simp [LW],?_,by simp [LW]⟩
    simp only [List.mem_cons,List.not_mem_nil,or_false] at h6
    rcases h6 with rfl|rfl <;> simp [LW]
  rw [if_neg c5]
  by_cases c6:F.toList=([109]:List UInt8)
  · rw [if_pos c6]
    obtain ⟨s,i2,m2,e2,h5,h6⟩:=draw_pick b i1 m1 z [(⟨#[102]⟩:ByteArray),(⟨#[60,105,110,105,116,62]⟩:ByteArray)] h1 hb (by decide) (by decide)
    obtain ⟨s2,i3,m3,e3,h7,h8⟩:=draw_pick b i2 m2 z [(⟨#[40,41,86]⟩:ByteArray),(⟨#[40,73,41,73]⟩:ByteArray)] h5 hb (by decide) (by decide)
    rw [e2,Option.bind_some,e3]
    refine draw_j0 19 b i3 m3 z _ _ _ _ _ h7 hb ⟨ho,z0,by simp [LW],?_,?_⟩
    · simp only [List.mem_cons,List.not_mem_nil,or_false] at h6
      rcases h6 with rfl|rfl <;> simp [LW]
    · simp only [List.mem_cons,List.not_mem_nil,or_false] at h8
      rcases h8 with rfl|rfl <;> simp [LW]
  rw [if_neg c6]
  exact draw_j0 19 b i1 m1 z _ _ _ _ _ h1 hb ⟨ho,z0,lw0,lw0,lw0⟩
def EvB {α:Type} (g:Nat→Option α) (B:α→Prop):Prop:=∃ q,Ev g q∧B q
theorem EvB.step {α:Type} {g f:Nat→Option α} {B:α→Prop} (e:∀ k,g (k+1)=f k) (h:EvB f B):EvB g B:=h.elim fun q h=>⟨q,Ev.step e h.1,h.2⟩
theorem EvB.congr {α:Type} {g f:Nat→Option α} {B:α→Prop} (e:∀ k,g k=f k) (h:EvB f B):EvB g B:=h.elim fun q h=>⟨q,Ev.congr e h.1,h.2⟩
theorem EvB.bind {α β:Type} {g:Nat→Option β} {v:β} {f:Nat→β→Option α} {B:α→Prop} (hg:Ev g v) (h:EvB (fun k=>f k v) B):EvB (fun k=>(g k).bind (f k)) B:=h.elim fun q h=>⟨q,Ev.bind hg h.1,h.2⟩
theorem EvB.then {α β:Type} {g:Nat→Option β} {f:Nat→β→Option α} {A:β→Prop} {B:α→Prop} (hg:EvB g A) (h:∀ v,A v→EvB (fun k=>f k v) B):EvB (fun k=>(g k).bind (f k)) B:=hg.elim fun v hv=>EvB.bind hv.1 (h v hv.2)
theorem EvB.now {α:Type} {v:α} {B:α→Prop} (h:B v):EvB (fun _=>some v) B:=⟨v,Ev.now _,h⟩
theorem EvB.ite {α:Type} {c:Prop} [Decidable c] {f g:Nat→Option α} {B:α→Prop} (h1:c→EvB f B) (h2:¬ c→EvB g B):EvB (fun k=>if c then f k else g k) B:=by
  by_cases hc:c
  · exact EvB.congr (fun k=>if_pos hc) (h1 hc)
  · exact EvB.congr (fun k=>if_neg hc) (h2 hc)
theorem EvB.ifp {α:Type} {c:Prop} [Decidable c] {f g:Nat→Option α} {B:α→Prop} (hc:c) (h:EvB f B):EvB (fun k=>if c then f k else g k) B:=EvB.congr (fun k=>if_pos hc) h
theorem EvB.mono {α:Type} {g:Nat→Option α} {B C:α→Prop} (h:EvB g B) (i:∀ q,B q→C q):EvB g C:=h.elim fun q h=>⟨q,h.1,i q h.2⟩
theorem step64 {i:Int} {n:Nat} (h0:0≤i) (h:i < (n:Int)) (hn:n≤140737488351232):wrap64 (i+1)=i+1:=by
  unfold wrap64
  omega
theorem name_byte_nat:∀ c:Nat,c < 256→impl_isNameByte.f (c:Int) 0=spec_l01NameByte.f (c:Int) true∧impl_isNameByte.f (c:Int) 1=spec_l01NameByte.f (c:Int) false:=by decide +kernel
theorem name_byte_some (c:Int) (b:Bool):∃ r,spec_l01NameByte.f c b=some r:=by
  unfold spec_l01NameByte.f
  repeat' split
  all_goals exact ⟨_,rfl⟩
theorem name_byte (c i:Int) (h0:0≤c) (h1:c≤255) (hi:0≤i):impl_isNameByte.f c i=spec_l01NameByte.f c (i == 0):=by
  obtain ⟨n,rfl⟩:=Int.eq_ofNat_of_zero_le h0
  have h:=name_byte_nat n (by omega)
  by_cases e:i=0
  · subst e;simpa using h.1
  · have e1:(i == 0)=false:=by simpa using e
    rw [e1,← h.2]
    unfold impl_isNameByte.f
    have e2:decide (i > 0)=decide ((1:Int) > 0):=by simp;omega
    rw [e2]
theorem name_run_both (s:ByteArray) (hn:s.size≤140737488351232) (d:Nat):∀ (k k':Nat) (i:Int),0≤i→i≤s.size→(s.size:Int) - i=d→d < k→d < k'→
    ∃ b,spec_NameRight.l0 k s i=some b∧impl_NameRight.l0 k' s (s.size:Int) i=some (b && decide (1≤s.size∧s.size≤20)):=by
  induction d with
  | zero =>
    intro k k' i h0 h1 hd hk hk'
    obtain ⟨k,rfl⟩:∃ m,k=m+1:=⟨k - 1,by omega⟩
    obtain ⟨k',rfl⟩:∃ m,k'=m+1:=⟨k' - 1,by omega⟩
    refine ⟨true,?_,?_⟩
    · simp only [spec_NameRight.l0];rw [if_neg (by omega)]
    · simp only [impl_NameRight.l0]
      rw [if_neg (by omega)]
      simp only [impl_length.f,impl_within.f,Option.bind_some]
      by_cases c1:(s.size:Int) ≥ 1
      · rw [if_pos c1]
        simp only [Option.bind_some,Bool.true_and]
        exact congrArg some (decide_eq_decide.mpr (by omega))
      · rw [if_neg c1,decide_eq_false (show ¬ (1≤s.size∧s.size≤20) by omega)]
        rfl
  | succ d ih =>
    intro k k' i h0 h1 hd hk hk'
    obtain ⟨k,rfl⟩:∃ m,k=m+1:=⟨k - 1,by omega⟩
    obtain ⟨k',rfl⟩:∃ m,k'=m+1:=⟨k' - 1,by omega⟩
    have hlt:i < (s.size:Int):=by omega
    have hb:=bt_range s i
    simp only [spec_NameRight.l0,impl_NameRight.l0]
    rw [if_pos hlt,if_pos h0,if_pos hlt,if_pos h0,if_pos hlt,step64 h0 hlt hn,name_byte _ _ hb.1 hb.2 h0]
    obtain ⟨r,hr⟩:=name_byte_some (bt s i) (i == 0)
    rw [hr]
    cases r with
    | false=>exact ⟨false,by simp,by simp⟩
    | true =>
      obtain ⟨b,e1,e2⟩:=ih k k' (i+1) (by omega) (by omega) (by omega) (by omega) (by omega)
      exact ⟨b,by simpa using e1,by simpa using e2⟩
theorem names_same (s:ByteArray) (hn:s.size≤140737488351232):∃ b,(∀ k,s.size+3≤k→spec_NameRight.f k s=some b)∧(∀ k,s.size+3≤k→impl_NameRight.f k s=some b):=by
  obtain ⟨b,e1,e2⟩:=name_run_both s hn s.size (s.size+1) (s.size+1) 0 (by omega) (by omega) (by omega) (by omega) (by omega)
  refine ⟨b && decide (1≤s.size∧s.size≤20),fun k hk=>?_,fun k hk=>?_⟩
  · obtain ⟨k,rfl⟩:∃ m,k=m+1:=⟨k - 1,by omega⟩
    have e1':=at_rounds (g:=fun k=>spec_NameRight.l0 k s 0) (k':=k) (fun k=>(spec_NameRight.mono_l k).2 s 0) (by omega) e1
    unfold spec_NameRight.f
    by_cases c1:(s.size:Int) < 1
    · rw [if_pos c1]
      simp only [spec_NameRight.j0]
      simp;omega
    · rw [if_neg c1]
      by_cases c2:(s.size:Int) > 20
      · simp only [spec_NameRight.j0,c2]
        simp;omega
      · simp only [spec_NameRight.j0,c2]
        rw [decide_eq_false (by simp),if_neg (by simp),e1']
        simp;omega
  · unfold impl_NameRight.f
    exact at_rounds (g:=fun k=>impl_NameRight.l0 k s (s.size:Int) 0) (fun k=>impl_NameRight.mono_l k s (s.size:Int) 0) (by omega) e2
def nend:Nat→ByteArray→Int→Int→Int
  | 0,_,_,i=>i
  | n+1,t,f,i=>if i < (t.size:Int)∧spec_l01NameByte.f (bt t i) (i == f)=some true then nend n t f (i+1) else i
def nameAt (t:ByteArray) (f:Int):Int×Bool:=
  if nend 20 t f f < (t.size:Int)∧bt t (nend 20 t f f)=59∧nend 20 t f f≠f then (nend 20 t f f+1,true) else (nend 20 t f f,false)
def oneAt (t:ByteArray) (a:Int):Int×Bool:=
  if a < (t.size:Int)∧bt t a=73 then (a+1,true) else if a < (t.size:Int)∧bt t a=76 then nameAt t (a+1) else (a,false)
def tyAt (t:ByteArray) (a:Int):Int×Bool:=if a < (t.size:Int)∧bt t a=91 then oneAt t (a+1) else oneAt t a
theorem nend_ge (t:ByteArray) (f:Int):∀ (n:Nat) (i:Int),i≤(t.size:Int)→i≤nend n t f i∧nend n t f i≤(t.size:Int)
  | 0,i,h=>⟨Int.le_refl _,h⟩
  | n + 1, i, h => by
    unfold nend
    by_cases c:i < (t.size:Int)∧spec_l01NameByte.f (bt t i) (i == f)=some true
    · rw [if_pos c]
      have:=nend_ge t f n (i+1) (by omega)
      omega
    · rw [if_neg c]
      omega
theorem nameAt_ge (t:ByteArray) (f:Int) (h:f≤(t.size:Int)):f≤(nameAt t f).1∧(nameAt t f).1≤(t.size:Int):=by
  have:=nend_ge t f 20 f h
  unfold nameAt
  split
  · dsimp only;omega
  · dsimp only;omega
theorem oneAt_ge (t:ByteArray) (a:Int) (h:a≤(t.size:Int)):a≤(oneAt t a).1∧(oneAt t a).1≤(t.size:Int)∧((oneAt t a).2=true→a < (oneAt t a).1):=by
  unfold oneAt
  split
  · dsimp only;omega
  · split
    · have:=nameAt_ge t (a+1) (by omega)
      exact ⟨by omega,this.2,fun _=>by omega⟩
    · simpa using h
theorem tyAt_ge (t:ByteArray) (a:Int) (h:a≤(t.size:Int)):a≤(tyAt t a).1∧(tyAt t a).1≤(t.size:Int)∧((tyAt t a).2=true→a < (tyAt t a).1):=by
  unfold tyAt
  split
  · have:=oneAt_ge t (a+1) (by omega)
    exact ⟨by omega,this.2.1,fun _=>by omega⟩
  · exact oneAt_ge t a h
theorem spec_name_run (t:ByteArray) (hn:t.size≤140737488351232) (f:Int) (hf:0≤f):∀ (n k:Nat) (i:Int),f≤i→i - f=20 - (n:Int)→i≤(t.size:Int)→n < k→
    spec_l02Type.l0 k t f i=some (if nend n t f i < (t.size:Int)∧bt t (nend n t f i)=59∧nend n t f i≠f then (nend n t f i+1,true) else (nend n t f i,false)):=by
  intro n
  induction n with
  | zero =>
    intro k i h0 h1 h2 hk
    obtain ⟨k,rfl⟩:∃ m,k=m+1:=⟨k - 1,by omega⟩
    have w1:wrap64 (i - f)=i - f:=by unfold wrap64;omega
    rw [show nend 0 t f i=i from rfl]
    simp only [spec_l02Type.l0,w1]
    by_cases c1:i < (t.size:Int)
    · rw [if_pos c1,if_neg (by omega),if_neg (by omega),if_pos (by omega),step64 (by omega) c1 hn]
      by_cases c2:bt t i=59
      · by_cases c3:i=f
        · rw [if_pos c2,if_pos c3,if_neg (by omega)]
        · rw [if_pos c2,if_neg c3,if_pos ⟨c1,c2,c3⟩]
      · rw [if_neg c2,if_neg (by omega)]
    · rw [if_neg c1,if_pos (by omega),if_neg (by omega)]
  | succ n ih =>
    intro k i h0 h1 h2 hk
    obtain ⟨k,rfl⟩:∃ m,k=m+1:=⟨k - 1,by omega⟩
    have w1:wrap64 (i - f)=i - f:=by unfold wrap64;omega
    obtain ⟨b,hb⟩:=name_byte_some (bt t i) (i == f)
    by_cases c1:i < (t.size:Int)
    · simp only [spec_l02Type.l0,w1]
      rw [if_pos c1,if_pos (by omega),if_pos (by omega),hb,step64 (by omega) c1 hn]
      cases b with
      | true =>
        have e:nend (n+1) t f i=nend n t f (i+1):=by
          rw [nend,if_pos ⟨c1,hb⟩]
        rw [e]
        simpa using ih k (i+1) (by omega) (by omega) (by omega) (by omega)
      | false =>
        have e:nend (n+1) t f i=i:=by
          rw [nend,hb];simp
        rw [e]
        simp only [Option.bind_some]
        rw [if_neg (by simp),if_neg (by omega)]
        by_cases c2:bt t i=59
        · by_cases c3:i=f
          · rw [if_pos c2,if_pos c3,if_neg (by omega)]
          · rw [if_pos c2,if_neg c3,if_pos ⟨c1,c2,c3⟩]
        · rw [if_neg c2,if_neg (by omega)]
    · have e:nend (n+1) t f i=i:=by
        rw [nend,if_neg (by omega)]
      rw [e]
      simp only [spec_l02Type.l0]
      rw [if_neg c1,if_pos (by omega),if_neg (by omega)]
theorem want_bad (t:ByteArray) (i:Int) (b:Int):impl_reader_want.f t i true b=some (t,i,true):=by
  simp [impl_reader_want.f,impl_reader_take.f,impl_reader_is.f]
theorem take_bad (t:ByteArray) (i:Int) (b:Int):impl_reader_take.f t i true b=some (false,t,i,true):=by
  simp [impl_reader_take.f,impl_reader_is.f]
theorem take_ok (t:ByteArray) (hn:t.size≤140737488351232) (i b:Int) (h0:0≤i):
    impl_reader_take.f t i false b=some (if i < (t.size:Int)∧bt t i=b then (true,t,i+1,false) else (false,t,i,false)):=by
  unfold impl_reader_take.f impl_reader_is.f
  simp only [impl_length.f,Option.bind_some]
  rw [if_neg (by simp)]
  by_cases c:i < (t.size:Int)
  · rw [if_pos c,if_pos h0,if_pos c]
    simp only [Option.bind_some]
    by_cases c2:bt t i=b
    · rw [if_pos (by simpa using c2),if_pos ⟨c,c2⟩,step64 h0 c hn]
    · rw [if_neg (by simpa using c2),if_neg (fun h=>c2 h.2)]
  · rw [if_neg c,if_neg (by omega)]
    rfl
theorem want_ok (t:ByteArray) (hn:t.size≤140737488351232) (i b:Int) (h0:0≤i):
    impl_reader_want.f t i false b=some (if i < (t.size:Int)∧bt t i=b then (t,i+1,false) else (t,i,true)):=by
  unfold impl_reader_want.f
  rw [take_ok t hn i b h0]
  by_cases c:i < (t.size:Int)∧bt t i=b
  · rw [if_pos c,if_pos c];rfl
  · rw [if_neg c,if_neg c];rfl
theorem name_run (t:ByteArray) (hn:t.size≤140737488351232) (f:Int) (hf:0≤f):∀ (n k:Nat) (i:Int),f≤i→i - f=20 - (n:Int)→i≤(t.size:Int)→n < k→
    impl_reader_name.l0 k f t i false=some (if nend n t f i < (t.size:Int)∧bt t (nend n t f i)=59∧nend n t f i≠f then (t,nend n t f i+1,false) else (t,nend n t f i,true)):=by
  have w2:f≤(t.size:Int)→wrap64 (f+20)=f+20:=fun _=>by unfold wrap64;omega
  intro n
  induction n with
  | zero =>
    intro k i h0 h1 h2 hk
    obtain ⟨k,rfl⟩:∃ m,k=m+1:=⟨k - 1,by omega⟩
    rw [show nend 0 t f i=i from rfl]
    simp only [impl_reader_name.l0,impl_length.f,Option.bind_some,w2 (by omega)]
    rw [if_neg (by simp)]
    by_cases c1:i < (t.size:Int)
    · rw [if_pos c1,if_neg (by omega),if_neg (by omega),want_ok t hn i 59 (by omega)]
      by_cases c2:bt t i=59
      · rw [if_pos ⟨c1,c2⟩,if_pos ⟨c1,c2,by omega⟩];rfl
      · rw [if_neg (fun h=>c2 h.2),if_neg (fun h=>c2 h.2.1)];rfl
    · rw [if_neg c1,if_neg (by omega),want_ok t hn i 59 (by omega),if_neg (by omega),if_neg (by omega)];rfl
  | succ n ih =>
    intro k i h0 h1 h2 hk
    obtain ⟨k,rfl⟩:∃ m,k=m+1:=⟨k - 1,by omega⟩
    have w1:wrap64 (i - f)=i - f:=by unfold wrap64;omega
    obtain ⟨b,hb⟩:=name_byte_some (bt t i) (i == f)
    have hr:=bt_range t i
    have hbi:=name_byte (bt t i) (i - f) hr.1 hr.2 (by omega)
    have e0:(i - f == 0)=(i == f):=by
      by_cases c:i=f
      · subst c;simp
      · rw [beq_eq_false_iff_ne.mpr c,beq_eq_false_iff_ne.mpr (by omega)]
    rw [e0,hb] at hbi
    by_cases c1:i < (t.size:Int)
    · simp only [impl_reader_name.l0,impl_length.f,Option.bind_some,w2 (by omega),w1]
      rw [if_neg (by simp),if_pos c1,if_pos (by omega),if_pos (by omega),if_pos c1,hbi,step64 (by omega) c1 hn]
      cases b with
      | true =>
        have e:nend (n+1) t f i=nend n t f (i+1):=by
          rw [nend,if_pos ⟨c1,hb⟩]
        rw [e]
        simpa using ih k (i+1) (by omega) (by omega) (by omega) (by omega)
      | false =>
        have e:nend (n+1) t f i=i:=by
          rw [nend,hb];simp
        rw [e]
        simp only [Option.bind_some]
        rw [if_neg (by simp)]
        by_cases c3:i=f
        · rw [if_pos c3,want_bad,if_neg (by omega)];rfl
        · rw [if_neg c3,want_ok t hn i 59 (by omega)]
          by_cases c2:bt t i=59
          · rw [if_pos ⟨c1,c2⟩,if_pos ⟨c1,c2,c3⟩];rfl
          · rw [if_neg (fun h=>c2 h.2),if_neg (fun h=>c2 h.2.1)];rfl
    · have e:nend (n+1) t f i=i:=by
        rw [nend,if_neg (by omega)]
      rw [e]
      simp only [impl_reader_name.l0,impl_length.f,Option.bind_some]
      rw [if_neg (by simp),if_neg c1]
      by_cases c3:i=f
      · rw [if_pos c3,want_bad,if_neg (by omega)];rfl
      · rw [if_neg c3,want_ok t hn i 59 (by omega),if_neg (by omega),if_neg (by omega)];rfl
theorem spec_type_one (t:ByteArray) (hn:t.size≤140737488351232) (k:Nat) (hk:21 < k) (a:Int) (h0:0≤a) (h1:a < (t.size:Int)) (h2:bt t a≠73):
    spec_l02Type.j0 k t a false=some (oneAt t a):=by
  obtain ⟨k,rfl⟩:∃ m,k=m+1:=⟨k - 1,by omega⟩
  simp only [spec_l02Type.j0]
  rw [if_neg (by simp),if_pos h0,if_pos h1,step64 h0 h1 hn]
  have e:oneAt t a=if a < (t.size:Int)∧bt t a=76 then nameAt t (a+1) else (a,false):=by
    unfold oneAt
    exact if_neg (fun h=>h2 h.2)
  rw [e]
  by_cases c:bt t a=76
  · rw [if_pos c,if_pos ⟨h1,c⟩]
    exact spec_name_run t hn (a+1) (by omega) 20 k (a+1) (by omega) (by omega) (by omega) (by omega)
  · rw [if_neg c,if_neg (fun h=>c h.2)]
theorem spec_type_list (t:ByteArray) (hn:t.size≤140737488351232) (k:Nat) (hk:22 < k) (a:Int) (h0:0≤a) (h1:a≤(t.size:Int)):
    spec_l02Type.f k t a true=some (oneAt t a):=by
  obtain ⟨k,rfl⟩:∃ m,k=m+1:=⟨k - 1,by omega⟩
  simp only [spec_l02Type.f]
  by_cases c:a < (t.size:Int)
  · rw [if_neg (by omega),if_pos h0,if_pos c,step64 h0 c hn]
    by_cases c2:bt t a=73
    · rw [if_pos c2];unfold oneAt;rw [if_pos ⟨c,c2⟩]
    · rw [if_neg c2]
      have e:=spec_type_one t hn k (by omega) a h0 c c2
      by_cases c3:bt t a=91
      · rw [if_pos c3];exact e
      · rw [if_neg c3];exact e
  · rw [if_pos (by omega)];unfold oneAt;rw [if_neg (by omega),if_neg (by omega)]
theorem spec_type (t:ByteArray) (hn:t.size≤140737488351232) (k:Nat) (hk:24 < k) (a:Int) (h0:0≤a) (h1:a≤(t.size:Int)):
    spec_l02Type.f k t a false=some (tyAt t a):=by
  obtain ⟨k,rfl⟩:∃ m,k=m+1:=⟨k - 1,by omega⟩
  simp only [spec_l02Type.f]
  unfold tyAt
  by_cases c:a < (t.size:Int)
  · rw [if_neg (by omega),if_pos h0,if_pos c,step64 h0 c hn]
    by_cases c2:bt t a=73
    · rw [if_pos c2,if_neg (by omega)];unfold oneAt;rw [if_pos ⟨c,c2⟩]
    · rw [if_neg c2]
      by_cases c3:bt t a=91
      · rw [if_pos c3,if_pos ⟨c,c3⟩]
        obtain ⟨k,rfl⟩:∃ m,k=m+1:=⟨k - 1,by omega⟩
        simp only [spec_l02Type.j0]
        rw [if_pos (by simp),step64 h0 c hn,spec_type_list t hn k (by omega) (a+1) (by omega) (by omega)]
        rfl
      · rw [if_neg c3,if_neg (fun h=>c3 h.2)]
        exact spec_type_one t hn k (by omega) a h0 c c2
  · rw [if_pos (by omega),if_neg (by omega)];unfold oneAt;rw [if_neg (by omega),if_neg (by omega)]
theorem kind_tail (t:ByteArray) (hn:t.size≤140737488351232) (k:Nat) (hk:21 < k) (s a:Int) (hs:0≤s) (hsa:s≤a) (h1:a≤(t.size:Int)):
    ((impl_reader_take.f t a false 73).bind fun (x:Bool×ByteArray×Int×Bool)=>(if x.1=true then (if x.2.2.2=true then (some ((⟨#[]⟩:ByteArray),x.2.1,x.2.2.1,x.2.2.2)) else (if 0≤s then (if s≤x.2.2.1 then (if x.2.2.1≤(x.2.1.size:Int) then (some (x.2.1.extract (s:Int).toNat (x.2.2.1:Int).toNat,x.2.1,x.2.2.1,x.2.2.2)) else (none)) else (none)) else (none))) else ((impl_reader_take.f x.2.1 x.2.2.1 x.2.2.2 76).bind fun y=>(if y.1=true then ((impl_reader_name.f k y.2.1 y.2.2.1 y.2.2.2).bind fun z=>(if z.2.2=true then (some ((⟨#[]⟩:ByteArray),z.1,z.2.1,z.2.2)) else (if 0≤s then (if s≤z.2.1 then (if z.2.1≤(z.1.size:Int) then (some (z.1.extract (s:Int).toNat (z.2.1:Int).toNat,z.1,z.2.1,z.2.2)) else (none)) else (none)) else (none)))) else (some ((⟨#[]⟩:ByteArray),y.2.1,y.2.2.1,true))))))
      = some ((if (oneAt t a).2=true then t.extract s.toNat (oneAt t a).1.toNat else ⟨#[]⟩),t,(oneAt t a).1,!(oneAt t a).2):=by
  have h0:0≤a:=by omega
  rw [take_ok t hn a 73 h0]
  by_cases c1:a < (t.size:Int)∧bt t a=73
  · have e:oneAt t a=(a+1,true):=by unfold oneAt;rw [if_pos c1]
    rw [if_pos c1,e]
    simp only [Option.bind_some]
    rw [if_pos trivial,if_neg (by simp),if_pos hs,if_pos (by omega),if_pos (by omega)]
    rfl
  · rw [if_neg c1]
    simp only [Option.bind_some]
    rw [if_neg (by simp),take_ok t hn a 76 h0]
    by_cases c2:a < (t.size:Int)∧bt t a=76
    · have e:oneAt t a=nameAt t (a+1):=by unfold oneAt;rw [if_neg c1,if_pos c2]
      rw [if_pos c2,e]
      simp only [Option.bind_some]
      have hg:=nend_ge t (a+1) 20 (a+1) (by omega)
      rw [if_pos trivial,impl_reader_name.f,name_run t hn (a+1) (by omega) 20 k (a+1) (by omega) (by omega) (by omega) (by omega)]
      unfold nameAt
      by_cases c3:nend 20 t (a+1) (a+1) < (t.size:Int)∧bt t (nend 20 t (a+1) (a+1))=59∧nend 20 t (a+1) (a+1)≠a+1
      · rw [if_pos c3,if_pos c3]
        simp only [Option.bind_some]
        rw [if_neg (by simp),if_pos hs,if_pos (by omega),if_pos (by omega)]
        rfl
      · rw [if_neg c3,if_neg c3]
        rfl
    · have e:oneAt t a=(a,false):=by unfold oneAt;rw [if_neg c1,if_neg c2]
      rw [if_neg c2,e]
      rfl
theorem impl_kind (t:ByteArray) (hn:t.size≤140737488351232) (k:Nat) (hk:21 < k) (a:Int) (h0:0≤a) (h1:a≤(t.size:Int)):
    impl_reader_kind.f k t a false=some ((if (tyAt t a).2=true then t.extract a.toNat (tyAt t a).1.toNat else ⟨#[]⟩),t,(tyAt t a).1,!(tyAt t a).2):=by
  unfold impl_reader_kind.f
  rw [take_ok t hn a 91 h0]
  unfold tyAt
  by_cases c:a < (t.size:Int)∧bt t a=91
  · rw [if_pos c,if_pos c]
    exact kind_tail t hn k hk a (a+1) h0 (by omega) (by omega)
  · rw [if_neg c,if_neg c]
    exact kind_tail t hn k hk a a h0 (by omega) (by omega)
theorem bt_ext (s t:ByteArray) (h:s.size=t.size) (hb:∀ i:Nat,i < s.size→bt s i=bt t i):s=t:=by
  apply ByteArray.ext
  apply Array.ext
  · exact h
  · intro i h1 h2
    have e:=hb i h1
    have a:=bt_at s i (by simpa using h1)
    have b:=bt_at t i (by simpa using h2)
    rw [← a,← b] at e
    exact UInt8.toNat_inj.mp (by exact_mod_cast e)
theorem str_one (s:ByteArray) (c:UInt8):s.toList=[c]↔s.size=1∧bt s 0=(c.toNat:Int):=by
  constructor
  · intro h
    have e:s=⟨#[c]⟩:=WideShapes.bytes_inj (by rw [← Lib.toList_data];exact h)
    subst e
    exact ⟨rfl,rfl⟩
  · intro h
    have e:s=⟨#[c]⟩:=by
      refine bt_ext _ _ h.1 (fun i hi=>?_)
      obtain rfl:i=0:=by omega
      exact h.2
    subst e
    rw [Lib.toList_data]
theorem one_shape (s:ByteArray) (a:Int) (h:oneAt s a=((s.size:Int),true)):
    (a+1=(s.size:Int)∧bt s a=73)∨(a+3≤(s.size:Int)∧bt s a=76):=by
  unfold oneAt at h
  split at h
  · rename_i c
    have:=(Prod.mk.inj h).1
    exact .inl ⟨this,c.2⟩
  · split at h
    · rename_i c
      have hg:=nend_ge s (a+1) 20 (a+1) (by omega)
      unfold nameAt at h
      split at h
      · rename_i c2
        have:=(Prod.mk.inj h).1
        exact .inr ⟨by omega,c.2⟩
      · exact absurd (Prod.mk.inj h).2 (by simp)
    · exact absurd (Prod.mk.inj h).2 (by simp)
theorem right_shape (s:ByteArray) (h:tyAt s 0=((s.size:Int),true)):
    (s.size=1∧bt s 0=73)∨(3≤s.size∧bt s 0=76)∨(s.size=2∧bt s 0=91∧bt s 1=73)∨(4≤s.size∧bt s 0=91∧bt s 1=76):=by
  unfold tyAt at h
  split at h
  · rename_i c
    rcases one_shape s _ h with h|h
    · exact .inr (.inr (.inl ⟨by omega,c.2,h.2⟩))
    · exact .inr (.inr (.inr ⟨by omega,c.2,h.2⟩))
  · rcases one_shape s _ h with h|h
    · exact .inl ⟨by omega,h.2⟩
    · exact .inr (.inl ⟨by omega,h.2⟩)
def tright (s:ByteArray):Bool:=(tyAt s 0).2 && (tyAt s 0).1 == (s.size:Int)
theorem tright_eq (s:ByteArray) (h:tright s=true):tyAt s 0=((s.size:Int),true):=by
  unfold tright at h
  rw [Bool.and_eq_true,beq_iff_eq] at h
  exact Prod.ext h.2 h.1
theorem spec_right (s:ByteArray) (hn:s.size≤20000) (k:Nat) (hk:24 < k):spec_TypeRight.f k s=some (tright s):=by
  unfold spec_TypeRight.f tright
  rw [if_neg (by omega),spec_type s (by omega) k hk 0 (by omega) (by omega)]
  simp only [Option.bind_some]
  cases (tyAt s 0).2 <;> simp
theorem impl_right (s:ByteArray) (hn:s.size≤140737488351232) (k:Nat) (hk:24 < k):impl_typeRight.f k s=some (tright s):=by
  unfold impl_typeRight.f tright
  rw [impl_kind s hn k (by omega) 0 (by omega) (by omega)]
  simp only [Option.bind_some,impl_length.f]
  cases (tyAt s 0).2 <;> simp
theorem nend_le (t:ByteArray) (f:Int):∀ (n:Nat) (i:Int),nend n t f i≤i+n
  | 0,i=>by unfold nend;omega
  | n + 1, i => by
    unfold nend
    split
    · have:=nend_le t f n (i+1)
      omega
    · omega
theorem one_le (t:ByteArray) (a:Int):(oneAt t a).1≤a+22:=by
  have:=nend_le t (a+1) 20 (a+1)
  unfold oneAt nameAt
  repeat' split
  all_goals (dsimp only;omega)
theorem tright_le (s:ByteArray) (h:tright s=true):s.size≤23:=by
  have e:=tright_eq s h
  unfold tyAt at e
  split at e
  · have:=one_le s (0+1)
    rw [e] at this
    dsimp only at this
    omega
  · have:=one_le s 0
    rw [e] at this
    dsimp only at this
    omega
theorem spec_right_all (s:ByteArray) (k:Nat) (hk:24 < k):spec_TypeRight.f k s=some (tright s):=by
  by_cases c:s.size≤20000
  · exact spec_right s c k hk
  · have e:tright s=false:=by
      cases h:tright s with
      | false=>rfl
      | true=>have:=tright_le s h;omega
    rw [e]
    unfold spec_TypeRight.f
    rw [if_pos (by omega)]
theorem tright_one (s:ByteArray) (h:s.size=1∧bt s 0=73):tright s=true:=by
  have e1:oneAt s 0=(1,true):=by unfold oneAt;rw [if_pos ⟨by omega,h.2⟩];rfl
  unfold tright tyAt
  rw [if_neg (by omega),e1,h.1]
  rfl
theorem is_text (s:ByteArray):impl_isText.f 2 [s]=some (decide (s.size≤20000)):=by
  by_cases h:s.size≤20000
  · simp [impl_isText.f,impl_isText.l0,rdOf,wrap64,h]
    omega
  · simp [impl_isText.f,impl_isText.l0,rdOf,wrap64,h]
    omega
theorem is_text_at (s:ByteArray) (k:Nat) (hk:2≤k):impl_isText.f k [s]=some (decide (s.size≤20000)):=by
  obtain ⟨d,rfl⟩:∃ d,k=2+d:=⟨k - 2,by omega⟩
  induction d with
  | zero=>exact is_text s
  | succ d ih=>exact impl_isText.mono [s] (2+d) _ (ih (by omega))
abbrev DescR:=List ByteArray×ByteArray×Int×Int
def dwrong (a:Int):DescR:=(([]:List ByteArray),(⟨#[]⟩:ByteArray),a,3)
def descTail (s:ByteArray) (a:Int) (ps:List ByteArray):DescR:=
  if a < (s.size:Int)∧bt s a=86 then (if a+1 < (s.size:Int) then dwrong (a+1) else (ps,(⟨#[86]⟩:ByteArray),0,0))
  else if (tyAt s a).2=true then (if (tyAt s a).1 < (s.size:Int) then dwrong (tyAt s a).1 else (ps,s.extract a.toNat (tyAt s a).1.toNat,0,0)) else dwrong (tyAt s a).1
def descLoop:Nat→ByteArray→Int→List ByteArray→DescR
  | 0,_,a,_=>dwrong a
  | n + 1, s, a, ps => if a < (s.size : Int) then
      (if bt s a=41 then descTail s (a+1) ps else if ps.length=8 then dwrong a else
        if (tyAt s a).2=true then descLoop n s (tyAt s a).1 (ps++[s.extract a.toNat (tyAt s a).1.toNat]) else dwrong (tyAt s a).1)
    else dwrong a
def descOf (s:ByteArray):DescR:=if 0 < (s.size:Int)∧bt s 0=40 then descLoop 9 s 1 [] else dwrong 0
theorem descLoop_le:∀ (n:Nat) (s:ByteArray) (a:Int) (ps:List ByteArray),ps.length≤8→(descLoop n s a ps).1.length≤8
  | 0,s,a,ps,h=>by simp [descLoop,dwrong]
  | n + 1, s, a, ps, h => by
    unfold descLoop
    split
    · split
      · unfold descTail
        repeat' split
        all_goals first|exact h|exact Nat.zero_le _
      · split
        · exact Nat.zero_le _
        · split
          · exact descLoop_le n s _ _ (by simp;omega)
          · exact Nat.zero_le _
    · exact Nat.zero_le _
theorem descOf_le (s:ByteArray):(descOf s).1.length≤8:=by
  unfold descOf
  split
  · exact descLoop_le _ _ _ _ (by simp)
  · exact Nat.zero_le _
theorem spec_desc_tail (s:ByteArray) (hn:s.size≤140737488351232) (k:Nat) (hk:25 < k) (a:Int) (h0:0≤a) (h1:a≤(s.size:Int)) (ps:List ByteArray) (b:Bool) (hb:b=decide (a < (s.size:Int)∧bt s a=86)):
    spec_DescRead.j3 k s a b ps ⟨#[]⟩=some (descTail s a ps):=by
  obtain ⟨k,rfl⟩:∃ m,k=m+1:=⟨k - 1,by omega⟩
  have hg:=tyAt_ge s a h1
  simp only [spec_DescRead.j3,spec_l02Wrong.f,Option.bind_some]
  unfold descTail
  by_cases c:a < (s.size:Int)∧bt s a=86
  · rw [hb,decide_eq_true c,if_pos c,if_pos rfl,step64 h0 c.1 hn]
    by_cases c2:a+1 < (s.size:Int)
    · rw [if_pos c2,if_pos c2];rfl
    · rw [if_neg c2,if_neg c2]
  · rw [hb,decide_eq_false c,if_neg c,if_neg (by simp),spec_type s hn k (by omega) a h0 h1]
    simp only [Option.bind_some]
    by_cases c2:(tyAt s a).2=true
    · rw [if_pos c2,if_pos c2,if_pos h0,if_pos hg.1,if_pos hg.2.1]
      by_cases c3:(tyAt s a).1 < (s.size:Int)
      · rw [if_pos c3,if_pos c3];rfl
      · rw [if_neg c3,if_neg c3]
    · rw [if_neg c2,if_neg c2];rfl
theorem spec_desc_loop (s:ByteArray) (hn:s.size≤140737488351232):∀ (n k:Nat) (a:Int) (ps:List ByteArray),0≤a→a≤(s.size:Int)→ps.length+n=9→1≤n→30+2*n≤k→
    spec_DescRead.l0 k s a ps ⟨#[]⟩=some (descLoop n s a ps)
  | 0,k,a,ps,h0,h1,hp,h2,hk=>by omega
  | n + 1, k, a, ps, h0, h1, hp, h2, hk => by
    obtain ⟨k,rfl⟩:∃ m,k=m+2:=⟨k - 2,by omega⟩
    have hg:=tyAt_ge s a h1
    unfold descLoop
    simp only [spec_DescRead.l0]
    by_cases c:a < (s.size:Int)
    · rw [if_pos c,if_pos c,if_pos h0]
      simp only [spec_DescRead.j2,spec_l02Wrong.f,Option.bind_some]
      by_cases c2:bt s a=41
      · have e:(bt s a != 41)=false:=bne_eq_false_iff_eq.mpr c2
        rw [if_pos c2,e,if_neg (by simp),if_neg (by omega),step64 h0 c hn]
        by_cases c3:a+1 < (s.size:Int)
        · rw [if_pos c3,if_pos (by omega)]
          exact spec_desc_tail s hn k (by omega) (a+1) (by omega) (by omega) ps _ (by
            by_cases c4:bt s (a+1)=86
            · rw [decide_eq_true ⟨c3,c4⟩];simpa using c4
            · rw [decide_eq_false (fun h=>c4 h.2)];simpa using c4)
        · rw [if_neg c3]
          exact spec_desc_tail s hn k (by omega) (a+1) (by omega) (by omega) ps _ (by rw [decide_eq_false (fun h=>c3 h.1)])
      · have e:(bt s a != 41)=true:=bne_iff_ne.mpr c2
        rw [if_neg c2,e,if_pos rfl]
        by_cases c3:ps.length=8
        · rw [if_pos (by omega),if_pos c3];rfl
        · rw [if_neg (by omega),if_neg c3,spec_type s hn k (by omega) a h0 h1]
          simp only [Option.bind_some]
          by_cases c4:(tyAt s a).2=true
          · rw [if_pos c4,if_pos c4,if_pos h0,if_pos hg.1,if_pos hg.2.1,if_pos (by omega)]
            exact spec_desc_loop s hn n k _ _ (by omega) hg.2.1 (by simp;omega) (by omega) (by omega)
          · rw [if_neg c4,if_neg c4];rfl
    · rw [if_neg c,if_neg c]
      simp only [spec_DescRead.j2,spec_l02Wrong.f,Option.bind_some]
      rw [if_neg (by simp),if_pos (by omega)];rfl
theorem impl_desc_bad (s:ByteArray) (k:Nat) (hk:0 < k) (a:Int) (ps:List ByteArray):impl_descRead.j2 k s s a true ps ⟨#[]⟩=some (dwrong a):=by
  obtain ⟨k,rfl⟩:∃ m,k=m+1:=⟨k - 1,by omega⟩
  simp only [impl_descRead.j2,take_bad,Option.bind_some]
  rfl
theorem impl_desc_tail (s:ByteArray) (hn:s.size≤140737488351232) (k:Nat) (hk:25 < k) (a:Int) (h0:0≤a) (h1:a≤(s.size:Int)) (ps:List ByteArray):
    impl_descRead.j2 k s s a false ps ⟨#[]⟩=some (descTail s a ps):=by
  obtain ⟨k,rfl⟩:∃ m,k=m+1:=⟨k - 1,by omega⟩
  have hg:=tyAt_ge s a h1
  simp only [impl_descRead.j2,take_ok s hn a 86 h0,Option.bind_some,impl_length.f]
  unfold descTail
  by_cases c:a < (s.size:Int)∧bt s a=86
  · rw [if_pos c,if_pos c]
    simp only [if_pos trivial]
    by_cases c2:a+1 < (s.size:Int)
    · rw [if_pos c2,if_pos c2,if_neg (by simp)];rfl
    · rw [if_neg c2,if_neg c2,if_neg (by simp)]
  · rw [if_neg c,if_neg c]
    rw [if_neg (by simp),if_neg (by simp)]
    dsimp only
    rw [impl_kind s hn k (by omega) a h0 h1]
    simp only [Option.bind_some]
    by_cases c2:(tyAt s a).2=true
    · rw [if_pos c2,c2]
      simp only [if_pos trivial]
      rw [if_neg (by simp)]
      by_cases c3:(tyAt s a).1 < (s.size:Int)
      · rw [if_pos c3,if_pos c3];rfl
      · rw [if_neg c3,if_neg c3]
    · have c2':(tyAt s a).2=false:=by simpa using c2
      rw [if_neg c2,c2']
      rfl
theorem impl_desc_loop (s:ByteArray) (hn:s.size≤140737488351232):∀ (n k:Nat) (a:Int) (ps:List ByteArray),0≤a→a≤(s.size:Int)→ps.length+n=9→1≤n→30+2*n≤k→
    impl_descRead.l0 k s s a false ps ⟨#[]⟩=some (descLoop n s a ps)
  | 0,k,a,ps,h0,h1,hp,h2,hk=>by omega
  | n + 1, k, a, ps, h0, h1, hp, h2, hk => by
    obtain ⟨k,rfl⟩:∃ m,k=m+2:=⟨k - 2,by omega⟩
    have hg:=tyAt_ge s a h1
    have hbad:∀ (i:Int) (qs:List ByteArray),impl_descRead.l0 k s s i true qs ⟨#[]⟩=some (dwrong i):=fun i qs=>by
      obtain ⟨k,rfl⟩:∃ m,k=m+2:=⟨k - 2,by omega⟩
      simp only [impl_descRead.l0]
      rw [if_pos trivial]
      simp only [impl_descRead.j1]
      rw [if_neg (by simp)]
      exact impl_desc_bad s k (by omega) i qs
    unfold descLoop
    simp only [impl_descRead.l0]
    rw [if_neg (by simp),take_ok s hn a 41 h0]
    simp only [Option.bind_some]
    by_cases c:a < (s.size:Int)
    · rw [if_pos c]
      by_cases c2:bt s a=41
      · rw [if_pos ⟨c,c2⟩,if_pos c2]
        simp only [impl_descRead.j1]
        rw [if_neg (by simp)]
        exact impl_desc_tail s hn k (by omega) (a+1) (by omega) (by omega) ps
      · rw [if_neg (fun h=>c2 h.2),if_neg c2]
        simp only [impl_descRead.j1]
        rw [if_pos (by simp)]
        by_cases c3:ps.length=8
        · rw [if_pos (by omega),if_pos c3]
          exact impl_desc_bad s k (by omega) a ps
        · rw [if_neg (by omega),if_neg c3,impl_kind s hn k (by omega) a h0 h1]
          simp only [Option.bind_some]
          rw [if_pos (by omega)]
          by_cases c4:(tyAt s a).2=true
          · rw [if_pos c4,if_pos c4,c4]
            exact impl_desc_loop s hn n k _ _ (by omega) hg.2.1 (by simp;omega) (by omega) (by omega)
          · have c4':(tyAt s a).2=false:=by simpa using c4
            rw [if_neg c4,if_neg c4,c4']
            exact hbad _ _
    · rw [if_neg c,if_neg (fun h=>c h.1)]
      simp only [impl_descRead.j1]
      rw [if_pos (by simp)]
      by_cases c3:ps.length=8
      · rw [if_pos (by omega)]
        exact impl_desc_bad s k (by omega) a ps
      · rw [if_neg (by omega),impl_kind s hn k (by omega) a h0 h1]
        simp only [Option.bind_some]
        rw [if_pos (by omega)]
        have e:tyAt s a=(a,false):=by
          unfold tyAt oneAt
          rw [if_neg (fun h=>c h.1),if_neg (fun h=>c h.1),if_neg (fun h=>c h.1)]
        rw [e]
        exact hbad _ _
theorem spec_desc (s:ByteArray) (hn:s.size≤20000) (k:Nat) (hk:60≤k):spec_DescRead.f k s=some (descOf s):=by
  obtain ⟨k,rfl⟩:∃ m,k=m+1:=⟨k - 1,by omega⟩
  unfold spec_DescRead.f descOf
  rw [if_neg (by omega)]
  by_cases c:(s.size:Int)=0
  · rw [if_pos c,if_neg (by omega)]
    simp only [spec_DescRead.j0,spec_l02Wrong.f,Option.bind_some]
    rw [if_pos trivial];rfl
  · rw [if_neg c,if_pos (by omega)]
    simp only [spec_DescRead.j0,spec_l02Wrong.f,Option.bind_some]
    by_cases c2:bt s 0=40
    · rw [bne_eq_false_iff_eq.mpr c2,if_neg (by simp),if_pos ⟨by omega,c2⟩]
      exact spec_desc_loop s (by omega) 9 k 1 [] (by omega) (by omega) (by simp) (by omega) (by omega)
    · rw [bne_iff_ne.mpr c2,if_pos rfl,if_neg (fun h=>c2 h.2)];rfl
theorem impl_desc (s:ByteArray) (hn:s.size≤140737488351232) (k:Nat) (hk:60≤k):impl_descRead.f k s=some (descOf s):=by
  unfold impl_descRead.f descOf
  rw [want_ok s hn 0 40 (by omega)]
  simp only [Option.bind_some]
  by_cases c:(0:Int) < (s.size:Int)∧bt s 0=40
  · rw [if_pos c,if_pos c]
    exact impl_desc_loop s hn 9 k 1 [] (by omega) (by omega) (by simp) (by omega) (by omega)
  · rw [if_neg c,if_neg c]
    obtain ⟨k,rfl⟩:∃ m,k=m+2:=⟨k - 2,by omega⟩
    simp only [impl_descRead.l0]
    rw [if_pos trivial]
    simp only [impl_descRead.j1]
    rw [if_neg (by simp)]
    exact impl_desc_bad s k (by omega) 0 []
def descGot (s:ByteArray):DescR:=if s.size≤20000 then descOf s else (([]:List ByteArray),(⟨#[]⟩:ByteArray),0,2)
theorem descGot_le (s:ByteArray):(descGot s).1.length≤8:=by
  unfold descGot
  split
  · exact descOf_le s
  · exact Nat.zero_le _
theorem spec_Desc (s:ByteArray) (k:Nat) (hk:60≤k):spec_DescRead.f k s=some (descGot s):=by
  unfold descGot
  by_cases c:s.size≤20000
  · rw [if_pos c];exact spec_desc s c k hk
  · rw [if_neg c]
    unfold spec_DescRead.f
    rw [if_pos (by omega)]
def bareB (c n d:ByteArray):Bool:=decide (c.toList=[]) && (decide (n.toList=[]) && decide (d.toList=[]))
theorem ins_bare (k:Nat) (o a:Int) (c n d:ByteArray):impl_InsRight.f k o a c n d=impl_InsRight.j0 k (bareB c n d) o a c n d:=by
  unfold impl_InsRight.f bareB
  by_cases h1:c.toList=[]
  · rw [if_pos h1,decide_eq_true h1]
    by_cases h2:n.toList=[]
    · rw [if_pos h2,decide_eq_true h2]
      have e:(d.toList == ([]:List UInt8))=decide (d.toList=[]):=by
        rw [Bool.eq_iff_iff,beq_iff_eq,decide_eq_true_eq]
      rw [e];rfl
    · rw [if_neg h2,decide_eq_false h2];rfl
  · rw [if_neg h1,decide_eq_false h1];rfl
theorem spec_bare (o a:Int) (c n d:ByteArray):spec_l03Empty.f o a c n d=some (bareB c n d):=by
  unfold spec_l03Empty.f bareB
  by_cases h1:c.toList=[]
  · rw [if_pos h1,decide_eq_true h1]
    by_cases h2:n.toList=[]
    · rw [if_pos h2,decide_eq_true h2]
      have e:(d.toList == ([]:List UInt8))=decide (d.toList=[]):=by
        rw [Bool.eq_iff_iff,beq_iff_eq,decide_eq_true_eq]
      rw [e];rfl
    · rw [if_neg h2,decide_eq_false h2];rfl
  · rw [if_neg h1,decide_eq_false h1];rfl
theorem is_desc (s:ByteArray) (k:Nat) (hk:60≤k):impl_isDesc.f k s=some ((descGot s).2.2.2 == 0):=by
  unfold impl_isDesc.f descGot
  rw [is_text_at s k (by omega)]
  by_cases c:s.size≤20000
  · rw [decide_eq_true c,if_pos c]
    simp only [Option.bind_some]
    rw [if_pos trivial,impl_desc s (by omega) k hk]
    rfl
  · rw [decide_eq_false c,if_neg c]
    rfl
theorem ins_same (o a:Int) (c n d:ByteArray) (hc:c.size≤1048576) (hn:n.size≤1048576) (hd:d.size≤1048576):
    ∃ r,(∀ k,1048600≤k→spec_InsRight.f k o a c n d=some r)∧(∀ k,1048600≤k→impl_InsRight.f k o a c n d=some r):=by
  obtain ⟨F,hF1,hF2⟩:=op_form o
  obtain ⟨b1,s1,i1⟩:=names_same c (by omega)
  obtain ⟨b2,s2,i2⟩:=names_same n (by omega)
  have key:∀ k,1048599≤k→∃ r,spec_InsRight.f (k+1) o a c n d=some r∧impl_InsRight.f (k+1) o a c n d=some r:=by
    intro k hk
    rw [ins_bare]
    unfold spec_InsRight.f
    simp only [impl_InsRight.j0,hF1,hF2 (k+1) (by omega),Option.bind_some,spec_bare,s1 (k+1) (by omega),s2 (k+1) (by omega),i1 k (by omega),i2 k (by omega),spec_right_all d (k+1) (by omega),impl_right d (by omega) k (by omega),spec_Desc d (k+1) (by omega),is_desc d k (by omega),impl_isInt.f,impl_within.f,spec_l01Int.f,impl_isMethodName.f]
    generalize bareB c n d=B
    by_cases f0:F.toList=[]
    · rw [if_pos f0,if_pos f0]
      cases B <;> by_cases ha:a=0 <;> simp [ha]
    rw [if_neg f0,if_neg f0]
    by_cases f1:F.toList=[110]
    · rw [if_pos f1,if_pos f1]
      cases B <;> by_cases h1:a ≥ -2147483648 <;> by_cases h2:a≤2147483647 <;> simp [h1,h2]
    rw [if_neg f1,if_neg f1]
    by_cases f2:F.toList=[105]
    · rw [if_pos f2,if_pos f2]
      cases B <;> by_cases h1:a ≥ 0 <;> by_cases h2:a < 16 <;> simp [h1,h2] <;> omega
    rw [if_neg f2,if_neg f2]
    by_cases f3:F.toList=[116]
    · rw [if_pos f3,if_pos f3]
      cases B <;> by_cases h1:a ≥ 0 <;> by_cases h2:a < 60 <;> simp [h1,h2] <;> omega
    rw [if_neg f3,if_neg f3]
    by_cases f4:F.toList=[99]
    · rw [if_pos f4,if_pos f4]
      by_cases ha:a=0 <;> by_cases h2:n.toList=[] <;> cases b1 <;> simp [ha,h2]
    rw [if_neg f4,if_neg f4]
    by_cases f5:F.toList=[121]
    · rw [if_pos f5,if_pos f5]
      by_cases ha:a=0
      · rw [if_pos ha,if_pos ha]
        by_cases h1:c.toList=[]
        · rw [if_pos h1,if_pos h1]
          by_cases h2:n.toList=[]
          · rw [if_pos h2,if_pos h2]
            by_cases ht:tright d=true
            · have hs:=right_shape d (tright_eq d ht)
              rw [ht,if_pos rfl,if_pos (by omega)]
              by_cases h3:d.toList=[73]
              · rw [if_pos h3]
                have:=(str_one d 73).mp h3
                have e:bt d 0=73:=this.2
                exact ⟨_,rfl,by rw [e];rfl⟩
              · rw [if_neg h3,if_pos rfl,if_pos (by omega)]
                refine ⟨_,rfl,congrArg some ?_⟩
                have h4:¬ (d.size=1∧bt d 0=73):=fun h=>h3 ((str_one d 73).mpr h)
                by_cases h5:bt d 0=76
                · rw [h5];rfl
                · have h6:bt d 0=91:=by omega
                  rw [h6];rfl
            · have h3:¬ d.toList=[73]:=fun h=>ht (tright_one d ((str_one d 73).mp h))
              rw [if_neg ht,if_neg h3,if_neg ht]
              exact ⟨_,rfl,rfl⟩
          · rw [if_neg h2,if_neg h2]
            exact ⟨_,rfl,rfl⟩
        · rw [if_neg h1,if_neg h1]
          exact ⟨_,rfl,rfl⟩
      · rw [if_neg ha,if_neg ha]
        exact ⟨_,rfl,rfl⟩
    rw [if_neg f5,if_neg f5]
    by_cases f6:F.toList=[102]
    · rw [if_pos f6,if_pos f6]
      by_cases ha:a=0 <;> cases b1 <;> cases b2 <;> simp [ha]
    rw [if_neg f6,if_neg f6]
    by_cases f7:F.toList=[109]
    · rw [if_pos f7,if_pos f7]
      by_cases ha:a=0
      · rw [if_pos ha,if_pos ha]
        cases b1
        · simp
        · cases b2
          · by_cases h3:n.toList=[60,105,110,105,116,62] <;> simp [h3]
          · simp
      · rw [if_neg ha,if_neg ha]
        exact ⟨_,rfl,rfl⟩
    rw [if_neg f7,if_neg f7]
    exact ⟨_,rfl,rfl⟩
  obtain ⟨r,e1,e2⟩:=key 1048599 (Nat.le_refl _)
  refine ⟨r,fun k hk=>?_,fun k hk=>?_⟩
  · exact at_rounds (g:=fun k=>spec_InsRight.f k o a c n d) (fun k=>spec_InsRight.mono _ _ _ _ _ _) hk e1
  · exact at_rounds (g:=fun k=>impl_InsRight.f k o a c n d) (fun k=>impl_InsRight.mono _ _ _ _ _ _) hk e2
theorem impl_Desc (s:ByteArray) (k:Nat) (hk:60≤k):impl_DescRead.f k s=some (descGot s):=by
  unfold impl_DescRead.f descGot
  rw [is_text_at s k (by omega)]
  by_cases c:s.size≤20000
  · rw [decide_eq_true c,if_pos c]
    simp only [Option.bind_some]
    rw [if_pos trivial,impl_desc s (by omega) k hk]
    rfl
  · rw [decide_eq_false c,if_neg c]
    rfl
theorem Ev.one {α:Type} {g:Nat→Option α} {a b:α} (h1:Ev g a) (h2:Ev g b):a=b:=by
  obtain ⟨K1,h1⟩:=h1
  obtain ⟨K2,h2⟩:=h2
  have e1:=h1 (max K1 K2) (by omega)
  have e2:=h2 (max K1 K2) (by omega)
  rw [e1] at e2
  exact Option.some.inj e2
theorem EvIff.self {g:Nat→Option Bool} {r:Bool} (h:Ev g r):EvIff g (Ev g true):=
  ⟨r,h,⟨fun e=>by rw [e] at h;exact h,fun h2=>Ev.one h h2⟩⟩
theorem EvIff.other {g f:Nat→Option Bool} {r:Bool} (h:Ev g r) (hf:Ev f r):EvIff f (Ev g true):=
  ⟨r,hf,⟨fun e=>by rw [e] at h;exact h,fun h2=>Ev.one h h2⟩⟩
theorem EvIff.through {β:Type} {h:Nat→Option β} {v:β} {g:Nat→β→Option Bool} {P:Prop} (hh:Ev h v) (hg:EvIff (fun k=>g k v) P):EvIff (fun k=>(h k).bind fun t=>g k t) P:=by
  obtain ⟨r,g1,g2⟩:=hg
  exact ⟨r,Ev.bind (f:=g) hh g1,g2⟩
theorem all_then {α:Type} {z:α} {L:Nat→Int→Option Bool} {R:Nat→Option Bool} {G:Nat→Int→α→Option Bool} {C:α→Prop} {P:Prop} (a:List α)
    (hL:∀ k i,L (k+1) i=if i < (a.length:Int) then (if 0≤i then G k i (a.getD i.toNat z) else none) else R k)
    (hG:∀ (i:Int) (x:α),x∈a→∀ Q:Prop,EvIff (fun k=>L k (wrap64 (i+1))) Q→EvIff (fun k=>G k i x) (C x∧Q)) (hR:EvIff R P) (hn:a.length≤4611686018427387904):EvIff (fun k=>L k 0) ((∀ x∈a,C x)∧P):=by
  have key:∀ (d i:Nat),i+d=a.length→EvIff (fun k=>L k (i:Int)) ((∀ x∈a.drop i,C x)∧P):=by
    intro d
    induction d with
    | zero =>
      intro i hd
      refine EvIff.iff (P:=P) (EvIff.step (f:=R) (fun k=>by rw [hL,if_neg (by omega)]) hR) ?_
      rw [List.drop_eq_nil_of_le (by omega)];simp
    | succ d ih =>
      intro i hd
      have ha:i < a.length:=by omega
      have h2:=ih (i+1) (by omega)
      rw [← up64 ha hn] at h2
      refine EvIff.iff (EvIff.step (f:=fun k=>G k (i:Int) a[i]) (fun k=>?_) (hG i _ (List.getElem_mem ha) _ h2)) (by rw [List.drop_eq_getElem_cons ha,List.forall_mem_cons,and_assoc])
      rw [hL,if_pos (by omega),if_pos (by omega),getD_at ha]
  exact key a.length 0 (by omega)
theorem idx_list {α:Type} {z:α} {L:Nat→Int→Option Int} {E:Nat→α→Option Bool} {B:α→Prop} (a:List α)
    (hL:∀ k i,L (k+1) i=if i < (a.length:Int) then (if 0≤i then (if i < (a.length:Int) then ((E k (a.getD i.toNat z)).bind fun t=>(if t=true then (some i) else (L k (wrap64 (i+1))))) else none) else none) else some (-1))
    (hE:∀ x∈a,EvIff (fun k=>E k x) (B x)) (hn:a.length≤4611686018427387904):
    ∃ r:Int,Ev (fun k=>L k 0) r∧((r=-1∧∀ x∈a,¬ B x)∨∃ n:Nat,r=n∧∃ h:n < a.length,B a[n]∧∀ j,(hj:j < n)→¬ B (a[j]'(by omega))):=by
  have key:∀ (d i:Nat),i+d=a.length→∃ r:Int,Ev (fun k=>L k (i:Int)) r∧((r=-1∧∀ j,i≤j→(hj:j < a.length)→¬ B a[j])∨∃ n:Nat,r=n∧i≤n∧∃ h:n < a.length,B a[n]∧∀ j,i≤j→(hj:j < n)→¬ B (a[j]'(by omega))):=by
    intro d
    induction d with
    | zero =>
      intro i hd
      exact ⟨-1,Ev.step (f:=fun _=>some (-1)) (fun k=>by rw [hL,if_neg (by omega)]) (Ev.now _),.inl ⟨rfl,fun j h1 h2=>by omega⟩⟩
    | succ d ih =>
      intro i hd
      have ha:i < a.length:=by omega
      obtain ⟨b,hb,hB⟩:=hE _ (List.getElem_mem ha)
      have st:∀ k,L (k+1) (i:Int)=(E k a[i]).bind fun t=>(if t=true then (some (i:Int)) else (L k ((i+1:Nat):Int))):=fun k=>by
        rw [hL,if_pos (by omega),if_pos (by omega),if_pos (by omega),getD_at ha,up64 ha hn]
      cases b with
      | true=>exact ⟨i,Ev.step st (Ev.bind (f:=fun k t=>if t=true then (some (i:Int)) else (L k ((i+1:Nat):Int))) hb (Ev.congr (f:=fun _=>some (i:Int)) (fun k=>if_pos rfl) (Ev.now _))),.inr ⟨i,rfl,Nat.le_refl _,ha,hB.mp rfl,fun j h1 h2=>by omega⟩⟩
      | false =>
        have hB':¬ B a[i]:=fun h=>by have:=hB.mpr h;cases this
        obtain ⟨r,hr,hc⟩:=ih (i+1) (by omega)
        refine ⟨r,Ev.step st (Ev.bind (f:=fun k t=>if t=true then (some (i:Int)) else (L k ((i+1:Nat):Int))) hb (Ev.congr (fun k=>if_neg (by simp)) hr)),?_⟩
        rcases hc with ⟨e,hc⟩|⟨n,e,h1,h2,h3,h4⟩
        · refine .inl ⟨e,fun j h1 h2=>?_⟩
          by_cases ej:j=i
          · subst ej;exact hB'
          · exact hc j (by omega) h2
        · refine .inr ⟨n,e,by omega,h2,h3,fun j h5 h6=>?_⟩
          by_cases ej:j=i
          · subst ej;exact hB'
          · exact h4 j (by omega) h6
  obtain ⟨r,hr,hc⟩:=key a.length 0 (by omega)
  refine ⟨r,hr,?_⟩
  rcases hc with ⟨e,hc⟩|⟨n,e,h1,h2,h3,h4⟩
  · refine .inl ⟨e,fun x hx=>?_⟩
    obtain ⟨j,hj,rfl⟩:=List.mem_iff_getElem.mp hx
    exact hc j (by omega) hj
  · exact .inr ⟨n,e,h2,h3,fun j hj=>h4 j (by omega) hj⟩
def NameP (s:ByteArray):Prop:=Ev (fun k=>spec_NameRight.f k s) true
theorem name_spec (s:ByteArray) (h:s.size≤1048576):EvIff (fun k=>spec_NameRight.f k s) (NameP s):=by
  obtain ⟨b,e1,e2⟩:=names_same s (by omega)
  exact EvIff.self (r:=b) ⟨_,e1⟩
theorem name_impl (s:ByteArray) (h:s.size≤1048576):EvIff (fun k=>impl_NameRight.f k s) (NameP s):=by
  obtain ⟨b,e1,e2⟩:=names_same s (by omega)
  exact EvIff.other (r:=b) ⟨_,e1⟩ ⟨_,e2⟩
def InsP (x:S77):Prop:=Ev (fun k=>spec_InsRight.f k x.f0 x.f1 x.f2 x.f3 x.f4) true
def ISz (x:S77):Prop:=x.f2.size≤1048576∧x.f3.size≤1048576∧x.f4.size≤1048576
theorem ins_spec (x:S77) (h:ISz x):EvIff (fun k=>spec_InsRight.f k x.f0 x.f1 x.f2 x.f3 x.f4) (InsP x):=by
  obtain ⟨b,e1,e2⟩:=ins_same x.f0 x.f1 x.f2 x.f3 x.f4 h.1 h.2.1 h.2.2
  exact EvIff.self (r:=b) ⟨_,e1⟩
theorem ins_impl (x:S77) (h:ISz x):EvIff (fun k=>impl_InsRight.f k x.f0 x.f1 x.f2 x.f3 x.f4) (InsP x):=by
  obtain ⟨b,e1,e2⟩:=ins_same x.f0 x.f1 x.f2 x.f3 x.f4 h.1 h.2.1 h.2.2
  exact EvIff.other (r:=b) ⟨_,e1⟩ ⟨_,e2⟩
def JumpP (o:Int):Prop:=∃ F,impl_OpForm.f o=some F∧F.toList=([116]:List UInt8)
theorem form_then {h:Nat→Option ByteArray} {L:Nat→Option Bool} {Q:Prop} (o a m:Int) (hf:∀ F,impl_OpForm.f o=some F→Ev h F) (hL:EvIff L Q):
    EvIff (fun k=>(h k).bind fun F=>(if F.toList=([116]:List UInt8) then (if a ≥ m then (some false) else L k) else L k)) ((JumpP o→a < m)∧Q):=by
  obtain ⟨F,e1,e2⟩:=op_form o
  refine EvIff.through (g:=fun k F=>(if F.toList=([116]:List UInt8) then (if a ≥ m then (some false) else L k) else L k)) (hf F e1) ?_
  by_cases c:F.toList=([116]:List UInt8)
  · have j:JumpP o:=⟨F,e1,c⟩
    refine EvIff.iff (EvIff.iteP c (EvIff.iten hL)) ?_
    simp [j]
  · have j:¬ JumpP o:=fun ⟨F',e,h⟩=>by rw [e1] at e;cases e;exact c h
    refine EvIff.iff (EvIff.iteN c hL) ?_
    simp [j]
def HanP (m:Int) (x:S81):Prop:=x.f0 ≥ 0∧x.f0 < x.f1∧x.f1≤m∧x.f2 ≥ 0∧x.f2 < m∧NameP x.f3
theorem han_spec (m:Int) (x:S81) (h:x.f3.size≤1048576):EvIff (fun k=>spec_l03Handler.f k x.f0 x.f1 x.f2 x.f3 m) (HanP m x):=
  EvIff.congr (fun k=>rfl) (EvIff.ite (EvIff.ite (EvIff.ite (EvIff.ite (EvIff.ite (EvIff.last (name_spec x.f3 h)))))))
theorem EvIff.iteY {c:Prop} [Decidable c] {g:Nat→Option Bool} {P:Prop} (h:EvIff g P):EvIff (fun k=>if c then some true else g k) (c∨P):=by
  by_cases hc:c
  · exact EvIff.iff (EvIff.congr (f:=fun _=>some true) (fun k=>if_pos hc) EvIff.yes) (by simp [hc])
  · exact EvIff.iff (EvIff.congr (fun k=>if_neg hc) h) (by simp [hc])
theorem EvIff.nots {h:Nat→Option Bool} {Q:Prop} (hh:EvIff h Q):EvIff (fun k=>(h k).bind fun t=>some (!t)) (¬ Q):=by
  obtain ⟨r,h1,h2⟩:=hh
  exact ⟨!r,Ev.bind (f:=fun _ t=>some (!t)) h1 (Ev.now _),by rw [← h2];simp⟩
theorem han_impl (m:Int) (hm:0≤m) (hm2:m≤1048576) (x:S81) (h:x.f3.size≤1048576):EvIff (fun k=>impl_codeRight_1.f k x.f0 x.f1 x.f2 x.f3 m) (¬ HanP m x):=by
  have w:wrap64 (m - 1)=m - 1:=by unfold wrap64;omega
  have e:EvIff (fun k=>(impl_within.f x.f2 0 (wrap64 (m - 1))).bind fun t390=>(if t390=true then ((impl_NameRight.f k x.f3).bind fun t391=>(some (!t391))) else (some true))) (¬ (x.f2 ≥ 0∧x.f2 < m∧NameP x.f3)):=by
    rw [w]
    by_cases c:x.f2 ≥ 0
    · have e1:impl_within.f x.f2 0 (m - 1)=some (decide (x.f2≤m - 1)):=by unfold impl_within.f;rw [if_pos c]
      rw [e1]
      by_cases d:x.f2≤m - 1
      · rw [decide_eq_true d]
        refine EvIff.iff (EvIff.congr (f:=fun k=>(impl_NameRight.f k x.f3).bind fun t391=>(some (!t391))) (fun k=>rfl) (EvIff.nots (name_impl x.f3 h))) ?_
        have d':x.f2 < m:=by omega
        simp [c,d']
      · rw [decide_eq_false d]
        refine EvIff.iff (EvIff.congr (f:=fun k=>some true) (fun k=>rfl) EvIff.yes) ?_
        have d':¬ x.f2 < m:=by omega
        simp [d']
    · have e1:impl_within.f x.f2 0 (m - 1)=some false:=by unfold impl_within.f;rw [if_neg c]
      rw [e1]
      refine EvIff.iff (EvIff.congr (f:=fun k=>some true) (fun k=>rfl) EvIff.yes) ?_
      simp [c]
  refine EvIff.iff (EvIff.congr (fun k=>rfl) (EvIff.iteY (EvIff.iteY (EvIff.iteY e)))) ?_
  unfold HanP
  constructor
  · rintro (c|c|c|c) ⟨h0,h1,h2,h3⟩
    · omega
    · omega
    · omega
    · exact c h3
  · intro c
    by_cases c0:x.f0 < 0
    · exact .inl c0
    by_cases c1:x.f0 ≥ x.f1
    · exact .inr (.inl c1)
    by_cases c2:x.f1 > m
    · exact .inr (.inr (.inl c2))
    exact .inr (.inr (.inr fun h3=>c ⟨by omega,by omega,by omega,h3⟩))
theorem has_impl (m:Int) (hm:0≤m) (hm2:m≤1048576) (a:List S81) (ha:a.length≤1048576) (h:∀ x∈a,x.f3.size≤1048576):EvIff (fun k=>impl_Handler_74.f k a m) (¬ ∀ x∈a,HanP m x):=by
  obtain ⟨r,hr,hc⟩:=idx_list (z:=z81) (L:=fun k i=>impl_Handler_85.l0 k a (a.length:Int) i m) (E:=fun k x=>impl_codeRight_1.f k x.f0 x.f1 x.f2 x.f3 m) (B:=fun x=>¬ HanP m x) a (fun k i=>rfl) (fun x hx=>han_impl m hm hm2 x (h x hx)) (by omega)
  refine ⟨decide (r ≥ 0),Ev.bind (f:=fun _ t=>some (decide (t ≥ 0))) (g:=fun k=>impl_Handler_85.f k a m) hr (Ev.now _),?_⟩
  rcases hc with ⟨e,hc⟩|⟨n,e,h2,h3,h4⟩
  · subst e
    constructor
    · intro h;simp at h
    · intro h;exact absurd (fun x hx=>Classical.not_not.mp (hc x hx)) h
  · subst e
    constructor
    · intro _ h;exact h3 (h _ (List.getElem_mem h2))
    · intro _;exact decide_eq_true (by omega)
def CodeP (cs:List S77) (hs:List S81):Prop:=1≤cs.length∧cs.length≤60∧hs.length≤6∧(∀ x∈cs,InsP x∧(JumpP x.f0→x.f1 < (cs.length:Int)))∧∀ x∈hs,HanP cs.length x
theorem code_impl (n d:ByteArray) (s a f:Bool) (t l:Int) (cs:List S77) (hs:List S81) (hc:∀ x∈cs,ISz x) (hh:∀ x∈hs,x.f3.size≤1048576) (lc:cs.length≤1048576) (lh:hs.length≤1048576):
    EvIff (fun k=>impl_codeRight.f k n d s a f t l cs hs) (CodeP cs hs):=by
  have yes:EvIff (fun k=>impl_codeRight.j0 k true n d s a f t l cs hs (cs.length:Int)) False:=EvIff.step (f:=fun _=>some false) (fun k=>by simp only [impl_codeRight.j0,↓reduceIte]) EvIff.no
  have loop:EvIff (fun k=>impl_codeRight.l0 k cs (cs.length:Int) 0 n d s a f t l cs hs (cs.length:Int)) ((∀ x∈cs,InsP x∧(JumpP x.f0→x.f1 < (cs.length:Int)))∧∀ x∈hs,HanP cs.length x):=by
    refine all_then (z:=z77) (C:=fun x=>InsP x∧(JumpP x.f0→x.f1 < (cs.length:Int))) (L:=fun k i=>impl_codeRight.l0 k cs (cs.length:Int) i n d s a f t l cs hs (cs.length:Int))
      (G:=fun k i x=>(impl_InsRight.f k x.f0 x.f1 x.f2 x.f3 x.f4).bind fun t402=>(if t402=true then ((impl_OpForm.f x.f0).bind fun F=>(if F.toList=([116]:List UInt8) then (if x.f1 ≥ (cs.length:Int) then (some false) else (impl_codeRight.l0 k cs (cs.length:Int) (wrap64 (i+1)) n d s a f t l cs hs (cs.length:Int))) else (impl_codeRight.l0 k cs (cs.length:Int) (wrap64 (i+1)) n d s a f t l cs hs (cs.length:Int)))) else (some false)))
      (R:=fun k=>(impl_Handler_74.f k hs (cs.length:Int)).bind fun t399=>(some (!t399))) cs (fun k i=>?_) (fun i x hx Q hQ=>?_) (EvIff.iff (EvIff.nots (has_impl _ (by omega) (by omega) hs lh hh)) (by simp)) (by omega)
    · show (if i < (cs.length:Int) then (if 0≤i then (if i < (cs.length:Int) then _ else none) else none) else _)=_
      by_cases c:i < (cs.length:Int)
      · rw [if_pos c,if_pos c,if_pos c];rfl
      · rw [if_neg c,if_neg c]
    · exact EvIff.iff (EvIff.bind (ins_impl x (hc x hx)) (form_then (h:=fun _=>impl_OpForm.f x.f0) x.f0 x.f1 (cs.length:Int) (fun F e=>by rw [e];exact Ev.now F) hQ)) (by rw [and_assoc])
  refine EvIff.congr (f:=fun k=>(impl_within.f (cs.length:Int) 1 60).bind fun t398=>(if t398=true then (impl_codeRight.j0 k (decide ((hs.length:Int) > 6)) n d s a f t l cs hs (cs.length:Int)) else (impl_codeRight.j0 k true n d s a f t l cs hs (cs.length:Int)))) (fun k=>rfl) ?_
  unfold CodeP
  by_cases c1:(cs.length:Int) ≥ 1
  · by_cases c2:(cs.length:Int)≤60
    · have e1:impl_within.f (cs.length:Int) 1 60=some true:=by unfold impl_within.f;rw [if_pos c1,decide_eq_true c2]
      rw [e1]
      by_cases c3:(hs.length:Int) > 6
      · rw [decide_eq_true c3]
        exact EvIff.iff (EvIff.congr (fun k=>rfl) yes) ⟨fun h=>h.elim,fun h=>by omega⟩
      · rw [decide_eq_false c3]
        refine EvIff.iff (EvIff.congr (f:=fun k=>impl_codeRight.j0 k false n d s a f t l cs hs (cs.length:Int)) (fun k=>rfl) (EvIff.step (f:=fun k=>impl_codeRight.l0 k cs (cs.length:Int) 0 n d s a f t l cs hs (cs.length:Int)) (fun k=>by simp only [impl_codeRight.j0];rw [if_neg (by simp)]) loop)) ?_
        exact ⟨fun h=>⟨by omega,by omega,by omega,h⟩,fun h=>h.2.2.2⟩
    · have e1:impl_within.f (cs.length:Int) 1 60=some false:=by unfold impl_within.f;rw [if_pos c1,decide_eq_false c2]
      rw [e1]
      exact EvIff.iff (EvIff.congr (fun k=>rfl) yes) ⟨fun h=>h.elim,fun h=>by omega⟩
  · have e1:impl_within.f (cs.length:Int) 1 60=some false:=by unfold impl_within.f;rw [if_neg c1]
    rw [e1]
    exact EvIff.iff (EvIff.congr (fun k=>rfl) yes) ⟨fun h=>h.elim,fun h=>by omega⟩
def initP (n:ByteArray):Prop:=n.toList=([60,105,110,105,116,62]:List UInt8)
def HeadP (n d:ByteArray) (t l:Int):Prop:=(NameP n∨initP n)∧(descGot d).2.2.2=0∧0≤t∧t≤16∧0≤l∧l≤16
def needs (d:ByteArray) (s:Bool):Int:=if s=true then ((descGot d).1.length:Int) else ((descGot d).1.length:Int)+1
def BodyP (n d:ByteArray) (s a f:Bool) (t l:Int) (cs:List S77) (hs:List S81):Prop:=
  if a=true then t=0∧l=0∧cs.length=0∧hs.length=0∧s=false∧f=false∧¬ initP n
  else CodeP cs hs∧needs d s≤l∧(initP n→s=false∧f=false∧(descGot d).2.1.toList=[86])
theorem needs64 (d:ByteArray):wrap64 (((descGot d).1.length:Int)+1)=((descGot d).1.length:Int)+1:=by
  have:=descGot_le d
  unfold wrap64;omega
theorem abs_iff (n:ByteArray) (s f:Bool) (t l:Int) (c h:Nat):
    EvIff (fun _=>if t=0 then (if l=0 then (if (c:Int)=0 then (if (h:Int)=0 then (if s=true then (some false) else (if f=true then (some false) else (some (n.toList != ([60,105,110,105,116,62]:List UInt8))))) else (some false)) else (some false)) else (some false)) else (some false))
      (t=0∧l=0∧c=0∧h=0∧s=false∧f=false∧¬ initP n):=by
  refine EvIff.iff (EvIff.ite (EvIff.ite (EvIff.ite (EvIff.ite (EvIff.iten (EvIff.iten (EvIff.val _))))))) ?_
  unfold initP
  simp
theorem end_iff {G:Nat→Option Bool} {r:ByteArray} (n:ByteArray) (s f:Bool) (hG:Ev (fun k=>G k) (r.toList == ([86]:List UInt8))):
    EvIff (fun k=>if n.toList=([60,105,110,105,116,62]:List UInt8) then (if s=true then (some false) else (if f=true then (some false) else G k)) else (some true)) (initP n→s=false∧f=false∧r.toList=[86]):=by
  have hv:EvIff G (r.toList=[86]):=⟨_,hG,by simp⟩
  refine EvIff.iff (EvIff.ite2 (EvIff.iten (EvIff.iten hv)) EvIff.yes) ?_
  unfold initP
  by_cases c:n.toList=([60,105,110,105,116,62]:List UInt8)
  · simp [c]
  · simp [c]
theorem method_impl (n d:ByteArray) (s a f:Bool) (t l:Int) (cs:List S77) (hs:List S81) (hn:n.size≤1048576) (hd:d.size≤1048576) (hc:∀ x∈cs,ISz x) (hh:∀ x∈hs,x.f3.size≤1048576) (lc:cs.length≤1048576) (lh:hs.length≤1048576):
    EvIff (fun k=>impl_MethodRight.f k n d s a f t l cs hs) (HeadP n d t l∧BodyP n d s a f t l cs hs):=by
  have yes:EvIff (fun k=>impl_MethodRight.j0 k true n d s a f t l cs hs) False:=EvIff.step (f:=fun _=>some false) (fun k=>by simp only [impl_MethodRight.j0,↓reduceIte]) EvIff.no
  have body:(descGot d).2.2.2=0→EvIff (fun k=>impl_MethodRight.j0 k false n d s a f t l cs hs) (BodyP n d s a f t l cs hs):=by
    intro h0
    unfold BodyP
    cases a with
    | true =>
      rw [if_pos rfl]
      refine EvIff.step (fun k=>?_) (abs_iff n s f t l cs.length hs.length)
      simp only [impl_MethodRight.j0]
      rw [if_neg (by simp),if_pos trivial]
    | false =>
      rw [if_neg (by simp)]
      have hdo:descOf d=descGot d:=by
        unfold descGot at h0 ⊢
        by_cases c:d.size≤20000
        · rw [if_pos c]
        · rw [if_neg c] at h0;simp at h0
      have sl:Ev (fun k=>impl_Method_slots.f k n d s false f t l cs hs) (needs d s):=by
        refine ⟨60,fun k hk=>?_⟩
        show (impl_DescSlots.f k d).bind _=_
        have e1:impl_DescSlots.f k d=some ((descGot d).1.length:Int):=by
          unfold impl_DescSlots.f
          rw [impl_Desc d k hk]
          simp only [Option.bind_some]
          rw [if_pos h0];rfl
        rw [e1]
        simp only [Option.bind_some]
        unfold needs
        cases s with
        | true=>rw [if_pos rfl,if_pos rfl]
        | false=>rw [if_neg (by simp),if_neg (by simp),needs64]
      have tl:EvIff (fun k=>(impl_Method_slots.f k n d s false f t l cs hs).bind fun t431=>(if l < t431 then (some false) else (if n.toList=([60,105,110,105,116,62]:List UInt8) then (if s=true then (some false) else (if f=true then (some false) else ((impl_descRead.f k d).bind fun bt432=>(some (bt432.2.1.toList == ([86]:List UInt8)))))) else (some true))))
          (needs d s≤l∧(initP n→s=false∧f=false∧(descGot d).2.1.toList=[86])):=by
        refine EvIff.through (g:=fun k t431=>(if l < t431 then (some false) else (if n.toList=([60,105,110,105,116,62]:List UInt8) then (if s=true then (some false) else (if f=true then (some false) else ((impl_descRead.f k d).bind fun bt432=>(some (bt432.2.1.toList == ([86]:List UInt8)))))) else (some true)))) sl ?_
        refine EvIff.iff (EvIff.iten (end_iff (G:=fun k=>(impl_descRead.f k d).bind fun bt432=>(some (bt432.2.1.toList == ([86]:List UInt8)))) (r:=(descGot d).2.1) n s f (Ev.bind (g:=fun k=>impl_descRead.f k d) (f:=fun _ (bt432:DescR)=>(some (bt432.2.1.toList == ([86]:List UInt8)))) ⟨60,fun k hk=>(impl_desc d (by omega) k hk).trans (congrArg some hdo)⟩ (Ev.now _)))) ?_
        rw [Int.not_lt]
      refine EvIff.step (fun k=>?_) (EvIff.bind (code_impl n d s false f t l cs hs hc hh lc lh) tl)
      simp only [impl_MethodRight.j0]
      rw [if_neg (by simp),if_neg (by simp)]
  have mn:EvIff (fun k=>impl_isMethodName.f k n) (NameP n∨initP n):=by
    refine EvIff.iff (EvIff.bind2 (name_impl n hn) EvIff.yes (EvIff.val _)) ?_
    unfold initP
    by_cases c:NameP n <;> simp [c]
  have ds:EvIff (fun k=>impl_isDesc.f k d) ((descGot d).2.2.2=0):=⟨_,⟨60,fun k hk=>is_desc d k hk⟩,by simp⟩
  have st:∀ v,EvIff (fun k=>impl_within.f v 0 16) (0≤v∧v≤16):=by
    intro v
    refine EvIff.iff (EvIff.congr (fun k=>rfl) (EvIff.ite (EvIff.val (decide (v≤16))))) ?_
    simp
  have last:EvIff (fun k=>(impl_within.f l 0 16).bind fun t429=>(impl_MethodRight.j0 k (!t429) n d s a f t l cs hs)) ((descGot d).2.2.2=0→(0≤l∧l≤16)∧BodyP n d s a f t l cs hs)∨¬ (descGot d).2.2.2=0:=by
    by_cases h0:(descGot d).2.2.2=0
    · refine .inl ?_
      obtain ⟨r,r1,r2⟩:=st l
      refine EvIff.through (g:=fun k t429=>(impl_MethodRight.j0 k (!t429) n d s a f t l cs hs)) r1 ?_
      cases r with
      | true=>exact EvIff.iff (body h0) (by have:=r2.mp rfl;simp [h0,this])
      | false => exact EvIff.iff yes (by have : ¬ (0 ≤ l ∧ l ≤ 16) := fun h => by have := r2.mpr h; cases this
                                         constructor
                                         · intro h;exact h.elim
                                         · intro h;exact this (h h0).1)
    · exact .inr h0
  unfold impl_MethodRight.f HeadP
  rcases last with last|h0
  · refine EvIff.iff (EvIff.bind2 mn (EvIff.bind2 ds (EvIff.bind2 (st t) last yes) yes) yes) ?_
    constructor
    · rintro (⟨h1,⟨h2,⟨h3,h4⟩|h3⟩|h2⟩|h1)
      · exact ⟨⟨h1,h2,h3.1,h3.2,(h4 h2).1⟩,(h4 h2).2⟩
      · exact h3.2.elim
      · exact h2.2.elim
      · exact h1.2.elim
    · rintro ⟨⟨h1,h2,h3,h4,h5⟩,h6⟩
      exact .inl ⟨h1,.inl ⟨h2,.inl ⟨⟨h3,h4⟩,fun _=>⟨h5,h6⟩⟩⟩⟩
  · obtain ⟨r,r1,r2⟩:=ds
    have e:r=false:=by
      cases r with
      | true=>exact absurd (r2.mp rfl) h0
      | false=>rfl
    subst e
    refine EvIff.iff (EvIff.bind2 mn (EvIff.through (h:=fun k=>impl_isDesc.f k d) (g:=fun k t427=>if t427=true then ((impl_within.f t 0 16).bind fun t428=>(if t428=true then ((impl_within.f l 0 16).bind fun t429=>(impl_MethodRight.j0 k (!t429) n d s a f t l cs hs)) else (impl_MethodRight.j0 k true n d s a f t l cs hs))) else (impl_MethodRight.j0 k true n d s a f t l cs hs)) r1 (EvIff.congr (fun k=>if_neg (by simp)) yes)) yes) ?_
    constructor
    · rintro (h|h)
      · exact h.2.elim
      · exact h.2.elim
    · rintro ⟨⟨_,h,_⟩,_⟩;exact absurd h h0
theorem method_spec (n d:ByteArray) (s a f:Bool) (t l:Int) (cs:List S77) (hs:List S81) (hn:n.size≤1048576) (hd:d.size≤1048576) (hc:∀ x∈cs,ISz x) (hh:∀ x∈hs,x.f3.size≤1048576) (lc:cs.length≤1048576) (lh:hs.length≤1048576):
    EvIff (fun k=>spec_MethodRight.f k n d s a f t l cs hs) (HeadP n d t l∧BodyP n d s a f t l cs hs):=by
  obtain ⟨ps,r,q,c,hg⟩:∃ ps r q c,descGot d=(ps,r,q,c):=⟨_,_,_,_,rfl⟩
  have hps:=descGot_le d
  have n64:=needs64 d
  unfold HeadP BodyP needs
  rw [hg] at hps n64 ⊢
  simp only at hps n64 ⊢
  have yes:EvIff (fun k=>spec_MethodRight.j0 k true n d s a f t l cs hs ps r q c) False:=EvIff.step (f:=fun _=>some false) (fun k=>by simp only [spec_MethodRight.j0,↓reduceIte]) EvIff.no
  have yes2:EvIff (fun k=>spec_MethodRight.j2 k (cs.length:Int) true n d s a f t l cs hs ps r q c) False:=EvIff.step (f:=fun _=>some false) (fun k=>by simp only [spec_MethodRight.j2,↓reduceIte]) EvIff.no
  have loop:EvIff (fun k=>spec_MethodRight.l0 k (cs.length:Int) 0 n d s a f t l cs hs ps r q c) ((∀ x∈cs,InsP x∧(JumpP x.f0→x.f1 < (cs.length:Int)))∧(∀ x∈hs,HanP cs.length x)∧(initP n→s=false∧f=false∧r.toList=[86])):=by
    refine all_then (z:=z77) (C:=fun x=>InsP x∧(JumpP x.f0→x.f1 < (cs.length:Int))) (L:=fun k i=>spec_MethodRight.l0 k (cs.length:Int) i n d s a f t l cs hs ps r q c)
      (G:=fun k i x=>(spec_InsRight.f k x.f0 x.f1 x.f2 x.f3 x.f4).bind fun t402=>(if t402=true then ((spec_OpForm.f k x.f0).bind fun F=>(if F.toList=([116]:List UInt8) then (if x.f1 ≥ (cs.length:Int) then (some false) else (spec_MethodRight.l0 k (cs.length:Int) (wrap64 (i+1)) n d s a f t l cs hs ps r q c)) else (spec_MethodRight.l0 k (cs.length:Int) (wrap64 (i+1)) n d s a f t l cs hs ps r q c))) else (some false)))
      (R:=fun k=>spec_MethodRight.l1 k (cs.length:Int) 0 n d s a f t l cs hs ps r q c) cs (fun k i=>rfl) (fun i x hx Q hQ=>?_) ?_ (by omega)
    · exact EvIff.iff (EvIff.bind (ins_spec x (hc x hx)) (form_then (h:=fun k=>spec_OpForm.f k x.f0) x.f0 x.f1 (cs.length:Int) (fun F e=>by
        obtain ⟨F',e1,e2⟩:=op_form x.f0
        rw [e] at e1;cases e1
        exact ⟨16,e2⟩) hQ)) (by rw [and_assoc])
    · refine all_then (z:=z81) (C:=fun x=>HanP cs.length x) (L:=fun k i=>spec_MethodRight.l1 k (cs.length:Int) i n d s a f t l cs hs ps r q c)
        (G:=fun k i x=>(spec_l03Handler.f k x.f0 x.f1 x.f2 x.f3 (cs.length:Int)).bind fun t232=>(if t232=true then (spec_MethodRight.l1 k (cs.length:Int) (wrap64 (i+1)) n d s a f t l cs hs ps r q c) else (some false)))
        (R:=fun k=>if n.toList=([60,105,110,105,116,62]:List UInt8) then (if s=true then (some false) else (if f=true then (some false) else (some (r.toList == ([86]:List UInt8))))) else (some true)) hs (fun k i=>rfl) (fun i x hx Q hQ=>EvIff.bind (han_spec _ x (hh x hx)) hQ) (end_iff (r:=r) n s f (Ev.now _)) (by omega)
  have step1:∀ v:Int,EvIff (fun k=>spec_MethodRight.j1 k (cs.length:Int) v n d s a f t l cs hs ps r q c) (CodeP cs hs∧v≤l∧(initP n→s=false∧f=false∧r.toList=[86])):=by
    intro v
    have h6:EvIff (fun k=>spec_MethodRight.j2 k (cs.length:Int) (decide ((hs.length:Int) > 6)) n d s a f t l cs hs ps r q c) (¬ (hs.length:Int) > 6∧((∀ x∈cs,InsP x∧(JumpP x.f0→x.f1 < (cs.length:Int)))∧(∀ x∈hs,HanP cs.length x)∧(initP n→s=false∧f=false∧r.toList=[86]))):=by
      by_cases c6:(hs.length:Int) > 6
      · rw [decide_eq_true c6];exact EvIff.iff yes2 (by simp [c6])
      · rw [decide_eq_false c6]
        exact EvIff.iff (EvIff.step (f:=fun k=>spec_MethodRight.l0 k (cs.length:Int) 0 n d s a f t l cs hs ps r q c) (fun k=>by simp only [spec_MethodRight.j2];rw [if_neg (by simp)]) loop) (by simp [c6])
    refine EvIff.iff (EvIff.step (fun k=>rfl) (EvIff.ite2 yes2 (EvIff.ite2 yes2 (EvIff.ite2 yes2 h6)))) ?_
    unfold CodeP
    constructor
    · rintro (h|⟨h1,h|⟨h2,h|⟨h3,h4,h5,h7,h8⟩⟩⟩)
      · exact h.2.elim
      · exact h.2.elim
      · exact h.2.elim
      · exact ⟨⟨by omega,by omega,by omega,h5,h7⟩,by omega,h8⟩
    · rintro ⟨⟨h1,h2,h3,h5,h7⟩,h4,h8⟩
      exact .inr ⟨by omega,.inr ⟨by omega,.inr ⟨by omega,by omega,h5,h7,h8⟩⟩⟩
  have body:EvIff (fun k=>spec_MethodRight.j0 k false n d s a f t l cs hs ps r q c) (if a=true then t=0∧l=0∧cs.length=0∧hs.length=0∧s=false∧f=false∧¬ initP n
      else CodeP cs hs∧(if s=true then (ps.length:Int) else (ps.length:Int)+1)≤l∧(initP n→s=false∧f=false∧r.toList=[86])):=by
    cases a with
    | true =>
      rw [if_pos rfl]
      refine EvIff.step (fun k=>?_) (abs_iff n s f t l cs.length hs.length)
      simp only [spec_MethodRight.j0]
      rw [if_neg (by simp),if_pos trivial]
    | false =>
      rw [if_neg (by simp)]
      cases s with
      | true =>
        rw [if_pos rfl]
        refine EvIff.step (fun k=>?_) (step1 (ps.length:Int))
        simp only [spec_MethodRight.j0]
        rw [if_neg (by simp),if_neg (by simp),if_pos trivial]
      | false =>
        rw [if_neg (by simp)]
        refine EvIff.step (fun k=>?_) (step1 ((ps.length:Int)+1))
        simp only [spec_MethodRight.j0]
        rw [if_neg (by simp),if_neg (by simp),if_neg (by simp),n64]
  have inner:EvIff (fun k=>if c=0 then (if t < 0 then (spec_MethodRight.j0 k true n d s a f t l cs hs ps r q c) else (if t > 16 then (spec_MethodRight.j0 k true n d s a f t l cs hs ps r q c) else (if l < 0 then (spec_MethodRight.j0 k true n d s a f t l cs hs ps r q c) else (spec_MethodRight.j0 k (decide (l > 16)) n d s a f t l cs hs ps r q c)))) else (spec_MethodRight.j0 k true n d s a f t l cs hs ps r q c))
      ((c=0∧0≤t∧t≤16∧0≤l∧l≤16)∧(if a=true then t=0∧l=0∧cs.length=0∧hs.length=0∧s=false∧f=false∧¬ initP n
      else CodeP cs hs∧(if s=true then (ps.length:Int) else (ps.length:Int)+1)≤l∧(initP n→s=false∧f=false∧r.toList=[86]))):=by
    generalize hB:(if a=true then t=0∧l=0∧cs.length=0∧hs.length=0∧s=false∧f=false∧¬ initP n
      else CodeP cs hs∧(if s=true then (ps.length:Int) else (ps.length:Int)+1)≤l∧(initP n→s=false∧f=false∧r.toList=[86]))=B at body ⊢
    have h16:EvIff (fun k=>spec_MethodRight.j0 k (decide (l > 16)) n d s a f t l cs hs ps r q c) (¬ l > 16∧B):=by
      by_cases c6:l > 16
      · rw [decide_eq_true c6];exact EvIff.iff yes (by simp [c6])
      · rw [decide_eq_false c6];exact EvIff.iff body (by simp [c6])
    refine EvIff.iff (EvIff.ite2 (EvIff.ite2 yes (EvIff.ite2 yes (EvIff.ite2 yes h16))) yes) ?_
    constructor
    · rintro (⟨h0,h|⟨h1,h|⟨h2,h|⟨h3,h4,h5⟩⟩⟩⟩|h)
      · exact h.2.elim
      · exact h.2.elim
      · exact h.2.elim
      · exact ⟨⟨h0,by omega,by omega,by omega,by omega⟩,h5⟩
      · exact h.2.elim
    · rintro ⟨⟨h0,h1,h2,h3,h4⟩,h5⟩
      exact .inl ⟨h0,.inr ⟨by omega,.inr ⟨by omega,.inr ⟨by omega,by omega,h5⟩⟩⟩⟩
  have hd2:Ev (fun k=>spec_DescRead.f k d) (ps,r,q,c):=⟨60,fun k hk=>(spec_Desc d k hk).trans (congrArg some hg)⟩
  refine EvIff.iff (EvIff.through (h:=fun k=>spec_DescRead.f k d) hd2 (EvIff.congr (fun k=>rfl) (EvIff.bind2 (name_spec n hn) inner (EvIff.ite2 (c:=n.toList=([60,105,110,105,116,62]:List UInt8)) inner yes)))) ?_
  unfold initP
  by_cases c1:NameP n
  · simp [c1,and_assoc]
  · by_cases c2:n.toList=([60,105,110,105,116,62]:List UInt8)
    · simp [c1,c2,and_assoc]
    · simp [c1,c2]
theorem run_then {L:Nat→Int→Option Bool} {C:Nat→Prop} {P:Prop} (n:Nat)
    (hL:∀ j,j < n→∀ Q:Prop,EvIff (fun k=>L k ((j+1:Nat):Int)) Q→EvIff (fun k=>L k (j:Int)) (C j∧Q)) (hE:EvIff (fun k=>L k (n:Int)) P):EvIff (fun k=>L k 0) ((∀ j,j < n→C j)∧P):=by
  have key:∀ (d i:Nat),i+d=n→EvIff (fun k=>L k (i:Int)) ((∀ j,i≤j→j < n→C j)∧P):=by
    intro d
    induction d with
    | zero =>
      intro i hd
      have e:i=n:=by omega
      subst e
      exact EvIff.iff hE ⟨fun h=>⟨fun j h1 h2=>by omega,h⟩,fun h=>h.2⟩
    | succ d ih =>
      intro i hd
      refine EvIff.iff (hL i (by omega) _ (ih (i+1) (by omega))) ?_
      constructor
      · rintro ⟨h1,h2,h3⟩
        refine ⟨fun j h4 h5=>?_,h3⟩
        by_cases e:j=i
        · subst e;exact h1
        · exact h2 j (by omega) h5
      · rintro ⟨h1,h2⟩
        exact ⟨h1 i (Nat.le_refl _) (by omega),fun j h4 h5=>h1 j (by omega) h5,h2⟩
  exact EvIff.iff (key n 0 (by omega)) ⟨fun h=>⟨fun j hj=>h.1 j (Nat.zero_le _) hj,h.2⟩,fun h=>⟨fun j _ hj=>h.1 j hj,h.2⟩⟩
theorem getD_in {α:Type} {a:List α} {z:α} {i:Nat} (h:i < a.length):a.getD i z∈a:=by
  have e:a.getD i z=a[i]:=by simp [List.getD_eq_getElem?_getD,List.getElem?_eq_getElem h]
  rw [e];exact List.getElem_mem h
theorem first_iff {α:Type} {z:α} {B:α→Prop} {a:List α} {r:Int} (hr:(r=-1∧∀ x∈a,¬ B x)∨∃ n:Nat,r=n∧∃ h:n < a.length,B a[n]∧∀ j,(hj:j < n)→¬ B (a[j]'(by omega))) (i:Nat) (hi:i < a.length) (hB:B (a.getD i z)):
    r=(i:Int)↔∀ j,j < i→¬ B (a.getD j z):=by
  have e:∀ j,(h:j < a.length)→a.getD j z=a[j]:=fun j h=>by simp [List.getD_eq_getElem?_getD,List.getElem?_eq_getElem h]
  rcases hr with ⟨_,h⟩|⟨n,e1,h2,h3,h4⟩
  · exact absurd hB (h _ (getD_in hi))
  · subst e1
    constructor
    · intro h j hj
      have:n=i:=by omega
      subst this
      rw [e j (by omega)];exact h4 j hj
    · intro h
      by_cases c1:n < i
      · exact absurd h3 (by rw [← e n h2];exact h n c1)
      · by_cases c2:i < n
        · rw [e i hi] at hB;exact absurd hB (h4 i c2)
        · omega
theorem place_then {G:Nat→Option Int} {L:Nat→Option Bool} {r i:Int} {Q:Prop} (hG:Ev G r) (hQ:EvIff L Q):EvIff (fun k=>(G k).bind fun t=>if t=i then L k else some false) (r=i∧Q):=
  EvIff.through (g:=fun k t=>if t=i then L k else some false) hG (EvIff.ite hQ)
def FieldP (fs:List S45) (i:Nat):Prop:=NameP (fs.getD i z45).f0∧tright (fs.getD i z45).f1=true∧∀ j,j < i→¬ (fs.getD j z45).f0.toList=(fs.getD i z45).f0.toList
def MethB (x:S34):Prop:=HeadP x.f0 x.f1 x.f5 x.f6∧BodyP x.f0 x.f1 x.f2 x.f3 x.f4 x.f5 x.f6 x.f7 x.f8
def MethP (b:Bool) (ms:List S34) (i:Nat):Prop:=MethB (ms.getD i z34)∧((ms.getD i z34).f3=true→b=true)∧∀ j,j < i→¬ ((ms.getD j z34).f0.toList=(ms.getD i z34).f0.toList∧(ms.getD j z34).f1.toList=(ms.getD i z34).f1.toList)
def FSz (x:S45):Prop:=x.f0.size≤1048576∧x.f1.size≤1048576
def MAll (x:S34):Prop:=x.f0.size≤1048576∧x.f1.size≤1048576∧(∀ i∈x.f7,ISz i)∧(∀ h∈x.f8,h.f3.size≤1048576)∧x.f7.length≤1048576∧x.f8.length≤1048576
theorem type_spec (d:ByteArray):EvIff (fun k=>spec_TypeRight.f k d) (tright d=true):=⟨_,⟨40,fun k hk=>spec_right_all d k (by omega)⟩,Iff.rfl⟩
theorem type_impl (d:ByteArray) (h:d.size≤1048576):EvIff (fun k=>impl_typeRight.f k d) (tright d=true):=⟨_,⟨40,fun k hk=>impl_right d (by omega) k (by omega)⟩,Iff.rfl⟩
theorem meth_spec (x:S34) (h:MAll x):EvIff (fun k=>spec_MethodRight.f k x.f0 x.f1 x.f2 x.f3 x.f4 x.f5 x.f6 x.f7 x.f8) (MethB x):=
  method_spec _ _ _ _ _ _ _ _ _ h.1 h.2.1 h.2.2.1 h.2.2.2.1 h.2.2.2.2.1 h.2.2.2.2.2
theorem meth_impl (x:S34) (h:MAll x):EvIff (fun k=>impl_MethodRight.f k x.f0 x.f1 x.f2 x.f3 x.f4 x.f5 x.f6 x.f7 x.f8) (MethB x):=
  method_impl _ _ _ _ _ _ _ _ _ h.1 h.2.1 h.2.2.1 h.2.2.2.1 h.2.2.2.2.1 h.2.2.2.2.2
theorem if_and {α:Type} {A B:Prop} [Decidable A] [Decidable B] (x y:α):(if A then (if B then x else y) else y)=if A∧B then x else y:=by
  by_cases a:A
  · by_cases b:B
    · rw [if_pos a,if_pos b,if_pos ⟨a,b⟩]
    · rw [if_pos a,if_neg b,if_neg (fun h=>b h.2)]
  · rw [if_neg a,if_neg (fun h=>a h.1)]
def LoopP (b:Bool) (fs:List S45) (ms:List S34):Prop:=(∀ i,i < fs.length→FieldP fs i)∧(∀ i,i < ms.length→MethP b ms i)
theorem class_loops_spec (n s:ByteArray) (f b:Bool) (fs:List S45) (ms:List S34) (l4:fs.length≤1048576) (l5:ms.length≤1048576) (hm:∀ x∈ms,MAll x) (hf:∀ x∈fs,FSz x):
    EvIff (fun k=>spec_ClassRight.l0 k 0 n s f b fs ms) (LoopP b fs ms):=by
  have i64:∀ i:Nat,i < 1048576→wrap64 ((i:Int)+1)=((i+1:Nat):Int):=fun i h=>up64 h (by omega)
  refine run_then (L:=fun k i=>spec_ClassRight.l0 k i n s f b fs ms) fs.length (fun i hi Q hQ=>?_) (EvIff.step (f:=fun k=>spec_ClassRight.l2 k 0 n s f b fs ms) (fun k=>by simp only [spec_ClassRight.l0];rw [if_neg (by omega)]) ?_)
  · have yes:EvIff (fun k=>spec_ClassRight.j2 k (i:Int) true n s f b fs ms) False:=EvIff.step (f:=fun _=>some false) (fun k=>by simp only [spec_ClassRight.j2,↓reduceIte]) EvIff.no
    have inner:EvIff (fun k=>spec_ClassRight.l1 k (i:Int) 0 n s f b fs ms) ((∀ j,j < i→¬ (fs.getD j z45).f0.toList=(fs.getD i z45).f0.toList)∧Q):=by
      refine run_then (L:=fun k j=>spec_ClassRight.l1 k (i:Int) j n s f b fs ms) i (fun j hj Q' hQ'=>?_) (EvIff.step (f:=fun k=>spec_ClassRight.l0 k ((i+1:Nat):Int) n s f b fs ms) (fun k=>by simp only [spec_ClassRight.l1];rw [if_neg (by omega),i64 i (by omega)]) hQ)
      refine EvIff.step (f:=fun k=>if (fs.getD j z45).f0.toList=(fs.getD i z45).f0.toList then (some false) else (spec_ClassRight.l1 k (i:Int) ((j+1:Nat):Int) n s f b fs ms)) (fun k=>?_) (EvIff.iten hQ')
      simp only [spec_ClassRight.l1]
      rw [if_pos (by omega),if_pos (by omega),if_pos (by omega),if_pos (by omega),if_pos (by omega),i64 j (by omega)];rfl
    have nx:EvIff (fun k=>spec_ClassRight.j2 k (i:Int) false n s f b fs ms) ((∀ j,j < i→¬ (fs.getD j z45).f0.toList=(fs.getD i z45).f0.toList)∧Q):=EvIff.step (f:=fun k=>spec_ClassRight.l1 k (i:Int) 0 n s f b fs ms) (fun k=>by simp only [spec_ClassRight.j2];rw [if_neg (by simp)]) inner
    have ty:EvIff (fun k=>(spec_TypeRight.f k (fs.getD i z45).f1).bind fun t345=>(spec_ClassRight.j2 k (i:Int) (!t345) n s f b fs ms)) (tright (fs.getD i z45).f1=true∧((∀ j,j < i→¬ (fs.getD j z45).f0.toList=(fs.getD i z45).f0.toList)∧Q)):=by
      obtain ⟨r,r1,r2⟩:=type_spec (fs.getD i z45).f1
      refine EvIff.through (g:=fun k t345=>(spec_ClassRight.j2 k (i:Int) (!t345) n s f b fs ms)) r1 ?_
      rw [← r2]
      cases r with
      | true=>exact EvIff.iff nx (by simp)
      | false=>exact EvIff.iff yes (by simp)
    refine EvIff.iff (EvIff.step (fun k=>?_) (EvIff.bind2 (name_spec (fs.getD i z45).f0 (hf _ (getD_in hi)).1) ty yes)) ?_
    · simp only [spec_ClassRight.l0]
      rw [if_pos (by omega),if_pos (by omega)];rfl
    · unfold FieldP
      constructor
      · rintro (⟨h1,h2,h3,h4⟩|h)
        · exact ⟨⟨h1,h2,h3⟩,h4⟩
        · exact h.2.elim
      · rintro ⟨⟨h1,h2,h3⟩,h4⟩
        exact .inl ⟨h1,h2,h3,h4⟩
  · refine EvIff.iff (run_then (L:=fun k i=>spec_ClassRight.l2 k i n s f b fs ms) (P:=True) (C:=MethP b ms) ms.length (fun i hi Q hQ=>?_) (EvIff.step (f:=fun _=>some true) (fun k=>by simp only [spec_ClassRight.l2];rw [if_neg (by omega)]) EvIff.yes)) (by simp)
    obtain ⟨x,hx⟩:∃ x,x=ms.getD i z34:=⟨_,rfl⟩
    have yes:EvIff (fun k=>spec_ClassRight.j5 k (i:Int) true n s f b fs ms x.f0 x.f1 x.f2 x.f3 x.f4 x.f5 x.f6 x.f7 x.f8) False:=EvIff.step (f:=fun _=>some false) (fun k=>by simp only [spec_ClassRight.j5,↓reduceIte]) EvIff.no
    have inner:EvIff (fun k=>spec_ClassRight.l3 k (i:Int) 0 n s f b fs ms x.f0 x.f1 x.f2 x.f3 x.f4 x.f5 x.f6 x.f7 x.f8) ((∀ j,j < i→¬ ((ms.getD j z34).f0.toList=x.f0.toList∧(ms.getD j z34).f1.toList=x.f1.toList))∧Q):=by
      refine run_then (L:=fun k j=>spec_ClassRight.l3 k (i:Int) j n s f b fs ms x.f0 x.f1 x.f2 x.f3 x.f4 x.f5 x.f6 x.f7 x.f8) i (fun j hj Q' hQ'=>?_) (EvIff.step (f:=fun k=>spec_ClassRight.l2 k ((i+1:Nat):Int) n s f b fs ms) (fun k=>by simp only [spec_ClassRight.l3];rw [if_neg (by omega),i64 i (by omega)]) hQ)
      refine EvIff.step (f:=fun k=>if (ms.getD j z34).f0.toList=x.f0.toList∧(ms.getD j z34).f1.toList=x.f1.toList then (some false) else (spec_ClassRight.l3 k (i:Int) ((j+1:Nat):Int) n s f b fs ms x.f0 x.f1 x.f2 x.f3 x.f4 x.f5 x.f6 x.f7 x.f8)) (fun k=>?_) (EvIff.iten hQ')
      simp only [spec_ClassRight.l3]
      rw [if_pos (by omega),if_pos (by omega),if_pos (by omega),i64 j (by omega),← if_and];rfl
    have nx:EvIff (fun k=>spec_ClassRight.j5 k (i:Int) false n s f b fs ms x.f0 x.f1 x.f2 x.f3 x.f4 x.f5 x.f6 x.f7 x.f8) ((∀ j,j < i→¬ ((ms.getD j z34).f0.toList=x.f0.toList∧(ms.getD j z34).f1.toList=x.f1.toList))∧Q):=EvIff.step (f:=fun k=>spec_ClassRight.l3 k (i:Int) 0 n s f b fs ms x.f0 x.f1 x.f2 x.f3 x.f4 x.f5 x.f6 x.f7 x.f8) (fun k=>by simp only [spec_ClassRight.j5];rw [if_neg (by simp)]) inner
    have ab:EvIff (fun k=>spec_ClassRight.j5 k (i:Int) (!b) n s f b fs ms x.f0 x.f1 x.f2 x.f3 x.f4 x.f5 x.f6 x.f7 x.f8) (b=true∧((∀ j,j < i→¬ ((ms.getD j z34).f0.toList=x.f0.toList∧(ms.getD j z34).f1.toList=x.f1.toList))∧Q)):=by
      cases b with
      | true=>exact EvIff.iff nx (by simp)
      | false=>exact EvIff.iff yes (by simp)
    refine EvIff.iff (EvIff.step (fun k=>?_) (EvIff.bind2 (meth_spec x (by rw [hx];exact hm _ (getD_in hi))) (EvIff.ite2 (c:=x.f3=true) ab nx) yes)) ?_
    · simp only [spec_ClassRight.l2]
      rw [if_pos (by omega),if_pos (by omega),hx];rfl
    · unfold MethP
      rw [← hx]
      constructor
      · rintro (⟨h1,⟨h2,h3,h4⟩|⟨h2,h4⟩⟩|h)
        · exact ⟨⟨h1,fun _=>h3,h4.1⟩,h4.2⟩
        · exact ⟨⟨h1,fun h=>absurd h h2,h4.1⟩,h4.2⟩
        · exact h.2.elim
      · rintro ⟨⟨h1,h2,h3⟩,h4⟩
        by_cases c:x.f3=true
        · exact .inl ⟨h1,.inl ⟨c,h2 c,h3,h4⟩⟩
        · exact .inl ⟨h1,.inr ⟨c,h3,h4⟩⟩
theorem field_at (fs:List S45) (l4:fs.length≤1048576) (t:ByteArray):∃ r:Int,Ev (fun k=>impl_Field_45.f k fs t) r∧((r=-1∧∀ x∈fs,¬ x.f0.toList=t.toList)∨∃ n:Nat,r=n∧∃ h:n < fs.length,fs[n].f0.toList=t.toList∧∀ j,(hj:j < n)→¬ (fs[j]'(by omega)).f0.toList=t.toList):=
  idx_list (z:=z45) (L:=fun k i=>impl_Field_45.l0 k fs (fs.length:Int) i t) (E:=fun k x=>impl_Class_fieldAt_1.f x.f0 x.f1 x.f2 t) (B:=fun x=>x.f0.toList=t.toList) fs (fun k i=>rfl) (fun x hx=>EvIff.iff (EvIff.congr (fun k=>rfl) (EvIff.val (x.f0.toList == t.toList))) (by simp)) (by omega)
theorem method_at (ms:List S34) (l5:ms.length≤1048576) (t d:ByteArray):∃ r:Int,Ev (fun k=>impl_Method_52.f k ms t d) r∧((r=-1∧∀ x∈ms,¬ (x.f0.toList=t.toList∧x.f1.toList=d.toList))∨∃ n:Nat,r=n∧∃ h:n < ms.length,(ms[n].f0.toList=t.toList∧ms[n].f1.toList=d.toList)∧∀ j,(hj:j < n)→¬ ((ms[j]'(by omega)).f0.toList=t.toList∧(ms[j]'(by omega)).f1.toList=d.toList)):=
  idx_list (z:=z34) (L:=fun k i=>impl_Method_52.l0 k ms (ms.length:Int) i t d) (E:=fun k x=>impl_Class_methodAt_1.f x.f0 x.f1 x.f2 x.f3 x.f4 x.f5 x.f6 x.f7 x.f8 t d) (B:=fun x=>x.f0.toList=t.toList∧x.f1.toList=d.toList) ms (fun k i=>rfl) (fun x hx=>EvIff.iff (EvIff.congr (fun k=>rfl) (EvIff.ite (EvIff.val (x.f1.toList == d.toList)))) (by simp)) (by omega)
theorem class_loops_impl (n s:ByteArray) (f b:Bool) (fs:List S45) (ms:List S34) (l4:fs.length≤1048576) (l5:ms.length≤1048576) (hm:∀ x∈ms,MAll x) (hf:∀ x∈fs,FSz x):
    EvIff (fun k=>impl_ClassRight.l0 k fs (fs.length:Int) 0 n s f b fs ms) (LoopP b fs ms):=by
  have i64:∀ i:Nat,i < 1048576→wrap64 ((i:Int)+1)=((i+1:Nat):Int):=fun i h=>up64 h (by omega)
  refine run_then (L:=fun k i=>impl_ClassRight.l0 k fs (fs.length:Int) i n s f b fs ms) fs.length (fun i hi Q hQ=>?_) (EvIff.step (f:=fun k=>impl_ClassRight.l1 k ms (ms.length:Int) 0 n s f b fs ms) (fun k=>by simp only [impl_ClassRight.l0];rw [if_neg (by omega)]) ?_)
  · obtain ⟨r,r1,r2⟩:=field_at fs l4 (fs.getD i z45).f0
    have r3:=first_iff (z:=z45) (B:=fun x=>x.f0.toList=(fs.getD i z45).f0.toList) r2 i hi rfl
    have r4:Ev (fun k=>impl_Class_fieldAt.f k n s f b fs ms (fs.getD i z45).f0) r:=Ev.bind (f:=fun _ t=>some t) r1 (Ev.now _)
    refine EvIff.iff (EvIff.step (fun k=>?_) (EvIff.bind (name_impl (fs.getD i z45).f0 (hf _ (getD_in hi)).1) (EvIff.bind (type_impl (fs.getD i z45).f1 (hf _ (getD_in hi)).2) (place_then (i:=(i:Int)) r4 hQ)))) ?_
    · simp only [impl_ClassRight.l0]
      rw [if_pos (by omega),if_pos (by omega),if_pos (by omega),i64 i (by omega)];rfl
    · unfold FieldP
      rw [r3,and_assoc,and_assoc]
  · refine EvIff.iff (run_then (L:=fun k i=>impl_ClassRight.l1 k ms (ms.length:Int) i n s f b fs ms) (P:=True) (C:=MethP b ms) ms.length (fun i hi Q hQ=>?_) (EvIff.step (f:=fun _=>some true) (fun k=>by simp only [impl_ClassRight.l1];rw [if_neg (by omega)]) EvIff.yes)) (by simp)
    obtain ⟨x,hx⟩:∃ x,x=ms.getD i z34:=⟨_,rfl⟩
    obtain ⟨r,r1,r2⟩:=method_at ms l5 x.f0 x.f1
    have r3:=first_iff (z:=z34) (B:=fun y=>y.f0.toList=x.f0.toList∧y.f1.toList=x.f1.toList) r2 i hi (by rw [← hx];exact ⟨rfl,rfl⟩)
    have r4:Ev (fun k=>impl_Class_methodAt.f k n s f b fs ms x.f0 x.f1) r:=Ev.bind (f:=fun _ t=>some t) r1 (Ev.now _)
    have p:=place_then (i:=(i:Int)) r4 hQ
    refine EvIff.iff (EvIff.step (fun k=>?_) (EvIff.bind (meth_impl x (by rw [hx];exact hm _ (getD_in hi))) (EvIff.ite2 (c:=x.f3=true) (EvIff.ite (c:=b=true) p) p))) ?_
    · simp only [impl_ClassRight.l1]
      rw [if_pos (by omega),if_pos (by omega),if_pos (by omega),i64 i (by omega),hx];rfl
    · unfold MethP
      rw [← hx,r3]
      constructor
      · rintro ⟨h1,⟨h2,h3,h4⟩|⟨h2,h4⟩⟩
        · exact ⟨⟨h1,fun _=>h3,h4.1⟩,h4.2⟩
        · exact ⟨⟨h1,fun h=>absurd h h2,h4.1⟩,h4.2⟩
      · rintro ⟨⟨h1,h2,h3⟩,h4⟩
        by_cases c:x.f3=true
        · exact ⟨h1,.inl ⟨c,h2 c,h3,h4⟩⟩
        · exact ⟨h1,.inr ⟨c,h3,h4⟩⟩
theorem class_head {N:Nat→ByteArray→Option Bool} {J:Nat→Bool→Option Bool} {P:Prop} (n s:ByteArray) (f b:Bool) (lf lm:Nat) (hn:EvIff (fun k=>N k n) (NameP n)) (hs:EvIff (fun k=>N k s) (NameP s)) (yes:EvIff (fun k=>J k true) False) (hj:EvIff (fun k=>J k false) P):
    EvIff (fun k=>(N k n).bind fun t340=>(if t340=true then ((N k s).bind fun t341=>(if t341=true then (if n.toList=s.toList then (J k true) else (if f=true then (if b=true then (J k true) else (if (lf:Int) > 8 then (J k true) else (J k (decide ((lm:Int) > 10))))) else (if (lf:Int) > 8 then (J k true) else (J k (decide ((lm:Int) > 10)))))) else (J k true))) else (J k true)))
      (NameP n∧NameP s∧¬ n.toList=s.toList∧¬ (f=true∧b=true)∧lf≤8∧lm≤10∧P):=by
  have h10:EvIff (fun k=>J k (decide ((lm:Int) > 10))) (¬ (lm:Int) > 10∧P):=by
    by_cases c:(lm:Int) > 10
    · rw [decide_eq_true c];exact EvIff.iff yes (by simp [c])
    · rw [decide_eq_false c];exact EvIff.iff hj (by simp [c])
  have h8:=EvIff.ite2 (c:=(lf:Int) > 8) yes h10
  refine EvIff.iff (EvIff.bind2 hn (EvIff.bind2 hs (EvIff.ite2 (c:=n.toList=s.toList) yes (EvIff.ite2 (c:=f=true) (EvIff.ite2 (c:=b=true) yes h8) h8)) yes) yes) ?_
  constructor
  · rintro (⟨h1,⟨h2,h|⟨h3,⟨h4,h|⟨h5,h|⟨h6,h7,h9⟩⟩⟩|⟨h4,h|⟨h6,h7,h9⟩⟩⟩⟩|h⟩|h)
    · exact h.2.elim
    · exact h.2.elim
    · exact h.2.elim
    · exact ⟨h1,h2,h3,fun h=>h5 h.2,by omega,by omega,h9⟩
    · exact h.2.elim
    · exact ⟨h1,h2,h3,fun h=>h4 h.1,by omega,by omega,h9⟩
    · exact h.2.elim
    · exact h.2.elim
  · rintro ⟨h1,h2,h3,h4,h5,h6,h7⟩
    refine .inl ⟨h1,.inl ⟨h2,.inr ⟨h3,?_⟩⟩⟩
    by_cases c:f=true
    · exact .inl ⟨c,.inr ⟨fun h=>h4 ⟨c,h⟩,.inr ⟨by omega,by omega,h7⟩⟩⟩
    · exact .inr ⟨c,.inr ⟨by omega,by omega,h7⟩⟩
theorem class_right_same (n s:ByteArray) (f b:Bool) (fs:List S45) (ms:List S34) (hn:n.size≤1048576) (hs:s.size≤1048576) (l4:fs.length≤1048576) (l5:ms.length≤1048576) (hm:∀ x∈ms,MAll x) (hf:∀ x∈fs,FSz x):
    ∃ r,Ev (fun k=>spec_ClassRight.f k n s f b fs ms) r∧Ev (fun k=>impl_ClassRight.f k n s f b fs ms) r:=by
  have y1:EvIff (fun k=>spec_ClassRight.j0 k true n s f b fs ms) False:=EvIff.step (f:=fun _=>some false) (fun k=>by simp only [spec_ClassRight.j0,↓reduceIte]) EvIff.no
  have y2:EvIff (fun k=>impl_ClassRight.j0 k true n s f b fs ms) False:=EvIff.step (f:=fun _=>some false) (fun k=>by simp only [impl_ClassRight.j0,↓reduceIte]) EvIff.no
  have n1:EvIff (fun k=>spec_ClassRight.j0 k false n s f b fs ms) (LoopP b fs ms):=EvIff.step (f:=fun k=>spec_ClassRight.l0 k 0 n s f b fs ms) (fun k=>by simp only [spec_ClassRight.j0];rw [if_neg (by simp)]) (class_loops_spec n s f b fs ms l4 l5 hm hf)
  have n2:EvIff (fun k=>impl_ClassRight.j0 k false n s f b fs ms) (LoopP b fs ms):=EvIff.step (f:=fun k=>impl_ClassRight.l0 k fs (fs.length:Int) 0 n s f b fs ms) (fun k=>by simp only [impl_ClassRight.j0];rw [if_neg (by simp)]) (class_loops_impl n s f b fs ms l4 l5 hm hf)
  exact EvIff.same (EvIff.congr (fun k=>rfl) (class_head (N:=fun k t=>spec_NameRight.f k t) (J:=fun k t=>spec_ClassRight.j0 k t n s f b fs ms) n s f b fs.length ms.length (name_spec n hn) (name_spec s hs) y1 n1)) (EvIff.congr (fun k=>rfl) (class_head (N:=fun k t=>impl_NameRight.f k t) (J:=fun k t=>impl_ClassRight.j0 k t n s f b fs ms) n s f b fs.length ms.length (name_impl n hn) (name_impl s hs) y2 n2))
def LX:List ByteArray:=LW++[⟨#[103]⟩,⟨#[40,73,76,65,59,41,76,65,59]⟩,⟨#[40,73,41,86]⟩,⟨#[69,114,114,111,114]⟩,⟨#[122]⟩]
theorem lx_w {s:ByteArray} (h:s∈LW):s∈LX:=List.mem_append_left _ h
theorem lx_size:∀ s∈LX,s.size≤23:=by decide +kernel
def IX (i:S77):Prop:=i.f2∈LX∧i.f3∈LX∧i.f4∈LX
def MX (m:S34):Prop:=m.f0∈LX∧m.f1∈LX∧(m.f7.length≤100∧∀ i∈m.f7,IX i)∧(m.f8.length≤100∧∀ h∈m.f8,h.f3∈LX)
def FX (f:S45):Prop:=f.f0∈LX∧f.f1∈LX
section
variable (b:List Int) (hb:b.length≤140737488355328)
include hb
theorem dn (i m z most:Int) (h0:0≤i) (hm:most≤9223372036854775807):EvB (fun _=>spec_l01Src_n.f b i m z most) (fun r=>0≤r.2.1∧0≤r.1∧(1≤most→r.1 < most)):=by
  obtain ⟨r,i',m',e,h1,h2,h3⟩:=draw_n b i m z most h0 hb hm
  exact ⟨_,Ev.congr (fun _=>e) (Ev.now _),h1,h2,h3⟩
theorem d1 (i m z most:Int) (h0:0≤i) (hm:most≤9223372036854775807):EvB (fun _=>spec_l01Src_one.f b i m z most) (fun r=>0≤r.2.1):=by
  obtain ⟨r,i',m',e,h1⟩:=draw_one b i m z most h0 hb hm
  exact ⟨_,Ev.congr (fun _=>e) (Ev.now _),h1⟩
theorem dp (i m z:Int) (l:List ByteArray) (h0:0≤i) (h1:0 < l.length) (h2:l.length≤1000):EvB (fun _=>spec_l01Src_pick.f b i m z l) (fun r=>0≤r.2.1∧r.1∈l):=by
  obtain ⟨s,i',m',e,h3,h4⟩:=draw_pick b i m z l h0 hb h1 h2
  exact ⟨_,Ev.congr (fun _=>e) (Ev.now _),h3,h4⟩
theorem dw (i m z:Int) (h0:0≤i):EvB (fun _=>spec_l01Src_word.f b i m z) (fun r=>0≤r.2.1∧r.1∈LW):=by
  obtain ⟨s,i',m',e,h3,h4⟩:=draw_word b i m z h0 hb
  exact ⟨_,Ev.congr (fun _=>e) (Ev.now _),h3,h4⟩
theorem dt (i m z:Int) (h0:0≤i):EvB (fun _=>spec_l01Src_l02Type.f b i m z) (fun r=>0≤r.2.1∧r.1∈LW):=by
  obtain ⟨s,i',m',e,h3,h4⟩:=draw_type b i m z h0 hb
  exact ⟨_,Ev.congr (fun _=>e) (Ev.now _),h3,h4⟩
theorem di (i m z:Int) (h0:0≤i):EvB (fun k=>spec_l01Src_l03Ins.f k b i m z) (fun r=>0≤r.2.2.2.2.2.1∧DIns r.1 r.2.1 r.2.2.1 r.2.2.2.1 r.2.2.2.2.1):=by
  obtain ⟨o,a,c,n,d,i',m',e,h3,h4⟩:=draw_ins b i m z h0 hb
  exact ⟨_,e,h3,h4⟩
def MR (r:ByteArray×ByteArray×Bool×Bool×Bool×Int×Int×List S77×List S81×Int×Int×Int):Prop:=MX ⟨r.1,r.2.1,r.2.2.1,r.2.2.2.1,r.2.2.2.2.1,r.2.2.2.2.2.1,r.2.2.2.2.2.2.1,r.2.2.2.2.2.2.2.1,r.2.2.2.2.2.2.2.2.1⟩∧0≤r.2.2.2.2.2.2.2.2.2.1
omit hb in
theorem mr {n e:ByteArray} {s a f:Bool} {x y:Int} {c:List S77} {h:List S81} {i m z:Int} (hn:n∈LX) (he:e∈LX) (hc:c.length≤100) (hI:∀ i∈c,IX i) (hl:h.length≤100) (hH:∀ q∈h,q.f3∈LX) (h0:0≤i):MR (n,e,s,a,f,x,y,c,h,i,m,z):=⟨⟨hn,he,⟨hc,hI⟩,hl,hH⟩,h0⟩
omit hb in
theorem ix_snoc {l:List S77} {x:S77} (h:∀ i∈l,IX i) (hx:IX x):∀ i∈l++[x],IX i:=by
  intro i hi
  rcases List.mem_append.mp hi with hi|hi
  · exact h i hi
  · rw [List.mem_singleton.mp hi];exact hx
theorem dm_l1 (d:Nat):∀ (i m z:Int) (n e:ByteArray) (s a f:Bool) (x y:Int) (c:List S77) (h:List S81),0≤i→n∈LX→e∈LX→c.length≤70→c.length+d ≥ 61→(∀ i∈c,IX i)→h.length≤90→(∀ q∈h,q.f3∈LX)→EvB (fun k=>spec_l01Src_l03Method.l1 k b i m z n e s a f x y c h) MR:=by
  induction d with
  | zero =>
    intro i m z n e s a f x y c h h0 hn he hc hd hI hl hH
    refine EvB.step (fun k=>by rw [spec_l01Src_l03Method.l1]) (EvB.then (dn b hb i m z 3 h0 (by omega)) (fun v hv=>?_))
    have h3:=hv.2.2 (by omega)
    have w:wrap64 (59+v.1)=59+v.1:=by have:=hv.2.1;unfold wrap64;omega
    refine EvB.ite (fun h=>absurd h (by rw [w];omega)) (fun _=>EvB.now (mr hn he (by omega) hI (by omega) hH hv.1))
  | succ d ih =>
    intro i m z n e s a f x y c h h0 hn he hc hd hI hl hH
    refine EvB.step (fun k=>by rw [spec_l01Src_l03Method.l1]) (EvB.then (dn b hb i m z 3 h0 (by omega)) (fun v hv=>?_))
    have h3:=hv.2.2 (by omega)
    have w:wrap64 (59+v.1)=59+v.1:=by have:=hv.2.1;unfold wrap64;omega
    refine EvB.ite (fun hlt=>?_) (fun _=>EvB.now (mr hn he (by omega) hI (by omega) hH hv.1))
    rw [w] at hlt
    exact EvB.ifp (by omega) (ih _ _ _ _ _ _ _ _ _ _ _ _ hv.1 hn he (by simp;omega) (by simp;omega) (ix_snoc hI ⟨by simp [LX,LW],by simp [LX,LW],by simp [LX,LW]⟩) hl hH)
theorem dm_j4 (i m z:Int) (n e:ByteArray) (s a f:Bool) (x y:Int) (c:List S77) (h:List S81) (h0:0≤i) (hn:n∈LX) (he:e∈LX) (hc:c.length≤8) (hI:∀ i∈c,IX i) (hl:h.length≤8) (hH:∀ q∈h,q.f3∈LX):EvB (fun k=>spec_l01Src_l03Method.j4 k b i m z n e s a f x y c h) MR:=by
  refine EvB.step (fun k=>by rw [spec_l01Src_l03Method.j4]) (EvB.then (d1 b hb i m z 20 h0 (by omega)) (fun v hv=>?_))
  have ok:∀ (n' e':ByteArray) (s a f:Bool) (x y:Int) (h':List S81) (i m z:Int),0≤i→n'∈LX→h'.length≤90→(∀ q∈h',q.f3∈LX)→MR (n',e,s,a,f,x,y,c,h',i,m,z):=fun n' e' s a f x y h' i m z a0 a1 a2 a3=>mr a1 he (by omega) hI (by omega) a3 a0
  refine EvB.ite (fun _=>EvB.then (dn b hb _ _ _ 6 hv (by omega)) (fun u hu=>?_)) (fun _=>EvB.now (ok n e _ _ _ _ _ _ _ _ _ hv hn (by omega) hH))
  refine EvB.ite (fun _=>?_) (fun _=>EvB.ite (fun _=>?_) (fun _=>EvB.ite (fun _=>?_) (fun _=>EvB.ite (fun _=>?_) (fun _=>EvB.ite (fun _=>?_) (fun _=>?_)))))
  · refine EvB.bind (Ev.now _) (EvB.then (dn b hb _ _ _ 3 hu.1 (by omega)) (fun w hw=>EvB.ifp hw.2.1 (EvB.ifp (hw.2.2 (by omega)) (EvB.now (ok n e _ _ _ _ _ _ _ _ _ hw.1 hn (by omega) hH)))))
  · refine EvB.bind (Ev.now _) (EvB.then (dn b hb _ _ _ 3 hu.1 (by omega)) (fun w hw=>EvB.ifp hw.2.1 (EvB.ifp (hw.2.2 (by omega)) (EvB.now (ok n e _ _ _ _ _ _ _ _ _ hw.1 hn (by omega) hH)))))
  · refine EvB.then (dn b hb _ _ _ 3 hu.1 (by omega)) (fun w hw=>EvB.then (dn b hb _ _ _ 3 hw.1 (by omega)) (fun w2 hw2=>EvB.then (dn b hb _ _ _ 9 hw2.1 (by omega)) (fun w3 hw3=>EvB.then (dw b hb _ _ _ hw3.1) (fun w4 hw4=>EvB.ifp (by omega) (EvB.now (ok n e _ _ _ _ _ _ _ _ _ hw4.1 hn (by simp;omega) ?_))))))
    intro q hq
    rcases List.mem_append.mp hq with hq|hq
    · exact hH q hq
    · rw [List.mem_singleton.mp hq];exact lx_w hw4.2
  · exact dm_l1 b hb 61 _ _ _ _ _ _ _ _ _ _ _ _ hu.1 hn he (by omega) (by omega) hI (by omega) hH
  · exact EvB.now (ok n e _ _ _ _ _ _ _ _ _ hu.1 hn (by omega) hH)
  · exact EvB.then (dw b hb _ _ _ hu.1) (fun w hw=>EvB.now (ok _ e _ _ _ _ _ _ _ _ _ hw.1 (lx_w hw.2) (by omega) hH))
theorem dm_j2 (i m z:Int) (n e:ByteArray) (s a f:Bool) (x y:Int) (c:List S77) (h:List S81) (h0:0≤i) (hn:n∈LX) (he:e∈LX) (hc:c.length≤8) (hI:∀ i∈c,IX i) (hl:h.length≤8) (hH:∀ q∈h,q.f3∈LX):EvB (fun k=>spec_l01Src_l03Method.j2 k b i m z n e s a f x y c h) MR:=by
  have j3:∀ (t:Bool) (i m z:Int),0≤i→EvB (fun k=>spec_l01Src_l03Method.j3 k t b i m z n e s a f x y c h) MR:=fun t i m z h0=>
    EvB.step (fun k=>by rw [spec_l01Src_l03Method.j3]) (EvB.ite (fun _=>dm_j4 b hb i m z n e _ _ _ _ _ [] [] h0 hn he (by simp) (by simp) (by simp) (by simp)) (fun _=>dm_j4 b hb i m z n e _ _ _ _ _ c h h0 hn he hc hI hl hH))
  exact EvB.step (fun k=>by rw [spec_l01Src_l03Method.j2]) (EvB.then (d1 b hb i m z 8 h0 (by omega)) (fun v hv=>EvB.ite (fun _=>j3 _ _ _ _ hv) (fun _=>j3 _ _ _ _ hv)))
omit hb in
theorem form_ev (o:Int):EvB (fun k=>spec_OpForm.f k o) (fun _=>True):=by
  obtain ⟨F,_,f2⟩:=op_form o
  exact ⟨F,⟨20,fun k hk=>f2 k (by omega)⟩,trivial⟩
theorem dm_l0 (d:Nat):∀ (i m z:Int) (n e:ByteArray) (s a f:Bool) (x y:Int) (c:List S77),0≤i→n∈LX→e∈LX→c.length+d≤8→(∀ i∈c,IX i)→EvB (fun k=>spec_l01Src_l03Method.l0 k (d:Int) b i m z n e s a f x y c) MR:=by
  induction d with
  | zero =>
    intro i m z n e s a f x y c h0 hn he hc hI
    refine EvB.step (fun k=>by rw [spec_l01Src_l03Method.l0,if_neg (by omega)]) (EvB.then (d1 b hb i m z 4 h0 (by omega)) (fun v hv=>?_))
    refine EvB.ite (fun _=>EvB.ifp (by simp) (dm_j2 b hb _ _ _ _ _ _ _ _ _ _ _ _ hv hn he (by omega) hI (by simp) ?_)) (fun _=>dm_j2 b hb _ _ _ _ _ _ _ _ _ _ _ _ hv hn he (by omega) hI (by simp) (by simp))
    intro q hq
    simp only [List.nil_append,List.mem_singleton] at hq
    rw [hq]
    simp [LX]
  | succ d ih =>
    intro i m z n e s a f x y c h0 hn he hc hI
    have w:wrap64 (((d+1:Nat):Int) - 1)=(d:Int):=by unfold wrap64;omega
    refine EvB.step (fun k=>by rw [spec_l01Src_l03Method.l0,if_pos (by omega),w]) (EvB.then (di b hb i m z h0) (fun v hv=>?_))
    obtain ⟨g0,_,_,g1,g2,g3⟩:=hv
    refine EvB.then (form_ev _) (fun F _=>EvB.ite (fun _=>?_) (fun _=>EvB.ifp (by omega) (ih _ _ _ _ _ _ _ _ _ _ _ g0 hn he (by simp;omega) (ix_snoc hI ⟨lx_w g1,lx_w g2,lx_w g3⟩))))
    refine EvB.then (d1 b hb _ _ _ 20 g0 (by omega)) (fun u hu=>EvB.ite (fun _=>?_) (fun _=>?_))
    · exact EvB.ifp (by omega) (ih _ _ _ _ _ _ _ _ _ _ _ hu hn he (by simp;omega) (ix_snoc hI ⟨lx_w g1,lx_w g2,lx_w g3⟩))
    · exact EvB.ifp (by omega) (ih _ _ _ _ _ _ _ _ _ _ _ hu hn he (by simp;omega) (ix_snoc hI ⟨lx_w g1,lx_w g2,lx_w g3⟩))
theorem draw_method (i m z:Int) (h0:0≤i):EvB (fun k=>spec_l01Src_l03Method.f k b i m z) MR:=by
  have j0:∀ (i m z:Int) (n e:ByteArray) (s a f:Bool) (x y:Int),0≤i→n∈LX→e∈LX→EvB (fun k=>spec_l01Src_l03Method.j0 k b i m z n e s a f x y) MR:=fun i m z n e s a f x y h0 hn he=>
    EvB.step (fun k=>by rw [spec_l01Src_l03Method.j0]) (EvB.then (dn b hb i m z 6 h0 (by omega)) (fun v hv=>by
      have h3:=hv.2.2 (by omega)
      have h4:=hv.2.1
      have w:wrap64 (1+v.1)=((1+v.1.toNat:Nat):Int):=by unfold wrap64;omega
      rw [w]
      exact dm_l0 b hb _ _ _ _ _ _ _ _ _ _ _ _ hv.1 hn he (by simp;omega) (by simp)))
  unfold spec_l01Src_l03Method.f
  refine EvB.then (dp b hb _ _ _ _ h0 (by decide) (by decide)) (fun v1 h1=>EvB.then (dp b hb _ _ _ _ h1.1 (by decide) (by decide)) (fun v2 h2=>EvB.then (dn b hb _ _ _ 6 h2.1 (by omega)) (fun v3 h3=>EvB.then (dn b hb _ _ _ 3 h3.1 (by omega)) (fun v4 h4=>?_))))
  have n1:v1.1∈LX:=by
    have h:=h1.2
    simp only [List.mem_cons,List.not_mem_nil,or_false] at h
    rcases h with h|h|h|h <;> rw [h] <;> simp [LX,LW]
  have n2:v2.1∈LX:=by
    have h:=h2.2
    simp only [List.mem_cons,List.not_mem_nil,or_false] at h
    rcases h with h|h|h <;> rw [h] <;> simp [LX,LW]
  refine EvB.ite (fun _=>EvB.then (dp b hb _ _ _ _ h4.1 (by decide) (by decide)) (fun v5 h5=>?_)) (fun _=>EvB.then (d1 b hb _ _ _ 2 h4.1 (by omega)) (fun v5 h5=>EvB.then (d1 b hb _ _ _ 6 h5 (by omega)) (fun v6 h6=>j0 _ _ _ _ _ _ _ _ _ _ h6 n1 n2)))
  have n5:v5.1∈LX:=by
    have h:=h5.2
    simp only [List.mem_cons,List.not_mem_nil,or_false] at h
    rcases h with h|h <;> rw [h] <;> simp [LX,LW]
  exact j0 _ _ _ _ _ _ _ _ _ _ h5.1 n1 n5
omit hb in
theorem mx_all {m:S34} (h:MX m):MAll m:=by
  obtain ⟨h0,h1,⟨h2,h3⟩,h4,h5⟩:=h
  have z:∀ {s:ByteArray},s∈LX→s.size≤1048576:=fun hs=>by have:=lx_size _ hs;omega
  exact ⟨z h0,z h1,fun i hi=>⟨z (h3 i hi).1,z (h3 i hi).2.1,z (h3 i hi).2.2⟩,fun q hq=>z (h5 q hq),by omega,by omega⟩
def CR (r:ByteArray×ByteArray×Bool×Bool×List S45×List S34×Int×Int×Int):Prop:=(r.1∈LX∧r.2.1∈LX)∧(r.2.2.2.2.1.length≤100∧∀ f∈r.2.2.2.2.1,FX f)∧(r.2.2.2.2.2.1.length≤100∧∀ m∈r.2.2.2.2.2.1,MX m)∧0≤r.2.2.2.2.2.2.1
omit hb in
theorem cr {n u:ByteArray} {f a:Bool} {fs:List S45} {ms:List S34} {i m z:Int} (hn:n∈LX) (hu:u∈LX) (l4:fs.length≤100) (hf:∀ f∈fs,FX f) (l5:ms.length≤100) (hm:∀ m∈ms,MX m) (h0:0≤i):CR (n,u,f,a,fs,ms,i,m,z):=⟨⟨hn,hu⟩,⟨l4,hf⟩,⟨l5,hm⟩,h0⟩
omit hb in
theorem all_snoc {α:Type} {P:α→Prop} {l:List α} {x:α} (h:∀ i∈l,P i) (hx:P x):∀ i∈l++[x],P i:=by
  intro i hi
  rcases List.mem_append.mp hi with hi|hi
  · exact h i hi
  · rw [List.mem_singleton.mp hi];exact hx
theorem dc_l1 (d:Nat):∀ (i m z:Int) (n u:ByteArray) (f a:Bool) (fs:List S45) (ms:List S34),0≤i→n∈LX→u∈LX→fs.length≤10→(∀ f∈fs,FX f)→ms.length+d≤10→(∀ m∈ms,MX m)→EvB (fun k=>spec_l01Src_l03Class.l1 k (d:Int) b i m z n u f a fs ms) CR:=by
  induction d with
  | zero =>
    intro i m z n u f a fs ms h0 hn hu l4 hf l5 hm
    refine EvB.step (fun k=>by rw [spec_l01Src_l03Class.l1,if_neg (by omega)]) (EvB.then (d1 b hb i m z 15 h0 (by omega)) (fun v hv=>?_))
    refine EvB.ite (fun _=>EvB.then (dn b hb _ _ _ 4 hv (by omega)) (fun w hw=>?_)) (fun _=>EvB.now (cr hn hu (by omega) hf (by omega) hm hv))
    refine EvB.ite (fun _=>EvB.then (dw b hb _ _ _ hw.1) (fun s hs=>EvB.now (cr (lx_w hs.2) hu (by omega) hf (by omega) hm hs.1))) (fun _=>EvB.ite (fun _=>EvB.now (cr hn hu (by omega) hf (by omega) hm hw.1)) (fun _=>EvB.ite (fun _=>?_) (fun _=>EvB.now (cr hn hn (by omega) hf (by omega) hm hw.1))))
    exact EvB.then (dt b hb _ _ _ hw.1) (fun s hs=>EvB.ifp (by omega) (EvB.now (cr hn hu (by simp;omega) (all_snoc hf ⟨by simp [LX,LW],lx_w hs.2⟩) (by omega) hm hs.1)))
  | succ d ih =>
    intro i m z n u f a fs ms h0 hn hu l4 hf l5 hm
    have w:wrap64 (((d+1:Nat):Int) - 1)=(d:Int):=by unfold wrap64;omega
    refine EvB.step (fun k=>by rw [spec_l01Src_l03Class.l1,if_pos (by omega),w]) (EvB.then (draw_method b hb i m z h0) (fun v hv=>?_))
    obtain ⟨hM,g0⟩:=hv
    obtain ⟨t,ht,_⟩:=meth_spec _ (mx_all hM)
    have more:∀ (i m z:Int),0≤i→EvB (fun k=>spec_l01Src_l03Class.l1 k (d:Int) b i m z n u f a fs (ms++[(⟨v.1,v.2.1,v.2.2.1,v.2.2.2.1,v.2.2.2.2.1,v.2.2.2.2.2.1,v.2.2.2.2.2.2.1,v.2.2.2.2.2.2.2.1,v.2.2.2.2.2.2.2.2.1⟩:S34)])) CR:=fun i m z h0=>ih i m z n u f a fs _ h0 hn hu l4 hf (by simp;omega) (all_snoc hm hM)
    refine EvB.bind ht (EvB.ite (fun _=>EvB.ite (fun _=>EvB.ifp (by omega) (more _ _ _ g0)) (fun _=>EvB.ite (fun _=>?_) (fun _=>EvB.ifp (by omega) (more _ _ _ g0)))) (fun _=>?_))
    · exact EvB.then (d1 b hb _ _ _ 30 g0 (by omega)) (fun q hq=>EvB.ite (fun _=>EvB.ifp (by omega) (more _ _ _ hq)) (fun _=>ih _ _ _ n u f a fs ms hq hn hu l4 hf (by omega) hm))
    · exact EvB.then (d1 b hb _ _ _ 30 g0 (by omega)) (fun q hq=>EvB.ite (fun _=>EvB.ifp (by omega) (more _ _ _ hq)) (fun _=>ih _ _ _ n u f a fs ms hq hn hu l4 hf (by omega) hm))
theorem dc_l0 (d:Nat):∀ (i m z:Int) (n u:ByteArray) (f a:Bool) (fs:List S45),0≤i→n∈LX→u∈LX→fs.length+d≤3→(∀ f∈fs,FX f)→EvB (fun k=>spec_l01Src_l03Class.l0 k (d:Int) b i m z n u f a fs) CR:=by
  induction d with
  | zero =>
    intro i m z n u f a fs h0 hn hu l4 hf
    refine EvB.step (fun k=>by rw [spec_l01Src_l03Class.l0,if_neg (by omega)]) (EvB.then (dn b hb i m z 3 h0 (by omega)) (fun v hv=>?_))
    have h3:=hv.2.2 (by omega)
    rw [show v.1=((v.1.toNat:Nat):Int) by have:=hv.2.1;omega]
    exact dc_l1 b hb _ _ _ _ _ _ _ _ _ [] hv.1 hn hu (by omega) hf (by simp;omega) (by simp)
  | succ d ih =>
    intro i m z n u f a fs h0 hn hu l4 hf
    have w:wrap64 (((d+1:Nat):Int) - 1)=(d:Int):=by unfold wrap64;omega
    refine EvB.step (fun k=>by rw [spec_l01Src_l03Class.l0,if_pos (by omega),w]) ?_
    refine EvB.bind (Ev.now _) ?_
    refine EvB.ifp (by omega) (EvB.ifp (by simp;omega) ?_)
    refine EvB.then (dp b hb i m z _ h0 (by decide) (by decide)) (fun v hv=>?_)
    refine EvB.then (d1 b hb _ _ _ 3 hv.1 (by omega)) (fun q hq=>?_)
    refine EvB.ifp (by omega) (ih _ _ _ n u f a _ hq hn hu (by simp;omega) (all_snoc hf ⟨?_,?_⟩))
    · obtain ⟨e,he⟩:∃ e,fs.length=e:=⟨_,rfl⟩
      rw [he]
      have h3:e < 3:=by omega
      rcases (by omega:e=0∨e=1∨e=2) with rfl|rfl|rfl
      · exact (by simp [LX,LW]:(⟨#[120]⟩:ByteArray)∈LX)
      · exact (by simp [LX,LW]:(⟨#[121]⟩:ByteArray)∈LX)
      · exact (by simp [LX,LW]:(⟨#[122]⟩:ByteArray)∈LX)
    · have h:=hv.2
      simp only [List.mem_cons,List.not_mem_nil,or_false] at h
      rcases h with h|h|h <;> rw [h] <;> simp [LX,LW]
theorem draw_class (i m z:Int) (n u:ByteArray) (h0:0≤i) (hn:n∈LX) (hu:u∈LX):EvB (fun k=>spec_l01Src_l03Class.f k b i m z n u) CR:=by
  unfold spec_l01Src_l03Class.f
  refine EvB.then (d1 b hb i m z 4 h0 (by omega)) (fun v hv=>EvB.then (dn b hb _ _ _ 3 hv (by omega)) (fun w hw=>?_))
  have h3:=hw.2.2 (by omega)
  rw [show w.1=((w.1.toNat:Nat):Int) by have:=hw.2.1;omega]
  exact dc_l0 b hb _ _ _ _ _ _ _ _ [] hw.1 hn hu (by simp;omega) (by simp)
end
abbrev St:=List ByteArray×List Int
def StB (N:Nat) (s:St):Prop:=s.1.length≤N∧s.2.length≤N
def nm (s:St) (n:Int):St:=(s.1,s.2++[n % 256])
def tx (s:St) (t:ByteArray):St:=match fnd_ t s.1 0 with
  | some i=>(s.1,s.2++[i % 256])
  | none=>(s.1++[t],s.2++[(s.1.length:Int) % 256])
theorem StB.up {N M:Nat} {s:St} (h:StB N s) (hm:N≤M):StB M s:=⟨Nat.le_trans h.1 hm,Nat.le_trans h.2 hm⟩
theorem nm_b {N:Nat} {s:St} (n:Int) (h:StB N s):StB (N+1) (nm s n):=⟨by have:=h.1;simp [nm];omega,by have:=h.2;simp [nm];omega⟩
theorem tx_b {N:Nat} {s:St} (t:ByteArray) (h:StB N s):StB (N+1) (tx s t):=by
  unfold tx
  split
  · exact ⟨by have:=h.1;simp;omega,by have:=h.2;simp;omega⟩
  · exact ⟨by have:=h.1;simp;omega,by have:=h.2;simp;omega⟩
theorem fold_b {α:Type} {P:St→α→St} {c:Nat} (a:List α) (hg:∀ x∈a,∀ s N,StB N s→StB (N+c) (P s x)):∀ (s:St) (N:Nat),StB N s→StB (N+c*a.length) (a.foldl P s):=by
  induction a with
  | nil=>intro s N h;simpa using h
  | cons x l ih =>
    intro s N h
    have h1:=ih (fun y hy=>hg y (List.mem_cons_of_mem _ hy)) (P s x) (N+c) (hg x (List.mem_cons_self ..) s N h)
    rw [List.foldl_cons,List.length_cons]
    exact h1.up (by rw [Nat.mul_add];omega)
theorem st_loop {α R:Type} {L:Nat→Int→St→Option R} {Z:Nat→St→Option R} {P:St→α→St} {c M:Nat} (a:List α)
    (hg:∀ x∈a,∀ s N,StB N s→StB (N+c) (P s x))
    (hs:∀ i (h:i < a.length) s r,StB M s→Ev (fun k=>L k ((i+1:Nat):Int) (P s a[i])) r→Ev (fun k=>L k (i:Int) s) r)
    (hz:∀ s r,Ev (fun k=>Z k s) r→Ev (fun k=>L k (a.length:Int) s) r)
    (s0:St) (N:Nat) (h0:StB N s0) (hM:N+c*a.length≤M) {r:R} (hZ:Ev (fun k=>Z k (a.foldl P s0)) r):Ev (fun k=>L k 0 s0) r:=by
  have key:∀ (d i:Nat) (s:St),i+d=a.length→StB (N+c*i) s→Ev (fun k=>Z k ((a.drop i).foldl P s)) r→Ev (fun k=>L k (i:Int) s) r:=by
    intro d
    induction d with
    | zero =>
      intro i s hd hb h
      obtain rfl:i=a.length:=by omega
      rw [List.drop_length] at h
      exact hz s r h
    | succ d ih =>
      intro i s hd hb h
      have ha:i < a.length:=by omega
      rw [List.drop_eq_getElem_cons ha,List.foldl_cons] at h
      have hm:N+c*i≤M:=Nat.le_trans (Nat.add_le_add_left (Nat.mul_le_mul_left c (Nat.le_of_lt ha)) N) hM
      exact hs i ha s r (hb.up hm) (ih (i+1) _ (by omega) ((hg _ (List.getElem_mem ha) s _ hb).up (by rw [Nat.mul_add];omega)) h)
  exact key a.length 0 s0 (by omega) (by simpa using h0) (by simpa using hZ)
theorem fnd_ge (t:ByteArray):∀ (l:List ByteArray) (i:Nat) (j:Int),i+l.length≤4611686018427387904→fnd_ t l (i:Int)=some j→(i:Int)≤j∧j < i+l.length:=by
  intro l
  induction l with
  | nil=>intro i j hn h;simp [fnd_] at h
  | cons x l ih =>
    intro i j hn h
    rw [fnd_] at h
    rw [List.length_cons] at hn ⊢
    by_cases e:x.toList=t.toList
    · rw [if_pos e] at h;injection h with h;omega
    · rw [if_neg e,up64 (n:=i+l.length+1) (by omega) (by omega)] at h
      have:=ih (i+1) j (by omega) h;omega
theorem index_ev (p:List ByteArray) (t:ByteArray) (hn:p.length≤4611686018427387904):Ev (fun k=>slices_Index_string_string.f k p t) ((fnd_ t p 0).getD (-1)):=by
  have key:∀ (d i:Nat),i+d=p.length→Ev (fun k=>slices_Index_string_string.l0 k p t (p.length:Int) (i:Int)) ((fnd_ t (p.drop i) (i:Int)).getD (-1)):=by
    intro d
    induction d with
    | zero =>
      intro i hd
      obtain rfl:i=p.length:=by omega
      rw [List.drop_length]
      exact Ev.step (f:=fun _=>some (-1)) (fun k=>by rw [slices_Index_string_string.l0,if_neg (by omega)]) (Ev.now _)
    | succ d ih =>
      intro i hd
      have ha:i < p.length:=by omega
      rw [List.drop_eq_getElem_cons ha,fnd_]
      have e1:rdOf ByteArray.empty p (i:Int)=p[i]:=by rw [rdOf_at _ _ _ (by simpa using ha)];rfl
      by_cases e:p[i].toList=t.toList
      · rw [if_pos e]
        exact Ev.step (f:=fun _=>some (i:Int)) (fun k=>by rw [slices_Index_string_string.l0,if_pos (by omega),if_pos (by omega),if_pos (by omega),e1,if_pos e.symm]) (Ev.now _)
      · rw [if_neg e,up64 ha hn]
        exact Ev.step (fun k=>by rw [slices_Index_string_string.l0,if_pos (by omega),if_pos (by omega),if_pos (by omega),e1,if_neg (fun h=>e h.symm),up64 ha hn]) (ih (i+1) (by omega))
  exact key p.length 0 (by omega)
theorem text_spec (s:St) (t:ByteArray) (h:StB 1099511627774 s):spec_l04Maker_text.f s.1 s.2 t=some (tx s t):=by
  have h1:=h.1;have h2:=h.2
  unfold spec_l04Maker_text.f tx
  rw [if_pos (by omega)]
  cases hf:fnd_ t s.1 0 with
  | some i=>simp only [];unfold spec_l04Maker_num.f;rw [if_pos (by omega)]
  | none =>
    simp only []
    unfold spec_l04Maker_num.f
    rw [if_pos (by omega)]
    have e:wrap64 (((s.1++[t]).length:Int) - 1)=(s.1.length:Int):=by rw [List.length_append,List.length_singleton];unfold wrap64;omega
    rw [e]
theorem num_spec (s:St) (n:Int) (h:StB 1099511627774 s):spec_l04Maker_num.f s.1 s.2 n=some (nm s n):=by
  have h2:=h.2
  unfold spec_l04Maker_num.f nm
  rw [if_pos (by omega)]
theorem foldl_nm (l:List Int):∀ s:St,l.foldl nm s=(s.1,s.2++l.map (· % 256)):=by
  induction l with
  | nil=>intro s;simp
  | cons x l ih=>intro s;rw [List.foldl_cons,ih];simp [nm]
theorem num_impl (s:St) (l:List Int) (h:StB 1099511627774 s) (hl:s.2.length+l.length≤1099511627776):impl_writer_num.f s.1 s.2 l=some (l.foldl nm s):=by
  unfold impl_writer_num.f
  rw [if_pos hl,foldl_nm]
theorem text_impl (l:List ByteArray):∀ (s:St) (N:Nat),StB N s→N+l.length≤1099511627774→Ev (fun k=>impl_writer_text.g k s.1 s.2 l) (l.foldl tx s):=by
  induction l with
  | nil=>intro s N h hl;exact Ev.congr (f:=fun _=>some s) (fun k=>rfl) (Ev.now _)
  | cons t l ih =>
    intro s N h hl
    rw [List.length_cons] at hl
    have h1:=h.1;have h2:=h.2
    have e:=ih (tx s t) (N+1) (tx_b t h) (by omega)
    rw [List.foldl_cons]
    refine Ev.congr (f:=fun k=>(slices_Index_string_string.f k s.1 t).bind fun i=>if i < 0 then impl_writer_text.g k (s.1++[t]) (s.2++[(s.1.length:Int) % 256]) l else impl_writer_text.g k s.1 (s.2++[i % 256]) l) (fun k=>by rw [impl_writer_text.g,if_pos (by omega),if_pos (by omega)]) ?_
    refine Ev.bind (index_ev s.1 t (by omega)) ?_
    unfold tx at e ⊢
    cases hf:fnd_ t s.1 0 with
    | some i =>
      have hi:=(fnd_ge t s.1 0 i (by omega) hf).1
      rw [hf] at e
      exact Ev.congr (fun k=>if_neg (by simp only [Option.getD_some];omega)) e
    | none =>
      rw [hf] at e
      exact Ev.congr (fun k=>if_pos (by simp)) e
theorem text_implf (s:St) (l:List ByteArray) (N:Nat) (h:StB N s) (hl:N+l.length≤1099511627774):Ev (fun k=>impl_writer_text.f k s.1 s.2 l) (l.foldl tx s):=
  Ev.congr (fun k=>by unfold impl_writer_text.f;rw [if_pos (by omega)]) (text_impl l s N h hl)
theorem put_4 (n:Int):impl_put.f 5 n 4=some (strOfNums [n / 256 / 256 / 256 % 256,n / 256 / 256 % 256,n / 256 % 256,n % 256]):=by
  simp [impl_put.f,impl_put.l0,wrap64,List.replicate]
def q4 (a:Int):ByteArray:=strOfNums [a / 256 / 256 / 256 % 256,a / 256 / 256 % 256,a / 256 % 256,a % 256]
theorem q4_size (a:Int):(q4 a).size=4:=strOfNums_size _
def insP (F:ByteArray) (s:St) (x:S77):St:=
  if F.toList=([110]:List UInt8) then ((nm s x.f0).1,(nm s x.f0).2++bytesOf (q4 x.f1)) else if F.toList=([105]:List UInt8) then nm (nm s x.f0) x.f1 else if F.toList=([116]:List UInt8) then nm (nm s x.f0) x.f1 else if F.toList=([99]:List UInt8) then tx (nm s x.f0) x.f2 else if F.toList=([121]:List UInt8) then tx (nm s x.f0) x.f4 else if F.toList=([102]:List UInt8) then tx (tx (tx (nm s x.f0) x.f2) x.f3) x.f4 else if F.toList=([109]:List UInt8) then tx (tx (tx (nm s x.f0) x.f2) x.f3) x.f4 else nm s x.f0
def insS (s:St) (x:S77):St:=match impl_OpForm.f x.f0 with
  | some F=>insP F s x
  | none=>s
def NumIn (x:S77):Prop:=∀ F,impl_OpForm.f x.f0=some F→F.toList=([110]:List UInt8)→spec_l01Int.f x.f1=some true
theorem insS_b {N:Nat} {s:St} (x:S77) (h:StB N s):StB (N+5) (insS s x):=by
  unfold insS
  cases hF:impl_OpForm.f x.f0 with
  | none=>exact h.up (by omega)
  | some F =>
    simp only []
    unfold insP
    have h1:=nm_b x.f0 h
    repeat' split
    · refine ⟨Nat.le_trans h1.1 (by omega),?_⟩
      have e:(bytesOf (q4 x.f1)).length=4:=by rw [bytesOf_length,q4_size]
      have:=h1.2
      simp only [List.length_append,e];omega
    · exact (nm_b _ h1).up (by omega)
    · exact (nm_b _ h1).up (by omega)
    · exact (tx_b _ h1).up (by omega)
    · exact (tx_b _ h1).up (by omega)
    · exact (tx_b _ (tx_b _ (tx_b _ h1))).up (by omega)
    · exact (tx_b _ (tx_b _ (tx_b _ h1))).up (by omega)
    · exact h1.up (by omega)
theorem put4_ev (a:Int):Ev (fun k=>impl_put.f k a 4) (q4 a):=⟨5,fun k hk=>at_rounds (impl_put.mono a 4) hk (put_4 a)⟩
theorem put4_spec (a:Int) (h:spec_l01Int.f a=some true):spec_Put4.f a=some (q4 a):=by
  unfold spec_Put4.f q4
  rw [h,Option.bind_some,if_pos rfl]
  congr 2
  have e0:a % 4294967296 / 16777216=a / 256 / 256 / 256 % 256:=by omega
  have e1:a % 4294967296 / 65536 % 256=a / 256 / 256 % 256:=by omega
  have e2:a % 4294967296 / 256 % 256=a / 256 % 256:=by omega
  have e3:a % 4294967296 % 256=a % 256:=by omega
  rw [e0,e1,e2,e3]
theorem ins_implS (s:St) (x:S77) (N:Nat) (h:StB N s) (hN:N≤1099511000000):Ev (fun k=>impl_writer_ins.f k s.1 s.2 x.f0 x.f1 x.f2 x.f3 x.f4) (insS s x):=by
  obtain ⟨F,hF,hS⟩:=op_form x.f0
  have h1:=nm_b x.f0 h
  have hs:=h.up (show N≤1099511627774 by omega)
  have hs1:=h1.up (show N+1≤1099511627774 by omega)
  unfold insS
  rw [hF]
  simp only []
  unfold insP
  have e0:∀ k,impl_writer_ins.f k s.1 s.2 x.f0 x.f1 x.f2 x.f3 x.f4=(if F.toList=([110]:List UInt8) then ((impl_put.f k x.f1 4).bind fun q=>if (nm s x.f0).2.length+q.size≤1099511627776 then some ((nm s x.f0).1,(nm s x.f0).2++bytesOf q) else none) else if F.toList=([105]:List UInt8) then impl_writer_num.f (nm s x.f0).1 (nm s x.f0).2 [x.f1] else if F.toList=([116]:List UInt8) then impl_writer_num.f (nm s x.f0).1 (nm s x.f0).2 [x.f1] else if F.toList=([99]:List UInt8) then impl_writer_text.f k (nm s x.f0).1 (nm s x.f0).2 [x.f2] else if F.toList=([121]:List UInt8) then impl_writer_text.f k (nm s x.f0).1 (nm s x.f0).2 [x.f4] else if F.toList=([102]:List UInt8) then impl_writer_text.f k (nm s x.f0).1 (nm s x.f0).2 [x.f2,x.f3,x.f4] else if F.toList=([109]:List UInt8) then impl_writer_text.f k (nm s x.f0).1 (nm s x.f0).2 [x.f2,x.f3,x.f4] else some (nm s x.f0)):=by
    intro k
    unfold impl_writer_ins.f
    rw [num_impl s [x.f0] hs (by have:=h.2;simp;omega),Option.bind_some,hF,Option.bind_some]
    rfl
  refine Ev.congr e0 ?_
  have n1:=num_impl (nm s x.f0) [x.f1] hs1 (by have:=h1.2;simp;omega)
  have t1:=fun t=>text_implf (nm s x.f0) [t] (N+1) h1 (by simp;omega)
  have t3:=fun a b c=>text_implf (nm s x.f0) [a,b,c] (N+1) h1 (by simp;omega)
  by_cases c1:F.toList=([110]:List UInt8)
  · rw [if_pos c1]
    refine Ev.congr (fun k=>if_pos c1) (Ev.bind (put4_ev x.f1) (Ev.congr (f:=fun _=>some ((nm s x.f0).1,(nm s x.f0).2++bytesOf (q4 x.f1))) (fun k=>if_pos (by rw [q4_size];have:=h1.2;omega)) (Ev.now _)))
  rw [if_neg c1];refine Ev.congr (fun k=>if_neg c1) ?_
  by_cases c2:F.toList=([105]:List UInt8)
  · rw [if_pos c2];exact Ev.congr (fun k=>(if_pos c2).trans n1) (Ev.now _)
  rw [if_neg c2];refine Ev.congr (fun k=>if_neg c2) ?_
  by_cases c3:F.toList=([116]:List UInt8)
  · rw [if_pos c3];exact Ev.congr (fun k=>(if_pos c3).trans n1) (Ev.now _)
  rw [if_neg c3];refine Ev.congr (fun k=>if_neg c3) ?_
  by_cases c4:F.toList=([99]:List UInt8)
  · rw [if_pos c4];exact Ev.congr (fun k=>if_pos c4) (t1 _)
  rw [if_neg c4];refine Ev.congr (fun k=>if_neg c4) ?_
  by_cases c5:F.toList=([121]:List UInt8)
  · rw [if_pos c5];exact Ev.congr (fun k=>if_pos c5) (t1 _)
  rw [if_neg c5];refine Ev.congr (fun k=>if_neg c5) ?_
  by_cases c6:F.toList=([102]:List UInt8)
  · rw [if_pos c6];exact Ev.congr (fun k=>if_pos c6) (t3 _ _ _)
  rw [if_neg c6];refine Ev.congr (fun k=>if_neg c6) ?_
  by_cases c7:F.toList=([109]:List UInt8)
  · rw [if_pos c7];exact Ev.congr (fun k=>if_pos c7) (t3 _ _ _)
  rw [if_neg c7];exact Ev.congr (fun k=>if_neg c7) (Ev.now _)
theorem ins_specS (s:St) (x:S77) (hx:NumIn x) (N:Nat) (h:StB N s) (hN:N≤1099511000000):Ev (fun k=>spec_l04Maker_ins.f k s.1 s.2 x.f0 x.f1 x.f2 x.f3 x.f4) (insS s x):=by
  obtain ⟨F,hF,hS⟩:=op_form x.f0
  have h1:=nm_b x.f0 h
  have hs:=h.up (show N≤1099511627774 by omega)
  have hs1:=h1.up (show N+1≤1099511627774 by omega)
  have hn:=hx F hF
  unfold insS
  rw [hF]
  simp only []
  refine ⟨16,fun k hk=>?_⟩
  show spec_l04Maker_ins.f k s.1 s.2 x.f0 x.f1 x.f2 x.f3 x.f4=_
  unfold spec_l04Maker_ins.f
  rw [num_spec s x.f0 hs,Option.bind_some,hS k hk,Option.bind_some]
  have t3:∀ a b c,((spec_l04Maker_text.f (nm s x.f0).1 (nm s x.f0).2 a).bind fun p=>((spec_l04Maker_text.f p.1 p.2 b).bind fun p=>spec_l04Maker_text.f p.1 p.2 c))=some (tx (tx (tx (nm s x.f0) a) b) c):=by
    intro a b c
    rw [text_spec _ _ hs1,Option.bind_some,text_spec _ _ ((tx_b a h1).up (by omega)),Option.bind_some,text_spec _ _ ((tx_b b (tx_b a h1)).up (by omega))]
  unfold insP
  by_cases c1:F.toList=([110]:List UInt8)
  · rw [if_pos c1,if_pos c1,put4_spec _ (hn c1),Option.bind_some,if_pos (by rw [q4_size];have:=h1.2;omega)]
  rw [if_neg c1,if_neg c1]
  by_cases c2:F.toList=([105]:List UInt8)
  · rw [if_pos c2,if_pos c2,num_spec _ _ hs1]
  rw [if_neg c2,if_neg c2]
  by_cases c3:F.toList=([116]:List UInt8)
  · rw [if_pos c3,if_pos c3,num_spec _ _ hs1]
  rw [if_neg c3,if_neg c3]
  by_cases c4:F.toList=([99]:List UInt8)
  · rw [if_pos c4,if_pos c4,text_spec _ _ hs1]
  rw [if_neg c4,if_neg c4]
  by_cases c5:F.toList=([121]:List UInt8)
  · rw [if_pos c5,if_pos c5,text_spec _ _ hs1]
  rw [if_neg c5,if_neg c5]
  by_cases c6:F.toList=([102]:List UInt8)
  · rw [if_pos c6,if_pos c6,t3]
  rw [if_neg c6,if_neg c6]
  by_cases c7:F.toList=([109]:List UInt8)
  · rw [if_pos c7,if_pos c7,t3]
  rw [if_neg c7,if_neg c7]
def fl3 (a b c:Bool):Int:=(if a=true then 1 else 0)+(if b=true then 2 else 0)+(if c=true then 4 else 0)
theorem flags_1 (a:Bool):Ev (fun k=>impl_flags.f k [a]) (fl3 a false false):=⟨5,fun k hk=>at_rounds (impl_flags.mono [a]) hk (by cases a <;> decide +kernel)⟩
theorem flags_2 (a b:Bool):Ev (fun k=>impl_flags.f k [a,b]) (fl3 a b false):=⟨5,fun k hk=>at_rounds (impl_flags.mono [a,b]) hk (by cases a <;> cases b <;> decide +kernel)⟩
theorem flags_3 (a b c:Bool):Ev (fun k=>impl_flags.f k [a,b,c]) (fl3 a b c):=⟨5,fun k hk=>at_rounds (impl_flags.mono [a,b,c]) hk (by cases a <;> cases b <;> cases c <;> decide +kernel)⟩
theorem flags_spec (a b c:Bool):Ev (fun k=>spec_l04Flags.f k a b c) (fl3 a b c):=⟨5,fun k hk=>at_rounds (spec_l04Flags.mono a b c) hk (by cases a <;> cases b <;> cases c <;> decide +kernel)⟩
def fieldS (s:St) (f:S45):St:=nm (tx (tx s f.f0) f.f1) (fl3 f.f2 false false)
def hanS (s:St) (h:S81):St:=tx (nm (nm (nm s h.f0) h.f1) h.f2) h.f3
def methS (s:St) (m:S34):St:=m.f8.foldl hanS (nm (m.f7.foldl insS (nm (nm (nm (nm (tx (tx s m.f0) m.f1) (fl3 m.f2 m.f3 m.f4)) m.f5) m.f6) (m.f7.length:Int))) (m.f8.length:Int))
def MOk (m:S34):Prop:=m.f7.length≤60∧m.f8.length≤6∧∀ x∈m.f7,NumIn x
def clsS (n u:ByteArray) (f b:Bool) (fs:List S45) (ms:List S34):St:=ms.foldl methS (nm (fs.foldl fieldS (nm (nm (tx (tx (([],[]):St) n) u) (fl3 f b false)) (fs.length:Int))) (ms.length:Int))
theorem fieldS_b {N:Nat} {s:St} (f:S45) (h:StB N s):StB (N+3) (fieldS s f):=nm_b _ (tx_b _ (tx_b _ h))
theorem hanS_b {N:Nat} {s:St} (x:S81) (h:StB N s):StB (N+4) (hanS s x):=tx_b _ (nm_b _ (nm_b _ (nm_b _ h)))
theorem methS_b {N:Nat} {s:St} (m:S34) (hm:MOk m) (h:StB N s):StB (N+400) (methS s m):=by
  have h1:=nm_b (m.f7.length:Int) (nm_b m.f6 (nm_b m.f5 (nm_b (fl3 m.f2 m.f3 m.f4) (tx_b m.f1 (tx_b m.f0 h)))))
  have h2:=fold_b (P:=insS) (c:=5) m.f7 (fun x _ s N h=>insS_b x h) _ _ h1
  have h3:=fold_b (P:=hanS) (c:=4) m.f8 (fun x _ s N h=>hanS_b x h) _ _ (nm_b (m.f8.length:Int) h2)
  have l1:=hm.1;have l2:=hm.2.1
  exact h3.up (by omega)
theorem len_ev {α:Type} {g:List α→Option Int} (hg:∀ l,g l=some (l.length:Int)) (l:List α):Ev (fun _=>g l) (l.length:Int):=Ev.congr (f:=fun _=>some (l.length:Int)) (fun _=>hg l) (Ev.now _)
theorem num_ev (s:St) (l:List Int) (N:Nat) (h:StB N s) (hN:N+l.length≤1099511627774):Ev (fun _=>impl_writer_num.f s.1 s.2 l) (l.foldl nm s):=Ev.congr (f:=fun _=>some (l.foldl nm s)) (fun _=>num_impl s l (h.up (by omega)) (by have:=h.2;omega)) (Ev.now _)
theorem snum_ev (s:St) (n:Int) (N:Nat) (h:StB N s) (hN:N≤1099511627774):Ev (fun _=>spec_l04Maker_num.f s.1 s.2 n) (nm s n):=Ev.congr (f:=fun _=>some (nm s n)) (fun _=>num_spec s n (h.up hN)) (Ev.now _)
theorem stext_ev (s:St) (t:ByteArray) (N:Nat) (h:StB N s) (hN:N≤1099511627774):Ev (fun _=>spec_l04Maker_text.f s.1 s.2 t) (tx s t):=Ev.congr (f:=fun _=>some (tx s t)) (fun _=>text_spec s t (h.up hN)) (Ev.now _)
theorem meth_implS (s:St) (m:S34) (hm:MOk m) (N:Nat) (h:StB N s) (hN:N≤1000000):Ev (fun k=>impl_writer_method.f k s.1 s.2 m.f0 m.f1 m.f2 m.f3 m.f4 m.f5 m.f6 m.f7 m.f8) (methS s m):=by
  have l7:=hm.1;have l8:=hm.2.1
  have h2:=tx_b m.f1 (tx_b m.f0 h)
  have h6:=nm_b (m.f7.length:Int) (nm_b m.f6 (nm_b m.f5 (nm_b (fl3 m.f2 m.f3 m.f4) h2)))
  have hi:=fold_b (P:=insS) (c:=5) m.f7 (fun x _ s N h=>insS_b x h) _ _ h6
  unfold impl_writer_method.f
  refine Ev.bind (text_implf s [m.f0,m.f1] N h (by simp;omega)) (Ev.bind (flags_3 m.f2 m.f3 m.f4) (Ev.bind (len_ev (g:=impl_Ins.f) (fun _=>rfl) m.f7) (Ev.bind (num_ev (tx (tx s m.f0) m.f1) [fl3 m.f2 m.f3 m.f4,m.f5,m.f6,(m.f7.length:Int)] (N+1+1) h2 (by simp;omega)) ?_)))
  refine st_loop (L:=fun k i s=>impl_writer_method.l0 k m.f7 (m.f7.length:Int) i s.1 s.2 m.f0 m.f1 m.f2 m.f3 m.f4 m.f5 m.f6 m.f7 m.f8) (Z:=fun k s=>(impl_Handler_57.f m.f8).bind fun t=>((impl_writer_num.f s.1 s.2 [t]).bind fun bt=>impl_writer_method.l1 k m.f8 (m.f8.length:Int) 0 bt.1 bt.2)) (P:=insS) (c:=5) (M:=1099511000000) m.f7 (fun x _ s N h=>insS_b x h) (fun i ha s r hb hr=>?_) (fun s r hr=>Ev.step (fun k=>by rw [impl_writer_method.l0,if_neg (by omega)]) hr) _ (N+6) h6 (by omega) ?_
  · have e1:rd_T77 m.f7 (i:Int)=m.f7[i]:=getD_at ha
    exact Ev.step (fun k=>by rw [impl_writer_method.l0,if_pos (by omega),if_pos (by omega),if_pos (by omega),e1,up64 ha (by omega)]) (Ev.bind (ins_implS s m.f7[i] 1099511000000 hb (by omega)) hr)
  have h7:=nm_b (m.f8.length:Int) hi
  refine Ev.bind (len_ev (g:=impl_Handler_57.f) (fun _=>rfl) m.f8) (Ev.bind (num_ev _ [(m.f8.length:Int)] _ hi (by simp;omega)) ?_)
  refine st_loop (L:=fun k i s=>impl_writer_method.l1 k m.f8 (m.f8.length:Int) i s.1 s.2) (Z:=fun _ s=>some s) (P:=hanS) (c:=4) (M:=1099511000000) m.f8 (fun x _ s N h=>hanS_b x h) (fun i ha s r hb hr=>?_) (fun s r hr=>Ev.step (fun k=>by rw [impl_writer_method.l1,if_neg (by omega)]) hr) _ _ h7 (by omega) (Ev.now _)
  have e1:rd_T81 m.f8 (i:Int)=m.f8[i]:=getD_at ha
  refine Ev.step (fun k=>by rw [impl_writer_method.l1,if_pos (by omega),if_pos (by omega),if_pos (by omega),e1,up64 ha (by omega)]) (Ev.bind (num_ev s [m.f8[i].f0,m.f8[i].f1,m.f8[i].f2] 1099511000000 hb (by simp)) (Ev.bind (text_implf _ [m.f8[i].f3] _ (nm_b m.f8[i].f2 (nm_b m.f8[i].f1 (nm_b m.f8[i].f0 hb))) (by simp)) hr))
theorem z_b:StB 0 (([],[]):St):=⟨Nat.le_refl _,Nat.le_refl _⟩
theorem write_implS (n u:ByteArray) (f b:Bool) (fs:List S45) (ms:List S34) (lf:fs.length≤8) (lm:ms.length≤10) (hm:∀ m∈ms,MOk m):Ev (fun k=>impl_write.f k n u f b fs ms) (clsS n u f b fs ms):=by
  have h2:=tx_b u (tx_b n z_b)
  have h4:=nm_b (fs.length:Int) (nm_b (fl3 f b false) h2)
  have h5:=fold_b (P:=fieldS) (c:=3) fs (fun x _ s N h=>fieldS_b x h) _ _ h4
  have h6:=nm_b (ms.length:Int) h5
  unfold impl_write.f
  refine Ev.bind (text_implf (([],[]):St) [n,u] 0 z_b (by simp)) (Ev.bind (flags_2 f b) (Ev.bind (len_ev (g:=impl_Field_30.f) (fun _=>rfl) fs) (Ev.bind (num_ev (tx (tx (([],[]):St) n) u) [fl3 f b false,(fs.length:Int)] _ h2 (by simp)) ?_)))
  refine st_loop (L:=fun k i s=>impl_write.l0 k fs (fs.length:Int) i n u f b fs ms s.1 s.2) (Z:=fun k s=>(impl_Method_31.f ms).bind fun t=>((impl_writer_num.f s.1 s.2 [t]).bind fun bt=>impl_write.l1 k ms (ms.length:Int) 0 bt.1 bt.2)) (P:=fieldS) (c:=3) (M:=100000) fs (fun x _ s N h=>fieldS_b x h) (fun i ha s r hb hr=>?_) (fun s r hr=>Ev.step (fun k=>by rw [impl_write.l0,if_neg (by omega)]) hr) _ _ h4 (by omega) ?_
  · have e1:rd_T45 fs (i:Int)=fs[i]:=getD_at ha
    have hb2:=tx_b fs[i].f1 (tx_b fs[i].f0 hb)
    exact Ev.step (fun k=>by rw [impl_write.l0,if_pos (by omega),if_pos (by omega),if_pos (by omega),e1,up64 ha (by omega)]) (Ev.bind (text_implf s [fs[i].f0,fs[i].f1] _ hb (by simp)) (Ev.bind (flags_1 fs[i].f2) (Ev.bind (num_ev (tx (tx s fs[i].f0) fs[i].f1) [fl3 fs[i].f2 false false] _ hb2 (by simp)) hr)))
  refine Ev.bind (len_ev (g:=impl_Method_31.f) (fun _=>rfl) ms) (Ev.bind (num_ev _ [(ms.length:Int)] _ h5 (by simp;omega)) ?_)
  refine st_loop (L:=fun k i s=>impl_write.l1 k ms (ms.length:Int) i s.1 s.2) (Z:=fun _ s=>some s) (P:=methS) (c:=400) (M:=100000) ms (fun x hx s N h=>methS_b x (hm x hx) h) (fun i ha s r hb hr=>?_) (fun s r hr=>Ev.step (fun k=>by rw [impl_write.l1,if_neg (by omega)]) hr) _ _ h6 (by omega) (Ev.now _)
  have e1:rd_T34 ms (i:Int)=ms[i]:=getD_at ha
  exact Ev.step (fun k=>by rw [impl_write.l1,if_pos (by omega),if_pos (by omega),if_pos (by omega),e1,up64 ha (by omega)]) (Ev.bind (meth_implS s ms[i] (hm _ (List.getElem_mem ha)) _ hb (by omega)) hr)
theorem made_specS (n u:ByteArray) (f b:Bool) (fs:List S45) (ms:List S34) (lf:fs.length≤8) (lm:ms.length≤10) (hm:∀ m∈ms,MOk m):Ev (fun k=>spec_l04Made.f k n u f b fs ms) (clsS n u f b fs ms):=by
  have h2:=tx_b u (tx_b n z_b)
  have h3:=nm_b (fl3 f b false) h2
  have h4:=nm_b (fs.length:Int) h3
  have h5:=fold_b (P:=fieldS) (c:=3) fs (fun x _ s N h=>fieldS_b x h) _ _ h4
  have h6:=nm_b (ms.length:Int) h5
  unfold spec_l04Made.f spec_l04Maker_class.f
  refine Ev.bind (Ev.bind (stext_ev (([],[]):St) n 0 z_b (by omega)) (Ev.bind (stext_ev _ u _ (tx_b n z_b) (by omega)) (Ev.bind (flags_spec f b false) (Ev.bind (snum_ev _ (fl3 f b false) _ h2 (by omega)) (Ev.bind (snum_ev _ (fs.length:Int) _ h3 (by omega)) ?_))))) (Ev.now _)
  refine st_loop (L:=fun k i s=>spec_l04Maker_class.l0 k i s.1 s.2 n u f b fs ms) (Z:=fun k s=>(spec_l04Maker_num.f s.1 s.2 (ms.length:Int)).bind fun bt=>spec_l04Maker_class.l1 k 0 bt.1 bt.2 n u f b fs ms) (P:=fieldS) (c:=3) (M:=100000) fs (fun x _ s N h=>fieldS_b x h) (fun i ha s r hb hr=>?_) (fun s r hr=>Ev.step (fun k=>by rw [spec_l04Maker_class.l0,if_neg (by omega)]) hr) _ _ h4 (by omega) ?_
  · have e1:rd_T45 fs (i:Int)=fs[i]:=getD_at ha
    have hb1:=tx_b fs[i].f0 hb
    have hb2:=tx_b fs[i].f1 hb1
    exact Ev.step (fun k=>by rw [spec_l04Maker_class.l0,if_pos (by omega),if_pos (by omega),e1,up64 ha (by omega)]) (Ev.bind (stext_ev s fs[i].f0 _ hb (by omega)) (Ev.bind (stext_ev _ fs[i].f1 _ hb1 (by omega)) (Ev.bind (flags_spec fs[i].f2 false false) (Ev.bind (snum_ev _ (fl3 fs[i].f2 false false) _ hb2 (by omega)) hr))))
  refine Ev.bind (snum_ev _ (ms.length:Int) _ h5 (by omega)) ?_
  refine st_loop (L:=fun k i s=>spec_l04Maker_class.l1 k i s.1 s.2 n u f b fs ms) (Z:=fun _ s=>some s) (P:=methS) (c:=400) (M:=100000) ms (fun x hx s N h=>methS_b x (hm x hx) h) (fun i ha s r hb hr=>?_) (fun s r hr=>Ev.step (fun k=>by rw [spec_l04Maker_class.l1,if_neg (by omega)]) hr) _ _ h6 (by omega) (Ev.now _)
  have e1:rd_T34 ms (i:Int)=ms[i]:=getD_at ha
  obtain ⟨l7,l8,hn⟩:=hm _ (List.getElem_mem ha)
  generalize ms[i]=m at e1 l7 l8 hn hr
  have g1:=tx_b m.f0 hb
  have g2:=tx_b m.f1 g1
  have g3:=nm_b (fl3 m.f2 m.f3 m.f4) g2
  have g4:=nm_b m.f5 g3
  have g5:=nm_b m.f6 g4
  have g6:=nm_b (m.f7.length:Int) g5
  have g7:=fold_b (P:=insS) (c:=5) m.f7 (fun x _ s N h=>insS_b x h) _ _ g6
  have g8:=nm_b (m.f8.length:Int) g7
  refine Ev.step (fun k=>by rw [spec_l04Maker_class.l1,if_pos (by omega),if_pos (by omega),e1]) (Ev.bind (stext_ev s m.f0 _ hb (by omega)) (Ev.bind (stext_ev _ m.f1 _ g1 (by omega)) (Ev.bind (flags_spec m.f2 m.f3 m.f4) (Ev.bind (snum_ev _ (fl3 m.f2 m.f3 m.f4) _ g2 (by omega)) (Ev.bind (snum_ev _ m.f5 _ g3 (by omega)) (Ev.bind (snum_ev _ m.f6 _ g4 (by omega)) (Ev.bind (snum_ev _ (m.f7.length:Int) _ g5 (by omega)) ?_)))))))
  refine st_loop (L:=fun k j s=>spec_l04Maker_class.l2 k (i:Int) j s.1 s.2 n u f b fs ms m.f0 m.f1 m.f2 m.f3 m.f4 m.f5 m.f6 m.f7 m.f8) (Z:=fun k s=>(spec_l04Maker_num.f s.1 s.2 (m.f8.length:Int)).bind fun bt=>spec_l04Maker_class.l3 k (i:Int) 0 bt.1 bt.2 n u f b fs ms m.f0 m.f1 m.f2 m.f3 m.f4 m.f5 m.f6 m.f7 m.f8) (P:=insS) (c:=5) (M:=200000) m.f7 (fun x _ s N h=>insS_b x h) (fun j hj s r hb hr=>?_) (fun s r hr=>Ev.step (fun k=>by rw [spec_l04Maker_class.l2,if_neg (by omega)]) hr) _ _ g6 (by omega) ?_
  · have e2:rd_T77 m.f7 (j:Int)=m.f7[j]:=getD_at hj
    exact Ev.step (fun k=>by rw [spec_l04Maker_class.l2,if_pos (by omega),if_pos (by omega),e2,up64 hj (by omega)]) (Ev.bind (ins_specS s m.f7[j] (hn _ (List.getElem_mem hj)) _ hb (by omega)) hr)
  refine Ev.bind (snum_ev _ (m.f8.length:Int) _ g7 (by omega)) ?_
  refine st_loop (L:=fun k j s=>spec_l04Maker_class.l3 k (i:Int) j s.1 s.2 n u f b fs ms m.f0 m.f1 m.f2 m.f3 m.f4 m.f5 m.f6 m.f7 m.f8) (Z:=fun k s=>spec_l04Maker_class.l1 k ((i+1:Nat):Int) s.1 s.2 n u f b fs ms) (P:=hanS) (c:=4) (M:=200000) m.f8 (fun x _ s N h=>hanS_b x h) (fun j hj s r hb hr=>?_) (fun s r hr=>Ev.step (fun k=>by rw [spec_l04Maker_class.l3,if_neg (by omega),up64 ha (by omega)]) hr) _ _ g8 (by omega) hr
  have e2:rd_T81 m.f8 (j:Int)=m.f8[j]:=getD_at hj
  have b1:=nm_b m.f8[j].f0 hb
  have b2:=nm_b m.f8[j].f1 b1
  have b3:=nm_b m.f8[j].f2 b2
  exact Ev.step (fun k=>by rw [spec_l04Maker_class.l3,if_pos (by omega),if_pos (by omega),e2,up64 hj (by omega)]) (Ev.bind (snum_ev s m.f8[j].f0 _ hb (by omega)) (Ev.bind (snum_ev _ m.f8[j].f1 _ b1 (by omega)) (Ev.bind (snum_ev _ m.f8[j].f2 _ b2 (by omega)) (Ev.bind (stext_ev _ m.f8[j].f3 _ b3 (by omega)) hr))))
theorem ins_num {x:S77} (h:InsP x):NumIn x:=by
  intro F hF c
  obtain ⟨K,hK⟩:=h
  obtain ⟨F',hF',hS⟩:=op_form x.f0
  obtain rfl:F=F':=Option.some.inj (hF.symm.trans hF')
  have e:=hK (max K 16) (by omega)
  simp only [] at e
  unfold spec_InsRight.f at e
  rw [hS _ (by omega),Option.bind_some,if_neg (by rw [c];decide),if_pos c] at e
  cases h1:spec_l01Int.f x.f1 with
  | none=>rw [h1] at e;cases e
  | some t =>
    rw [h1,Option.bind_some] at e
    cases t with
    | true=>rfl
    | false=>rw [if_neg (by decide)] at e;cases e
theorem meth_ok {m:S34} (h:MethB m):MOk m:=by
  have h2:=h.2
  unfold BodyP at h2
  by_cases c:m.f3=true
  · rw [if_pos c] at h2
    refine ⟨by omega,by omega,fun x hx=>?_⟩
    rw [List.eq_nil_of_length_eq_zero h2.2.2.1] at hx
    cases hx
  · rw [if_neg c] at h2
    exact ⟨h2.1.2.1,h2.1.2.2.1,fun x hx=>ins_num (h2.1.2.2.2.1 x hx).1⟩
theorem class_right_both (n s:ByteArray) (f b:Bool) (fs:List S45) (ms:List S34) (hn:n.size≤1048576) (hs:s.size≤1048576) (l4:fs.length≤1048576) (l5:ms.length≤1048576) (hm:∀ x∈ms,MAll x) (hf:∀ x∈fs,FSz x):
    ∃ r,Ev (fun k=>spec_ClassRight.f k n s f b fs ms) r∧Ev (fun k=>impl_ClassRight.f k n s f b fs ms) r∧(r=true→fs.length≤8∧ms.length≤10∧∀ m∈ms,MOk m):=by
  have y1:EvIff (fun k=>spec_ClassRight.j0 k true n s f b fs ms) False:=EvIff.step (f:=fun _=>some false) (fun k=>by simp only [spec_ClassRight.j0,↓reduceIte]) EvIff.no
  have n1:EvIff (fun k=>spec_ClassRight.j0 k false n s f b fs ms) (LoopP b fs ms):=EvIff.step (f:=fun k=>spec_ClassRight.l0 k 0 n s f b fs ms) (fun k=>by simp only [spec_ClassRight.j0];rw [if_neg (by simp)]) (class_loops_spec n s f b fs ms l4 l5 hm hf)
  obtain ⟨r1,e1,i1⟩:EvIff (fun k=>spec_ClassRight.f k n s f b fs ms) _:=EvIff.congr (fun k=>rfl) (class_head (N:=fun k t=>spec_NameRight.f k t) (J:=fun k t=>spec_ClassRight.j0 k t n s f b fs ms) n s f b fs.length ms.length (name_spec n hn) (name_spec s hs) y1 n1)
  obtain ⟨r,q1,q2⟩:=class_right_same n s f b fs ms hn hs l4 l5 hm hf
  refine ⟨r,q1,q2,fun hr=>?_⟩
  obtain ⟨_,_,_,_,a4,a5,hL⟩:=i1.mp ((Ev.one e1 q1).trans hr)
  refine ⟨a4,a5,fun m hm2=>?_⟩
  obtain ⟨i,hi,rfl⟩:=List.mem_iff_getElem.mp hm2
  have e:ms.getD i z34=ms[i]:=by simp [List.getD_eq_getElem?_getD,hi]
  exact meth_ok (e ▸ (hL.2 i hi).1)
def PR (s s':St):Prop:=s.1 <+: s'.1∧(s.1.Nodup→s'.1.Nodup)∧((∀ x∈s.1,x∈LX)→∀ x∈s'.1,x∈LX)
theorem PR.refl (s:St):PR s s:=⟨List.prefix_refl _,id,id⟩
theorem PR.trans {a b c:St} (h:PR a b) (k:PR b c):PR a c:=⟨h.1.trans k.1,fun x=>k.2.1 (h.2.1 x),fun x=>k.2.2 (h.2.2 x)⟩
theorem pr_nm (s:St) (n:Int):PR s (nm s n):=⟨List.prefix_refl _,id,id⟩
theorem fnd_none (t:ByteArray):∀ (l:List ByteArray) (i:Int),fnd_ t l i=none→t ∉ l
  | [],_,_=>by simp
  | x :: l, i, h => by
    rw [fnd_] at h
    by_cases e:x.toList=t.toList
    · rw [if_pos e] at h;cases h
    · rw [if_neg e] at h
      have:=fnd_none t l _ h
      simp only [List.mem_cons,not_or]
      exact ⟨fun hh=>e (by rw [hh]),this⟩
theorem fnd_some (t:ByteArray):∀ (l:List ByteArray) (i j:Int),fnd_ t l i=some j→t∈l
  | [],_,_,h=>by cases h
  | x :: l, i, j, h => by
    rw [fnd_] at h
    by_cases e:x.toList=t.toList
    · rw [(toList_eq _ _).mp e];exact List.mem_cons_self
    · rw [if_neg e] at h
      exact List.mem_cons_of_mem _ (fnd_some t l _ _ h)
theorem pr_tx (s:St) {t:ByteArray} (ht:t∈LX):PR s (tx s t):=by
  unfold tx
  cases hf:fnd_ t s.1 0 with
  | some i=>exact ⟨List.prefix_refl _,id,id⟩
  | none =>
    have hn:=fnd_none t s.1 0 hf
    refine ⟨List.prefix_append _ _,fun h=>?_,fun h x hx=>?_⟩
    · exact List.nodup_append.mpr ⟨h,by simp,fun a ha b hb=>by rw [List.mem_singleton.mp hb];intro e;exact hn (e ▸ ha)⟩
    · rcases List.mem_append.mp hx with hx|hx
      · exact h x hx
      · rw [List.mem_singleton.mp hx];exact ht
theorem tx_mem (s:St) (t:ByteArray):t∈(tx s t).1:=by
  unfold tx
  cases hf:fnd_ t s.1 0 with
  | some i=>exact fnd_some t s.1 0 i hf
  | none=>exact List.mem_append_right _ (List.mem_singleton.mpr rfl)
theorem pr_fold {α:Type} {P:St→α→St}:∀ (a:List α),(∀ x∈a,∀ s,PR s (P s x))→∀ s,PR s (a.foldl P s)
  | [],_,s=>PR.refl s
  | x :: a, h, s => by
    rw [List.foldl_cons]
    exact (h x List.mem_cons_self s).trans (pr_fold a (fun y hy=>h y (List.mem_cons_of_mem _ hy)) _)
theorem pr_ins (s:St) {x:S77} (h:IX x):PR s (insS s x):=by
  obtain ⟨h1,h2,h3⟩:=h
  unfold insS
  cases impl_OpForm.f x.f0 with
  | none=>exact PR.refl s
  | some F =>
    simp only []
    unfold insP
    have b1:∀ s t,t∈LX→PR s (tx s t):=fun s t ht=>pr_tx s ht
    have b3:PR (nm s x.f0) (tx (tx (tx (nm s x.f0) x.f2) x.f3) x.f4):=((b1 _ _ h1).trans (b1 _ _ h2)).trans (b1 _ _ h3)
    repeat' split
    all_goals first|exact pr_nm _ _|exact (pr_nm _ _).trans (pr_nm _ _)|exact (pr_nm _ _).trans (b1 _ _ h1)|exact (pr_nm _ _).trans (b1 _ _ h3)|exact (pr_nm _ _).trans b3|exact ⟨List.prefix_refl _,id,id⟩
theorem pr_meth (s:St) {m:S34} (h:MX m):PR s (methS s m)∧m.f0∈(methS s m).1:=by
  obtain ⟨h0,h1,⟨_,h2⟩,_,h3⟩:=h
  unfold methS
  have a1:PR (tx s m.f0) (m.f8.foldl hanS (nm (m.f7.foldl insS (nm (nm (nm (nm (tx (tx s m.f0) m.f1) (fl3 m.f2 m.f3 m.f4)) m.f5) m.f6) (m.f7.length:Int))) (m.f8.length:Int))):=by
    refine (pr_tx _ h1).trans (((pr_nm _ _).trans ((pr_nm _ _).trans ((pr_nm _ _).trans (pr_nm _ _)))).trans ((pr_fold m.f7 (fun x hx s=>pr_ins s (h2 x hx)) _).trans ((pr_nm _ _).trans (pr_fold m.f8 (fun x hx s=>?_) _))))
    exact ((pr_nm _ _).trans ((pr_nm _ _).trans (pr_nm _ _))).trans (pr_tx _ (h3 x hx))
  exact ⟨(pr_tx _ h0).trans a1,a1.1.subset (tx_mem _ _)⟩
theorem pr_meths:∀ (ms:List S34),(∀ m∈ms,MX m)→∀ s,PR s (ms.foldl methS s)∧∀ m∈ms,m.f0∈(ms.foldl methS s).1
  | [],_,s=>⟨PR.refl s,fun m hm=>absurd hm (by simp)⟩
  | x :: ms, h, s => by
    rw [List.foldl_cons]
    obtain ⟨a1,a2⟩:=pr_meth s (h x List.mem_cons_self)
    obtain ⟨b1,b2⟩:=pr_meths ms (fun m hm=>h m (List.mem_cons_of_mem _ hm)) (methS s x)
    refine ⟨a1.trans b1,fun m hm=>?_⟩
    rcases List.mem_cons.mp hm with rfl|hm
    · exact b1.1.subset a2
    · exact b2 m hm
theorem len_le:∀ (l m:List ByteArray),l.Nodup→(∀ x∈l,x∈m)→l.length≤m.length
  | [],_,_,_=>by simp
  | x :: l, m, hn, h => by
    have hx:=h x List.mem_cons_self
    rw [List.nodup_cons] at hn
    obtain ⟨a,b,rfl⟩:=List.append_of_mem hx
    have:=len_le l (a++b) hn.2 (fun y hy=>by
      have h1:=h y (List.mem_cons_of_mem _ hy)
      rcases List.mem_append.mp h1 with h1|h1
      · exact List.mem_append_left _ h1
      · rcases List.mem_cons.mp h1 with h1|h1
        · exact absurd (h1 ▸ hy) hn.1
        · exact List.mem_append_right _ h1)
    simp only [List.length_append,List.length_cons] at this ⊢;omega
theorem lx_len:LX.length≤100:=by decide +kernel
theorem pool_facts (n u:ByteArray) (f b:Bool) (fs:List S45) (ms:List S34) (hn:n∈LX) (hu:u∈LX) (ne:n≠u) (hf:∀ x∈fs,FX x) (hm:∀ m∈ms,MX m):
    (clsS n u f b fs ms).1.Nodup∧(clsS n u f b fs ms).1.length≤100∧[n,u] <+: (clsS n u f b fs ms).1∧∀ m∈ms,m.f0∈(clsS n u f b fs ms).1:=by
  unfold clsS
  have e:(tx (tx (([],[]):St) n) u).1=[n,u]:=by
    have e1:tx (([],[]):St) n=([n],[0]):=rfl
    rw [e1]
    unfold tx
    have e2:fnd_ u [n] 0=none:=by rw [fnd_,if_neg (fun h=>ne ((toList_eq _ _).mp h))];rfl
    simp only [e2];rfl
  have h0:PR (tx (tx (([],[]):St) n) u) (nm (fs.foldl fieldS (nm (nm (tx (tx (([],[]):St) n) u) (fl3 f b false)) (fs.length:Int))) (ms.length:Int)):=
    ((pr_nm _ _).trans (pr_nm _ _)).trans ((pr_fold fs (fun x hx s=>((pr_tx s (hf x hx).1).trans (pr_tx _ (hf x hx).2)).trans (pr_nm _ _)) _).trans (pr_nm _ _))
  obtain ⟨h1,h2⟩:=pr_meths ms hm (nm (fs.foldl fieldS (nm (nm (tx (tx (([],[]):St) n) u) (fl3 f b false)) (fs.length:Int))) (ms.length:Int))
  have h3:=h0.trans h1
  have d:=h3.2.1 (by rw [e];simp [ne])
  have l:=h3.2.2 (by rw [e];intro x hx;simp only [List.mem_cons,List.not_mem_nil,or_false] at hx;rcases hx with rfl|rfl <;> assumption)
  exact ⟨d,Nat.le_trans (len_le _ LX d l) lx_len,e ▸ h3.1,h2⟩
theorem class_right_more (n s:ByteArray) (f b:Bool) (fs:List S45) (ms:List S34) (hn:n.size≤1048576) (hs:s.size≤1048576) (l4:fs.length≤1048576) (l5:ms.length≤1048576) (hm:∀ x∈ms,MAll x) (hf:∀ x∈fs,FSz x):
    ∃ r,Ev (fun k=>spec_ClassRight.f k n s f b fs ms) r∧Ev (fun k=>impl_ClassRight.f k n s f b fs ms) r∧(r=true→n≠s∧fs.length≤8∧ms.length≤10∧∀ m∈ms,MOk m):=by
  have y1:EvIff (fun k=>spec_ClassRight.j0 k true n s f b fs ms) False:=EvIff.step (f:=fun _=>some false) (fun k=>by simp only [spec_ClassRight.j0,↓reduceIte]) EvIff.no
  have n1:EvIff (fun k=>spec_ClassRight.j0 k false n s f b fs ms) (LoopP b fs ms):=EvIff.step (f:=fun k=>spec_ClassRight.l0 k 0 n s f b fs ms) (fun k=>by simp only [spec_ClassRight.j0];rw [if_neg (by simp)]) (class_loops_spec n s f b fs ms l4 l5 hm hf)
  obtain ⟨r1,e1,i1⟩:EvIff (fun k=>spec_ClassRight.f k n s f b fs ms) _:=EvIff.congr (fun k=>rfl) (class_head (N:=fun k t=>spec_NameRight.f k t) (J:=fun k t=>spec_ClassRight.j0 k t n s f b fs ms) n s f b fs.length ms.length (name_spec n hn) (name_spec s hs) y1 n1)
  obtain ⟨r,q1,q2,q3⟩:=class_right_both n s f b fs ms hn hs l4 l5 hm hf
  refine ⟨r,q1,q2,fun hr=>⟨fun e=>?_,q3 hr⟩⟩
  obtain ⟨_,_,a3,_⟩:=i1.mp ((Ev.one e1 q1).trans hr)
  exact a3 (by rw [e])
def cnt (x:ByteArray) (ms:List S34):Nat:=ms.countP (fun m=>decide (m.f0=x))
def tot:List ByteArray→List S34→Nat
  | [],_=>0
  | x :: p,ms=>cnt x ms+tot p ms
theorem cnt_le (x:ByteArray) (ms:List S34):cnt x ms≤ms.length:=List.countP_le_length
theorem tot_nil:∀ p,tot p []=0
  | []=>rfl
  | x :: p=>by rw [tot,tot_nil p];rfl
theorem tot_cons (m:S34) (ms:List S34):∀ p:List ByteArray,tot p (m :: ms)=p.countP (fun x=>decide (m.f0=x))+tot p ms
  | []=>rfl
  | x :: p => by
    rw [tot,tot,tot_cons m ms p,List.countP_cons]
    unfold cnt
    rw [List.countP_cons]
    omega
theorem one_in (x:ByteArray):∀ p:List ByteArray,p.Nodup→x∈p→p.countP (fun y=>decide (x=y))=1
  | [],_,h=>by simp at h
  | y :: p, hn, h => by
    rw [List.nodup_cons] at hn
    rw [List.countP_cons]
    by_cases e:x=y
    · subst e
      have z:p.countP (fun y=>decide (x=y))=0:=List.countP_eq_zero.mpr (fun a ha=>by simp only [decide_eq_true_eq];intro e;exact hn.1 (e ▸ ha))
      rw [z];simp
    · rcases List.mem_cons.mp h with h|h
      · exact absurd h e
      · rw [one_in x p hn.2 h];simp [e]
theorem tot_all (p:List ByteArray) (hp:p.Nodup):∀ ms:List S34,(∀ m∈ms,m.f0∈p)→tot p ms=ms.length
  | [],_=>tot_nil p
  | m :: ms, h => by
    rw [tot_cons,one_in m.f0 p hp (h m List.mem_cons_self),tot_all p hp ms (fun x hx=>h x (List.mem_cons_of_mem _ hx)),List.length_cons];omega
section
variable (p:List ByteArray) (n u:ByteArray) (f b:Bool) (fs:List S45) (ms:List S34) (hp:p.Nodup) (lp:p.length≤200) (lm:ms.length≤10)
include lp lm in
theorem pool_l2 (i:Nat) (hi:i < p.length) (r:Bool) (d:Nat):∀ (j has:Nat),j+d=ms.length→has+d≤100000→Ev (fun k=>laws_FnPool.l0 k p ((has+cnt p[i] (ms.drop j):Nat):Int) ((i+1:Nat):Int) n u f b fs ms) r→Ev (fun k=>laws_FnPool.l2 k p (has:Int) (i:Int) (j:Int) n u f b fs ms) r:=by
  induction d with
  | zero =>
    intro j has hd hh h
    obtain rfl:j=ms.length:=by omega
    rw [List.drop_length] at h
    exact Ev.step (fun k=>by rw [laws_FnPool.l2,if_neg (by omega),up64 hi (by omega)];rfl) h
  | succ d ih =>
    intro j has hd hh h
    have hj:j < ms.length:=by omega
    have er:rd_T34 ms (j:Int)=ms[j]:=getD_at hj
    have e2:rdOf ByteArray.empty p (i:Int)=p[i]:=by rw [rdOf_at _ _ _ (by simpa using hi)];rfl
    have w:wrap64 ((has:Int)+1)=((has+1:Nat):Int):=by unfold wrap64;omega
    rw [List.drop_eq_getElem_cons hj] at h
    unfold cnt at h
    rw [List.countP_cons] at h
    refine Ev.step (fun k=>by rw [laws_FnPool.l2,if_pos (by omega),if_pos (by omega),if_pos (by omega),if_pos (by omega),er,e2,up64 hj (by omega),w]) ?_
    by_cases c:ms[j].f0=p[i]
    · refine Ev.congr (fun k=>if_pos (by rw [c])) (ih (j+1) (has+1) (by omega) (by omega) ?_)
      unfold cnt
      rw [show has+1+List.countP (fun m=>decide (m.f0=p[i])) (ms.drop (j+1))=has+(List.countP (fun m=>decide (m.f0=p[i])) (ms.drop (j+1))+if decide (ms[j].f0=p[i])=true then 1 else 0) by rw [if_pos (decide_eq_true c)];omega]
      exact h
    · refine Ev.congr (fun k=>if_neg (fun e=>c ((toList_eq _ _).mp e))) (ih (j+1) has (by omega) (by omega) ?_)
      unfold cnt
      rw [show has+List.countP (fun m=>decide (m.f0=p[i])) (ms.drop (j+1))=has+(List.countP (fun m=>decide (m.f0=p[i])) (ms.drop (j+1))+if decide (ms[j].f0=p[i])=true then 1 else 0) by rw [if_neg (by simpa using c)];omega]
      exact h
include hp lp in
theorem pool_l1 (i:Nat) (hi:i < p.length) (r:Bool) (has:Nat) (h:Ev (fun k=>laws_FnPool.l2 k p (has:Int) (i:Int) 0 n u f b fs ms) r) (d:Nat):∀ j,j+d=i→Ev (fun k=>laws_FnPool.l1 k p (has:Int) (i:Int) (j:Int) n u f b fs ms) r:=by
  induction d with
  | zero =>
    intro j hd
    exact Ev.step (fun k=>by rw [laws_FnPool.l1,if_neg (by omega)]) h
  | succ d ih =>
    intro j hd
    have hj:j < p.length:=by omega
    have e1:rdOf ByteArray.empty p (j:Int)=p[j]:=by rw [rdOf_at _ _ _ (by simpa using hj)];rfl
    have e2:rdOf ByteArray.empty p (i:Int)=p[i]:=by rw [rdOf_at _ _ _ (by simpa using hi)];rfl
    have ne:p[j]≠p[i]:=fun e=>by have:=(List.getElem_inj hp).mp e;omega
    exact Ev.step (fun k=>by rw [laws_FnPool.l1,if_pos (by omega),if_pos (by omega),if_pos (by omega),if_pos (by omega),if_pos (by omega),e1,e2,if_neg (fun e=>ne ((toList_eq _ _).mp e)),up64 hj (by omega)]) (ih (j+1) (by omega))
include hp lp lm in
theorem pool_l0 (d:Nat):∀ (i has:Nat),i+d=p.length→has≤20*i→Ev (fun k=>laws_FnPool.l0 k p (has:Int) (i:Int) n u f b fs ms) (((has+tot (p.drop i) ms:Nat):Int) == (ms.length:Int)):=by
  induction d with
  | zero =>
    intro i has hd hh
    obtain rfl:i=p.length:=by omega
    rw [List.drop_length]
    exact Ev.step (f:=fun _=>some ((has:Int) == (ms.length:Int))) (fun k=>by rw [laws_FnPool.l0,if_neg (by omega)]) (Ev.now _)
  | succ d ih =>
    intro i has hd hh
    have hi:i < p.length:=by omega
    rw [List.drop_eq_getElem_cons hi,tot]
    refine Ev.step (fun k=>by rw [laws_FnPool.l0,if_pos (by omega)];rfl) (pool_l1 p n u f b fs ms hp lp i hi _ has (pool_l2 p n u f b fs ms lp lm i hi _ ms.length 0 has (by omega) (by omega) ?_) i 0 (by omega))
    have h:=ih (i+1) (has+cnt p[i] ms) (by omega) (by have:=cnt_le p[i] ms;omega)
    rw [List.drop_zero,show has+(cnt p[i] ms+tot (p.drop (i+1)) ms)=has+cnt p[i] ms+tot (p.drop (i+1)) ms by omega]
    exact h
end
theorem FnPool:laws_FnPool.Pure:=by
  intro l0 _ hl _
  refine Ev.rounds ?_
  by_cases c:(l0.length:Int) > 1048576
  · exact Ev.congr (f:=fun _=>some true) (fun k=>if_pos c) (Ev.now _)
  refine Ev.congr (fun k=>if_neg c) ?_
  have hb:l0.length≤140737488355328:=by omega
  obtain ⟨m,z,es⟩:=draw_source l0 hb
  have e1:Ev (fun k=>spec_l01Source.f k l0) (l0,0,m,z):=⟨65,fun k hk=>at_rounds (g:=fun k=>spec_l01Source.f k l0) (fun k=>spec_l01Source.mono l0 k) hk es⟩
  obtain ⟨⟨n,u,f,b,fs,ms,i',m',z'⟩,e2,⟨hn,hu⟩,⟨l4,hf⟩,⟨l5,hm⟩,_⟩:=draw_class l0 hb 0 m z (⟨#[65]⟩:ByteArray) (⟨#[79,98,106,101,99,116]⟩:ByteArray) (by omega) (by simp [LX,LW]) (by simp [LX,LW])
  simp only [] at hn hu l4 hf l5 hm
  have ed:Ev (fun k=>spec_DrawPoolOf.f k l0) (n,u,f,b,fs,ms):=Ev.congr (fun k=>rfl) (Ev.bind e1 (Ev.bind e2 (Ev.now _)))
  have z1:∀ {s:ByteArray},s∈LX→s.size≤1048576:=fun hs=>by have:=lx_size _ hs;omega
  obtain ⟨t,t1,t2,t3⟩:=class_right_more n u f b fs ms (z1 hn) (z1 hu) (by omega) (by omega) (fun x hx=>mx_all (hm x hx)) (fun x hx=>⟨z1 (hf x hx).1,z1 (hf x hx).2⟩)
  cases t with
  | false =>
    have ip:Ev (fun k=>impl_PoolOf.f k n u f b fs ms) []:=by
      unfold impl_PoolOf.f
      exact Ev.bind t2 (Ev.congr (f:=fun _=>some []) (fun k=>if_neg (by simp)) (Ev.now _))
    exact Ev.bind ed (Ev.bind ip (Ev.bind t1 (Ev.congr (f:=fun _=>some true) (fun k=>if_neg (by simp)) (Ev.now _))))
  | true =>
    obtain ⟨ne,lf,lm,hk⟩:=t3 rfl
    obtain ⟨hd,hL,hx,hM⟩:=pool_facts n u f b fs ms hn hu ne hf hm
    have w1:=write_implS n u f b fs ms lf lm hk
    have w2:=made_specS n u f b fs ms lf lm hk
    have c2:¬ ((clsS n u f b fs ms).1.length:Int) > 200:=by omega
    have ip:Ev (fun k=>impl_PoolOf.f k n u f b fs ms) (clsS n u f b fs ms).1:=by
      unfold impl_PoolOf.f
      exact Ev.bind t2 (Ev.congr (fun k=>if_pos rfl) (Ev.bind w1 (Ev.congr (f:=fun _=>some (clsS n u f b fs ms).1) (fun k=>if_neg c2) (Ev.now _))))
    have sp:Ev (fun k=>spec_PoolOf.f k n u f b fs ms) (clsS n u f b fs ms).1:=by
      unfold spec_PoolOf.f
      exact Ev.bind t1 (Ev.congr (fun k=>if_pos rfl) (Ev.bind w2 (Ev.congr (f:=fun _=>some (clsS n u f b fs ms).1) (fun k=>if_neg c2) (Ev.now _))))
    generalize (clsS n u f b fs ms).1=p at hd hL hx hM ip sp
    obtain ⟨q,hq⟩:=hx
    have p2:2≤p.length:=by rw [← hq];simp
    have r0:rdOf ByteArray.empty p 0=n:=by rw [← hq];rfl
    have r1:rdOf ByteArray.empty p 1=u:=by rw [← hq];rfl
    have last:=pool_l0 p n u f b fs ms hd (by omega) lm p.length 0 0 (by omega) (by omega)
    rw [List.drop_zero,tot_all p hd ms hM,Nat.zero_add,beq_self_eq_true] at last
    refine Ev.bind ed (Ev.bind ip (Ev.bind t1 ?_))
    refine Ev.congr (fun k=>(if_pos rfl).trans ((if_neg (by omega)).trans ((if_pos (by omega)).trans ((if_pos (by rw [r0])).trans ((if_pos (by omega)).trans (if_pos (by rw [r1]))))))) ?_
    refine Ev.bind sp ?_
    rw [bne_self_eq_false]
    exact Ev.step (fun k=>by rw [laws_FnPool.j0,if_neg (by simp)];rfl) last
end Go.Proofs.Ythleflpkeigboaa.Pure
