/- The law FnExactPoolOf returns true for every argument that can be read as data, out of its pure statement and the walk. Written by a program of this session. -/
import Derived.Test.YtljeeiijepoenaaGreatRows
import Derived.Test.YtljeeiijepoenaaGreatPFnExactPoolOfx24
import Derived.Test.YtljeeiijepoenaaGreatPureFnExactPoolOf
import Derived.Test.YtljeeiijepoenaaGreatVFnExactPoolOfOpens
import Derived.WalkKit
import Derived.ProofKit
import Derived.OpenShut
import Derived.ShutString
import Derived.ChangeOld
import Derived.Below
import Derived.SizedLaws
import Derived.Carry
namespace Go.Proofs.YtljeeiijepoenaaGreat.fnExactPoolOf
open Go.ChangeShapes Go.WideShapes Go.ChangeAt Go.RowKit Go.Proofs.YtljeeiijepoenaaGreat.PFnExactPoolOf Go.Proofs.YtljeeiijepoenaaGreatW.PrintWords Go.Proofs.YtljeeiijepoenaaGreatW.Opens
open Go.ChangeMaps (open_string shut_string)
set_option linter.unusedVariables false
theorem own:ownKnob Tryz.prog.godebug=none:=by kernel_rfl
theorem laidOut:laidOutB Tryz.prog=true:=by kernel_rfl
theorem op9:Opens Tryz.prog 9 Kd.string (fun s=>s.size≤maxLen):=opens_string Tryz.underlying9 (by kernel_rfl)
theorem op4:Opens Tryz.prog 4 Kd.bool (fun _=>True):=opens_bool Tryz.underlying4 (by kernel_rfl)
instance:Inhabited S105:=⟨z105⟩
theorem op105:Opens Tryz.prog 105 k105 ok105:=opens_struct (gi:=fun y=>(⟨y.1,y.2.1,y.2.2⟩:S105)) Tryz.underlying105 (by kernel_rfl) (fun _=>rfl) (opens_more rfl op9 (opens_more rfl op9 (opens_last rfl op4)))
theorem op34:Opens Tryz.prog 34 (Kd.slice 105 k105) (fun x=>(x.length≤maxLen∧∀ x_∈x,ok105 x_)):=opens_slice Tryz.underlying34 (by kernel_rfl) op105
theorem op2:Opens Tryz.prog 2 (Kd.int .i64) (fun n=>(Lit.int .i64 n).wf=true):=opens_int Tryz.underlying2 (by kernel_rfl)
instance:Inhabited S176:=⟨z176⟩
theorem op176:Opens Tryz.prog 176 k176 ok176:=opens_struct (gi:=fun y=>(⟨y.1,y.2.1,y.2.2.1,y.2.2.2.1,y.2.2.2.2⟩:S176)) Tryz.underlying176 (by kernel_rfl) (fun _=>rfl) (opens_more rfl op2 (opens_more rfl op2 (opens_more rfl op9 (opens_more rfl op9 (opens_last rfl op9)))))
theorem op107:Opens Tryz.prog 107 (Kd.slice 176 k176) (fun x=>(x.length≤maxLen∧∀ x_∈x,ok176 x_)):=opens_slice Tryz.underlying107 (by kernel_rfl) op176
instance:Inhabited S178:=⟨z178⟩
theorem op178:Opens Tryz.prog 178 k178 ok178:=opens_struct (gi:=fun y=>(⟨y.1,y.2.1,y.2.2.1,y.2.2.2⟩:S178)) Tryz.underlying178 (by kernel_rfl) (fun _=>rfl) (opens_more rfl op2 (opens_more rfl op2 (opens_more rfl op2 (opens_last rfl op9))))
theorem op108:Opens Tryz.prog 108 (Kd.slice 178 k178) (fun x=>(x.length≤maxLen∧∀ x_∈x,ok178 x_)):=opens_slice Tryz.underlying108 (by kernel_rfl) op178
instance:Inhabited S110:=⟨z110⟩
theorem op110:Opens Tryz.prog 110 k110 ok110:=opens_struct (gi:=fun y=>(⟨y.1,y.2.1,y.2.2.1,y.2.2.2.1,y.2.2.2.2.1,y.2.2.2.2.2.1,y.2.2.2.2.2.2.1,y.2.2.2.2.2.2.2.1,y.2.2.2.2.2.2.2.2⟩:S110)) Tryz.underlying110 (by kernel_rfl) (fun _=>rfl) (opens_more rfl op9 (opens_more rfl op9 (opens_more rfl op4 (opens_more rfl op4 (opens_more rfl op4 (opens_more rfl op2 (opens_more rfl op2 (opens_more rfl op107 (opens_last rfl op108)))))))))
theorem op35:Opens Tryz.prog 35 (Kd.slice 110 k110) (fun x=>(x.length≤maxLen∧∀ x_∈x,ok110 x_)):=opens_slice Tryz.underlying35 (by kernel_rfl) op110
instance:Inhabited S37:=⟨z37⟩
theorem op37:Opens Tryz.prog 37 k37 ok37:=opens_struct (gi:=fun y=>(⟨y.1,y.2.1,y.2.2.1,y.2.2.2.1,y.2.2.2.2.1,y.2.2.2.2.2⟩:S37)) Tryz.underlying37 (by kernel_rfl) (fun _=>rfl) (opens_more rfl op9 (opens_more rfl op9 (opens_more rfl op4 (opens_more rfl op4 (opens_more rfl op34 (opens_last rfl op35))))))
set_option maxRecDepth 100000 in
theorem lifted (os:Os) (started:os.Started) (H:Type) (enc:TypeId×Value→H):
    ReturnsInHanded {} Tryz.checked os 6 .any (Rows.fnExactPoolOfSpec.pre6 enc Tryz.prog Tryz.f6 Rows.fnExactPoolOfRow.domain false) (Rows.fnExactPoolOfSpec.post enc Tryz.prog Tryz.f6 false true false false):=by
  refine returnsInHanded_of_change_sized (C:=Tryz.checked) own started (by kernel_rfl) Tryz.func6
    (ChangeSpec.witness6 (enc:=enc) (C:=Tryz.checked) false ⟨#[],#[.agg #[.string ByteArray.empty,.string ByteArray.empty,.bool false,.bool false,.slice none 0 0,.slice none 0 0]],[]⟩ 8 (by kernel_rfl) (by kernel_rfl) (by kernel_rfl) (by kernel_rfl)) ?_
  intro W base args ds gs before hval0 hW hcnd hsz0 _
  have hval:∀ (j:Nat) t v,Tryz.f6.params[j]?=some t→args[j]?=some v→Value.okWide Tryz.prog W .any base t v:=hval0
  have hW':=hW
  obtain ⟨p,q,hA0,hV,rfl,hfz,hnd⟩:=hW
  have hA:DataW.TrodAll enc Tryz.prog W 0 (fun _=>true) true Tryz.f6.params.toList args.toList ds p:=hA0
  rw [Tryz.params6] at hA hval
  obtain ⟨v0,vs0,d0,ds0,p0,q0,hargs,rfl,rfl,h0,r0⟩:=trodAll_cons hA
  obtain ⟨rfl,rfl,rfl⟩:=trodAll_nil r0
  obtain rfl:args=#[v0]:=by cases args;simp_all
  obtain ⟨rfl,rfl⟩:=trodVars_none hV
  have k0:=h0
  have lt0:∀ x∈p0,x.block < W.heap.size:=by obtain ⟨m,hm⟩:=k0;exact DataW.trod_lt m _ _ _ hm
  obtain ⟨cs0,rfl,_⟩:=okWide_struct Tryz.underlying37 (hval 0 37 v0 rfl rfl)
  obtain ⟨x0,A0_4,c0_4,A0_5,c0_5,e0,g0_4,g0_5,b0⟩:∃ (x:S37) (A0_4:Option Addr) (c0_4:Nat) (A0_5:Option Addr) (c0_5:Nat),cs0.toList=[.string x.f0,.string x.f1,.bool x.f2,.bool x.f3,.slice A0_4 x.f4.length c0_4,.slice A0_5 x.f5.length c0_5]∧(x.f4.length≤c0_4∧Kd.C k105 W A0_4 x.f4.length x.f4)∧(x.f5.length≤c0_5∧Kd.C k110 W A0_5 x.f5.length x.f5)∧ok37 x:=by
    obtain ⟨m,hm⟩:=h0
    obtain ⟨x,hK_,hb_⟩:=op37.2 _ enc W m _ _ hm
    have hK2_:k37.K W x cs0.toList:=hK_
    obtain ⟨A4_,c4_,A5_,c5_,e_,l4_,g4_,l5_,g5_⟩:=k37_open hK2_
    exact ⟨x,A4_,c4_,A5_,c5_,e_,⟨l4_,g4_⟩,⟨l5_,g5_⟩,hb_⟩
  obtain rfl:cs0=#[.string x0.f0,.string x0.f1,.bool x0.f2,.bool x0.f3,.slice A0_4 x0.f4.length c0_4,.slice A0_5 x0.f5.length c0_5]:=by rw [← Array.toArray_toList (xs:=cs0),e0]
  clear e0
  clear hA0 hval0 hsz0
  obtain ⟨k,h⟩:=Pure.FnExactPoolOf x0 b0
  refine (laws_FnExactPoolOf.calls k x0.f0 x0.f1 x0.f2 x0.f3 _ _ x0.f4 _ _ x0.f5 true W g0_4.2 g0_4.1 g0_5.2 g0_5.1 rfl h).mono fun e W' ⟨he,bel0⟩=>?_
  have bel:Below W.heap.size W W':=bel0
  subst he
  exact ⟨_,rfl,_,_,_,[],_,[],hW',trodAll_mk1 (shut_bool Tryz.underlying4 _),(trodAll_cons_mk (Below.trod laidOut (by kernel_rfl) (of_decide_eq_true (by kernel_rfl)) k0 bel lt0) trodAll_mk0),rfl,bel.frame _,fun h=>by cases h⟩
theorem over:Rows.fnExactPoolOfRow.holds Tryz.pinned (OpenSpec.ofChange Rows.fnExactPoolOfSpec):=
  OpenClaim.holds_of_wide 6 Tryz.f6 rfl rfl rfl rfl rfl rfl rfl ⟨rfl,rfl,rfl,rfl,rfl⟩ rfl rfl rfl rfl rfl (by kernel_rfl) Tryz.func6 (by kernel_rfl)
    (of_decide_eq_true (by kernel_rfl)) (by unfold Func.isWrapper;first|(rw [if_pos (by decide +kernel)];kernel_rfl)|(rw [if_neg (by decide +kernel)];exact ⟨rfl,rfl⟩))
    (fun os started H enc _=>lifted os started H enc)
theorem proved:Rows.FnExactPoolOfSaid:=over
#print axioms proved
end Go.Proofs.YtljeeiijepoenaaGreat.fnExactPoolOf
namespace Go.Proofs.YtljeeiijepoenaaGreat
theorem fnExactPoolOf_holds:Rows.FnExactPoolOfSaid:=fnExactPoolOf.proved
end Go.Proofs.YtljeeiijepoenaaGreat
