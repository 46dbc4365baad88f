import Derived.Test.YtjjfpmapjjemcaaGreatQ20
import Derived.Test.YtjjfpmapjjemcaaGreatQ36
import Derived.Test.YtjjfpmapjjemcaaGreatQ7
set_option linter.unusedVariables false
set_option linter.unusedSimpArgs false
section
namespace Go.Proofs.YtjjfpmapjjemcaaGreat.B
open Go.RowKit Go.Proofs.YtjjfpmapjjemcaaGreatW.PrintWords Go.Proofs.YtjjfpmapjjemcaaGreatW.PrintLast Go.Proofs.YtjjfpmapjjemcaaGreatW.PrintMore
attribute [local go_sem] max2_int min2_int max_two min_two max_three min_three max_four min_four
section
open Go.ChangeShapes Go.WideShapes
theorem cellsOf66 : Tryz.prog.cellsOf 66 = 2:=by kernel_rfl
theorem cellsOf137 : Tryz.prog.cellsOf 137 = 3:=by kernel_rfl
theorem cell_take2 {cs : List Value} {i : Nat} {v u : Value} (h : (cs.drop i).take 2 = [v,u]) : cs[i]? = some v ∧ cs[i + 1]? = some u:=by
 have h1:=congrArg (fun l => l[0]?) h
 have h2:=congrArg (fun l => l[1]?) h
 exact ⟨by simpa [List.getElem?_take,List.getElem?_drop] using h1,by simpa [List.getElem?_take,List.getElem?_drop] using h2⟩
theorem opens66 : Opens k66 66 (fun x => W64 x.f0 ∧ W64 x.f1):=by
 intro H enc w base spare held fuel cs x h
 obtain ⟨xs,n,_,_,hl,hx,hf⟩:=DataW.trod_struct Tryz.underlying66 h
 rw [cellsOf66] at hl
 have f0:=hf 0 _ rfl
 have f1:=hf 1 _ rfl
 obtain ⟨y0,y1,rfl⟩ : ∃ y0 y1,xs = [y0,y1]:=by
  match xs,hx with
 |[a,b],_ => exact ⟨a,b,rfl⟩
 obtain ⟨n0,e0,_,w0⟩:=DataW.trod_int Tryz.underlying3 f0
 obtain ⟨n1,e1,_,w1⟩:=DataW.trod_int Tryz.underlying3 f1
 replace e0 : (cs.drop 0).take (Tryz.prog.cellsOf 3) = [ii n0]:=e0
 rw [cellsOf3] at e0
 replace e1 : (cs.drop 1).take (Tryz.prog.cellsOf 3) = [ii n1]:=e1
 rw [cellsOf3] at e1
 refine ⟨⟨n0,n1⟩,?_,w0,w1⟩
 rw [list2 hl (cell_take e0) (cell_take e1)]
 exact k66_mk w ⟨n0,n1⟩
def Wf137 (x : S137) : Prop:=W64 x.f0 ∧ W64 x.f1.f0 ∧ W64 x.f1.f1
theorem opens137 : Opens k137 137 Wf137:=by
 intro H enc w base spare held fuel cs x h
 obtain ⟨xs,n,_,_,hl,hx,hf⟩:=DataW.trod_struct Tryz.underlying137 h
 rw [cellsOf137] at hl
 have f0:=hf 0 _ rfl
 have f1:=hf 1 _ rfl
 obtain ⟨y0,y1,rfl⟩ : ∃ y0 y1,xs = [y0,y1]:=by
  match xs,hx with
 |[a,b],_ => exact ⟨a,b,rfl⟩
 obtain ⟨n0,e0,_,w0⟩:=DataW.trod_int Tryz.underlying3 f0
 obtain ⟨y,hk,w1,w2⟩:=opens66 f1
 have e1:=k66_open hk
 replace e0 : (cs.drop 0).take (Tryz.prog.cellsOf 3) = [ii n0]:=e0
 rw [cellsOf3] at e0
 replace e1 : (cs.drop 1).take (Tryz.prog.cellsOf 66) = [ii y.f0,ii y.f1]:=e1
 rw [cellsOf66] at e1
 obtain ⟨q1,q2⟩:=cell_take2 e1
 refine ⟨⟨n0,y⟩,?_,w0,w1,w2⟩
 rw [list3 hl (cell_take e0) q1 q2]
 exact k137_mk w ⟨n0,y⟩
theorem opens116 : Opens (Kd.slice 137 k137) 116 (fun xs => ∀ x ∈ xs,Wf137 x):=opens_slice opens137 cellsOf137 Tryz.underlying116
set_option maxRecDepth 100000 in
theorem arg137 {H : Type} {enc : TypeId × Value → H} {w : World} {base b0 : Nat} {r : Reach} {spare : Nat → Bool} {held : Bool} {v : Value} {dd : DataW H} {ps : List MemPlace}
  (hv : Value.okWide Tryz.prog w r b0 137 v) (h : DataW.Trod enc Tryz.prog w base spare held 137 v dd ps) : ∃ x : S137,v = .agg #[ii x.f0,ii x.f1.f0,ii x.f1.f1] ∧ Wf137 x:=by
 obtain ⟨cs,rfl,_⟩:=okWide_struct Tryz.underlying137 hv
 obtain ⟨fuel,hf⟩:=h
 obtain ⟨x,hk,ho⟩:=opens137 hf
 have he:=k137_open hk
 exact ⟨x,agg_of he,ho⟩
end
end Go.Proofs.YtjjfpmapjjemcaaGreat.B
end
