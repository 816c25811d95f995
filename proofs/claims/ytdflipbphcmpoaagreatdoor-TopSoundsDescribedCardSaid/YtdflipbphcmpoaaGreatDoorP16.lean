/- A part of the proof of TopSoundsDescribed (texts Ys Yt Yu Yv Yw): an executor of the program's code, proved sound, and its runs. No condition. -/
import Derived.Test.YtdflipbphcmpoaaGreatDoorP15
set_option linter.unusedSimpArgs false
set_option linter.unusedVariables false
set_option maxRecDepth 100000
namespace Go.Sx
open Go.Proofs
def sndTS:List (Nat × List AV × AV):=[(19,[sndF],okF),(22,[sndF],sndFs)]
theorem sndTS_ok:AllKnown sndTS:=⟨kn19,kn22,trivial⟩
noncomputable abbrev ES:Env:=ET sndTS
theorem ES_ok:EnvOK Tryz.prog ES:=ET_ok sndTS_ok
theorem b9 {args:List AV} {M:Mem} (h:args.length=1):ev ES (.b 9 args M)=retF ES [.cA 2 5,.t 3,.cA 4 2] (ev ES (.c code9 (argTm 0 args) M)):=ev_body (show tab.get 9=some ⟨1,code9,[.cA 2 5,.t 3,.cA 4 2]⟩ by kernel_rfl) h
theorem f9 {ad:Bool} {args xs:List AV} {M:Mem} (h:frzVs M args=some xs):ev ES (.f ad 9 args M)=ownF ad args M (ev ES (.b 9 xs .zero)):=ev_own rfl rfl h
theorem b29 {args:List AV} {M:Mem} (h:args.length=1):ev ES (.b 29 args M)=retF ES [.cA 2 5,.t 3] (ev ES (.c code29 (argTm 0 args) M)):=ev_body (show tab.get 29=some ⟨1,code29,[.cA 2 5,.t 3]⟩ by kernel_rfl) h
theorem f29 {ad:Bool} {args xs:List AV} {M:Mem} (h:frzVs M args=some xs):ev ES (.f ad 29 args M)=ownF ad args M (ev ES (.b 29 xs .zero)):=ev_own rfl rfl h
theorem b74 {args:List AV} {M:Mem} (h:args.length=1):ev ES (.b 74 args M)=retF ES [.t 2,.t 3] (ev ES (.c code74 (argTm 0 args) M)):=ev_body (show tab.get 74=some ⟨1,code74,[.t 2,.t 3]⟩ by kernel_rfl) h
theorem f74 {ad:Bool} {args xs:List AV} {M:Mem} (h:frzVs M args=some xs):ev ES (.f ad 74 args M)=ownF ad args M (ev ES (.b 74 xs .zero)):=ev_own rfl rfl h
theorem b92 {args:List AV} {M:Mem} (h:args.length=2):ev ES (.b 92 args M)=retF ES [.t 4,.t 5] (ev ES (.c code92 (argTm 0 args) M)):=ev_body (show tab.get 92=some ⟨2,code92,[.t 4,.t 5]⟩ by kernel_rfl) h
theorem f92 {ad:Bool} {args xs:List AV} {M:Mem} (h:frzVs M args=some xs):ev ES (.f ad 92 args M)=ownF ad args M (ev ES (.b 92 xs .zero)):=ev_own rfl rfl h
theorem b128 {args:List AV} {M:Mem} (h:args.length=2):ev ES (.b 128 args M)=retF ES [.t 4] (ev ES (.c code128 (argTm 0 args) M)):=ev_body (show tab.get 128=some ⟨2,code128,[.t 4]⟩ by kernel_rfl) h
theorem f128 {ad:Bool} {args xs:List AV} {M:Mem} (h:frzVs M args=some xs):ev ES (.f ad 128 args M)=ownF ad args M (ev ES (.b 128 xs .zero)):=ev_own rfl rfl h
theorem b163 {args:List AV} {M:Mem} (h:args.length=2):ev ES (.b 163 args M)=retF ES [.t 4] (ev ES (.c code163 (argTm 0 args) M)):=ev_body (show tab.get 163=some ⟨2,code163,[.t 4]⟩ by kernel_rfl) h
theorem f163 {ad:Bool} {args xs:List AV} {M:Mem} (h:frzVs M args=some xs):ev ES (.f ad 163 args M)=ownF ad args M (ev ES (.b 163 xs .zero)):=ev_own rfl rfl h
theorem b75 {args:List AV} {M:Mem} (h:args.length=2):ev ES (.b 75 args M)=retF ES [.t 4] (ev ES (.c code75 (argTm 0 args) M)):=ev_body (show tab.get 75=some ⟨2,code75,[.t 4]⟩ by kernel_rfl) h
theorem f75 {ad:Bool} {args:List AV} {M:Mem}:ev ES (.f ad 75 args M)=ev ES (.b 75 args M):=ev_shared rfl rfl
theorem b76 {args:List AV} {M:Mem} (h:args.length=1):ev ES (.b 76 args M)=retF ES [.t 2] (ev ES (.c code76 (argTm 0 args) M)):=ev_body (show tab.get 76=some ⟨1,code76,[.t 2]⟩ by kernel_rfl) h
theorem f76 {ad:Bool} {args:List AV} {M:Mem}:ev ES (.f ad 76 args M)=ev ES (.b 76 args M):=ev_shared rfl rfl
theorem b77 {args:List AV} {M:Mem} (h:args.length=1):ev ES (.b 77 args M)=retF ES [.t 2] (ev ES (.c code77 (argTm 0 args) M)):=ev_body (show tab.get 77=some ⟨1,code77,[.t 2]⟩ by kernel_rfl) h
theorem f77 {ad:Bool} {args xs:List AV} {M:Mem} (h:frzVs M args=some xs):ev ES (.f ad 77 args M)=ownF ad args M (ev ES (.b 77 xs .zero)):=ev_own rfl rfl h
theorem b78 {args:List AV} {M:Mem} (h:args.length=2):ev ES (.b 78 args M)=retF ES [.t 4] (ev ES (.c code78 (argTm 0 args) M)):=ev_body (show tab.get 78=some ⟨2,code78,[.t 4]⟩ by kernel_rfl) h
theorem f78 {ad:Bool} {args xs:List AV} {M:Mem} (h:frzVs M args=some xs):ev ES (.f ad 78 args M)=ownF ad args M (ev ES (.b 78 xs .zero)):=ev_own rfl rfl h
theorem b79 {args:List AV} {M:Mem} (h:args.length=1):ev ES (.b 79 args M)=retF ES [.t 2] (ev ES (.c code79 (argTm 0 args) M)):=ev_body (show tab.get 79=some ⟨1,code79,[.t 2]⟩ by kernel_rfl) h
theorem f79 {ad:Bool} {args xs:List AV} {M:Mem} (h:frzVs M args=some xs):ev ES (.f ad 79 args M)=ownF ad args M (ev ES (.b 79 xs .zero)):=ev_own rfl rfl h
theorem b80 {args:List AV} {M:Mem} (h:args.length=2):ev ES (.b 80 args M)=retF ES [.t 4] (ev ES (.c code80 (argTm 0 args) M)):=ev_body (show tab.get 80=some ⟨2,code80,[.t 4]⟩ by kernel_rfl) h
theorem f80 {ad:Bool} {args:List AV} {M:Mem}:ev ES (.f ad 80 args M)=ev ES (.b 80 args M):=ev_shared rfl rfl
theorem b81 {args:List AV} {M:Mem} (h:args.length=1):ev ES (.b 81 args M)=retF ES [.t 2] (ev ES (.c code81 (argTm 0 args) M)):=ev_body (show tab.get 81=some ⟨1,code81,[.t 2]⟩ by kernel_rfl) h
theorem f81 {ad:Bool} {args:List AV} {M:Mem}:ev ES (.f ad 81 args M)=ev ES (.b 81 args M):=ev_shared rfl rfl
theorem b82 {args:List AV} {M:Mem} (h:args.length=1):ev ES (.b 82 args M)=retF ES [.t 2] (ev ES (.c code82 (argTm 0 args) M)):=ev_body (show tab.get 82=some ⟨1,code82,[.t 2]⟩ by kernel_rfl) h
theorem f82 {ad:Bool} {args xs:List AV} {M:Mem} (h:frzVs M args=some xs):ev ES (.f ad 82 args M)=ownF ad args M (ev ES (.b 82 xs .zero)):=ev_own rfl rfl h
theorem b118 {args:List AV} {M:Mem} (h:args.length=2):ev ES (.b 118 args M)=retF ES [.t 4] (ev ES (.c code118 (argTm 0 args) M)):=ev_body (show tab.get 118=some ⟨2,code118,[.t 4]⟩ by kernel_rfl) h
theorem f118 {ad:Bool} {args:List AV} {M:Mem}:ev ES (.f ad 118 args M)=ev ES (.b 118 args M):=ev_shared rfl rfl
theorem b83 {args:List AV} {M:Mem} (h:args.length=1):ev ES (.b 83 args M)=retF ES [.t 2] (ev ES (.c code83 (argTm 0 args) M)):=ev_body (show tab.get 83=some ⟨1,code83,[.t 2]⟩ by kernel_rfl) h
theorem f83 {ad:Bool} {args xs:List AV} {M:Mem} (h:frzVs M args=some xs):ev ES (.f ad 83 args M)=ownF ad args M (ev ES (.b 83 xs .zero)):=ev_own rfl rfl h
theorem b31 {args:List AV} {M:Mem} (h:args.length=2):ev ES (.b 31 args M)=retF ES [.t 4] (ev ES (.c code31 (argTm 0 args) M)):=ev_body (show tab.get 31=some ⟨2,code31,[.t 4]⟩ by kernel_rfl) h
theorem f31 {ad:Bool} {args xs:List AV} {M:Mem} (h:frzVs M args=some xs):ev ES (.f ad 31 args M)=ownF ad args M (ev ES (.b 31 xs .zero)):=ev_own rfl rfl h
theorem b25 {args:List AV} {M:Mem} (h:args.length=1):ev ES (.b 25 args M)=retF ES [.cA 2 2] (ev ES (.c code25 (argTm 0 args) M)):=ev_body (show tab.get 25=some ⟨1,code25,[.cA 2 2]⟩ by kernel_rfl) h
theorem f25 {ad:Bool} {args xs:List AV} {M:Mem} (h:frzVs M args=some xs):ev ES (.f ad 25 args M)=ownF ad args M (ev ES (.b 25 xs .zero)):=ev_own rfl rfl h
theorem b71 {args:List AV} {M:Mem} (h:args.length=1):ev ES (.b 71 args M)=retF ES [.t 2,.cA 3 2] (ev ES (.c code71 (argTm 0 args) M)):=ev_body (show tab.get 71=some ⟨1,code71,[.t 2,.cA 3 2]⟩ by kernel_rfl) h
theorem f71 {ad:Bool} {args xs:List AV} {M:Mem} (h:frzVs M args=some xs):ev ES (.f ad 71 args M)=ownF ad args M (ev ES (.b 71 xs .zero)):=ev_own rfl rfl h
theorem b116 {args:List AV} {M:Mem} (h:args.length=3):ev ES (.b 116 args M)=retF ES [.t 6,.cA 7 2] (ev ES (.c code116 (argTm 0 args) M)):=ev_body (show tab.get 116=some ⟨3,code116,[.t 6,.cA 7 2]⟩ by kernel_rfl) h
theorem f116 {ad:Bool} {args xs:List AV} {M:Mem} (h:frzVs M args=some xs):ev ES (.f ad 116 args M)=ownF ad args M (ev ES (.b 116 xs .zero)):=ev_own rfl rfl h
theorem b158 {args:List AV} {M:Mem} (h:args.length=1):ev ES (.b 158 args M)=retF ES [.t 2] (ev ES (.c code158 (argTm 0 args) M)):=ev_body (show tab.get 158=some ⟨1,code158,[.t 2]⟩ by kernel_rfl) h
theorem f158 {ad:Bool} {args xs:List AV} {M:Mem} (h:frzVs M args=some xs):ev ES (.f ad 158 args M)=ownF ad args M (ev ES (.b 158 xs .zero)):=ev_own rfl rfl h
theorem b117 {args:List AV} {M:Mem} (h:args.length=1):ev ES (.b 117 args M)=retF ES [.t 2] (ev ES (.c code117 (argTm 0 args) M)):=ev_body (show tab.get 117=some ⟨1,code117,[.t 2]⟩ by kernel_rfl) h
theorem f117 {ad:Bool} {args xs:List AV} {M:Mem} (h:frzVs M args=some xs):ev ES (.f ad 117 args M)=ownF ad args M (ev ES (.b 117 xs .zero)):=ev_own rfl rfl h
theorem b30 {args:List AV} {M:Mem} (h:args.length=1):ev ES (.b 30 args M)=retF ES [.cA 2 5] (ev ES (.c code30 (argTm 0 args) M)):=ev_body (show tab.get 30=some ⟨1,code30,[.cA 2 5]⟩ by kernel_rfl) h
theorem f30 {ad:Bool} {args:List AV} {M:Mem}:ev ES (.f ad 30 args M)=ev ES (.b 30 args M):=ev_shared rfl rfl
theorem b28 {args:List AV} {M:Mem} (h:args.length=2):ev ES (.b 28 args M)=retF ES [.cA 4 2] (ev ES (.c code28 (argTm 0 args) M)):=ev_body (show tab.get 28=some ⟨2,code28,[.cA 4 2]⟩ by kernel_rfl) h
theorem f28 {ad:Bool} {args xs:List AV} {M:Mem} (h:frzVs M args=some xs):ev ES (.f ad 28 args M)=ownF ad args M (ev ES (.b 28 xs .zero)):=ev_own rfl rfl h
theorem b35 {args:List AV} {M:Mem} (h:args.length=2):ev ES (.b 35 args M)=retF ES [.cA 4 2] (ev ES (.c code35 (argTm 0 args) M)):=ev_body (show tab.get 35=some ⟨2,code35,[.cA 4 2]⟩ by kernel_rfl) h
theorem f35 {ad:Bool} {args xs:List AV} {M:Mem} (h:frzVs M args=some xs):ev ES (.f ad 35 args M)=ownF ad args M (ev ES (.b 35 xs .zero)):=ev_own rfl rfl h
theorem b196 {args:List AV} {M:Mem} (h:args.length=2):ev ES (.b 196 args M)=retF ES [.t 3] (ev ES (.c code196 (argTm 0 args) M)):=ev_body (show tab.get 196=some ⟨2,code196,[.t 3]⟩ by kernel_rfl) h
theorem f196 {ad:Bool} {args:List AV} {M:Mem}:ev ES (.f ad 196 args M)=ev ES (.b 196 args M):=ev_shared rfl rfl
theorem b197 {args:List AV} {M:Mem} (h:args.length=2):ev ES (.b 197 args M)=retF ES [.t 4] (ev ES (.c code197 (argTm 0 args) M)):=ev_body (show tab.get 197=some ⟨2,code197,[.t 4]⟩ by kernel_rfl) h
theorem f197 {ad:Bool} {args:List AV} {M:Mem}:ev ES (.f ad 197 args M)=ev ES (.b 197 args M):=ev_shared rfl rfl
theorem b198 {args:List AV} {M:Mem} (h:args.length=1):ev ES (.b 198 args M)=retF ES [.t 2] (ev ES (.c code198 (argTm 0 args) M)):=ev_body (show tab.get 198=some ⟨1,code198,[.t 2]⟩ by kernel_rfl) h
theorem f198 {ad:Bool} {args:List AV} {M:Mem}:ev ES (.f ad 198 args M)=ev ES (.b 198 args M):=ev_shared rfl rfl
theorem b70 {args:List AV} {M:Mem} (h:args.length=2):ev ES (.b 70 args M)=retF ES [.t 4] (ev ES (.c code70 (argTm 0 args) M)):=ev_body (show tab.get 70=some ⟨2,code70,[.t 4]⟩ by kernel_rfl) h
theorem f70 {ad:Bool} {args xs:List AV} {M:Mem} (h:frzVs M args=some xs):ev ES (.f ad 70 args M)=ownF ad args M (ev ES (.b 70 xs .zero)):=ev_own rfl rfl h
theorem b115 {args:List AV} {M:Mem} (h:args.length=2):ev ES (.b 115 args M)=retF ES [.t 4] (ev ES (.c code115 (argTm 0 args) M)):=ev_body (show tab.get 115=some ⟨2,code115,[.t 4]⟩ by kernel_rfl) h
theorem f115 {ad:Bool} {args xs:List AV} {M:Mem} (h:frzVs M args=some xs):ev ES (.f ad 115 args M)=ownF ad args M (ev ES (.b 115 xs .zero)):=ev_own rfl rfl h
theorem b160 {args:List AV} {M:Mem} (h:args.length=2):ev ES (.b 160 args M)=retF ES [.t 4] (ev ES (.c code160 (argTm 0 args) M)):=ev_body (show tab.get 160=some ⟨2,code160,[.t 4]⟩ by kernel_rfl) h
theorem f160 {ad:Bool} {args:List AV} {M:Mem}:ev ES (.f ad 160 args M)=ev ES (.b 160 args M):=ev_shared rfl rfl
theorem b186 {args:List AV} {M:Mem} (h:args.length=2):ev ES (.b 186 args M)=retF ES [.t 4] (ev ES (.c code186 (argTm 0 args) M)):=ev_body (show tab.get 186=some ⟨2,code186,[.t 4]⟩ by kernel_rfl) h
theorem f186 {ad:Bool} {args xs:List AV} {M:Mem} (h:frzVs M args=some xs):ev ES (.f ad 186 args M)=ownF ad args M (ev ES (.b 186 xs .zero)):=ev_own rfl rfl h
theorem b44 {args:List AV} {M:Mem} (h:args.length=2):ev ES (.b 44 args M)=retF ES [.t 4] (ev ES (.c code44 (argTm 0 args) M)):=ev_body (show tab.get 44=some ⟨2,code44,[.t 4]⟩ by kernel_rfl) h
theorem f44 {ad:Bool} {args xs:List AV} {M:Mem} (h:frzVs M args=some xs):ev ES (.f ad 44 args M)=ownF ad args M (ev ES (.b 44 xs .zero)):=ev_own rfl rfl h
theorem b34 {args:List AV} {M:Mem} (h:args.length=1):ev ES (.b 34 args M)=retF ES [.t 2] (ev ES (.c code34 (argTm 0 args) M)):=ev_body (show tab.get 34=some ⟨1,code34,[.t 2]⟩ by kernel_rfl) h
theorem f34 {ad:Bool} {args xs:List AV} {M:Mem} (h:frzVs M args=some xs):ev ES (.f ad 34 args M)=ownF ad args M (ev ES (.b 34 xs .zero)):=ev_own rfl rfl h
theorem b159 {args:List AV} {M:Mem} (h:args.length=2):ev ES (.b 159 args M)=retF ES [.t 4] (ev ES (.c code159 (argTm 0 args) M)):=ev_body (show tab.get 159=some ⟨2,code159,[.t 4]⟩ by kernel_rfl) h
theorem f159 {ad:Bool} {args xs:List AV} {M:Mem} (h:frzVs M args=some xs):ev ES (.f ad 159 args M)=ownF ad args M (ev ES (.b 159 xs .zero)):=ev_own rfl rfl h
theorem b72 {args:List AV} {M:Mem} (h:args.length=1):ev ES (.b 72 args M)=retF ES [.t 2] (ev ES (.c code72 (argTm 0 args) M)):=ev_body (show tab.get 72=some ⟨1,code72,[.t 2]⟩ by kernel_rfl) h
theorem f72 {ad:Bool} {args xs:List AV} {M:Mem} (h:frzVs M args=some xs):ev ES (.f ad 72 args M)=ownF ad args M (ev ES (.b 72 xs .zero)):=ev_own rfl rfl h
end Go.Sx
namespace Go.Sx
variable {E:Env}
theorem byteCells_nil:byteCells []=[]:=rfl
theorem byteCells_cons {b:Nat} {l:List Nat}:byteCells (b :: l)=.int .u8 (b:Int) :: byteCells l:=rfl
theorem byteCells_len {l:List Nat}:(byteCells l).length=l.length:=by simp [byteCells]
theorem byteCells_drop {l:List Nat} {k:Nat}:(byteCells l).drop k=byteCells (l.drop k):=by simp [byteCells]
theorem byteCells_take {l:List Nat} {k:Nat}:(byteCells l).take k=byteCells (l.take k):=by simp [byteCells]
theorem byteCells_append {l r:List Nat}:byteCells (l ++ r)=byteCells l ++ byteCells r:=by simp [byteCells]
theorem byteCells_oneA {l:List Nat}:(byteCells l).all oneA=true:=by
 induction l with
 | nil=>rfl
 | cons b l ih=>simp [byteCells_cons,oneA,ih]
theorem bytesOf_cells:∀ {l:List Nat},(∀ b∈l,b < 256)→bytesOf (byteCells l)=some l
 | [],_=>rfl
 | b :: l,h=>by
  have hb:=h b (List.mem_cons_self ..)
  simp only [byteCells_cons,bytesOf]
  rw [if_pos ⟨by omega,by omega⟩,bytesOf_cells fun x hx=>h x (List.mem_cons_of_mem _ hx)]
  simp
theorem purL0_bytes:∀ {l:List Nat},purL0 (byteCells l)=some (byteCells l)
 | []=>rfl
 | b :: l=>by simp only [byteCells_cons,purL0,purC0,Option.bind_some,purL0_bytes,Option.map_some]
def pureC:AV→Prop
 | .int .. | .str _ | .bool _ | .nilp | .nils | .nilf | .nili=>True
 | .sl t e _ _=>(t=0∨t=1)∧e=0
 | _=>False
theorem purC0_pure {v:AV} (h:pureC v):purC0 v=some v:=by
 cases v <;> first | rfl | cases h; done | skip
 rename_i t e n cs
 obtain ⟨h,rfl⟩:=h
 rcases h with rfl | rfl <;> rfl
theorem purL0_pure:∀ {l:List AV},(∀ v∈l,pureC v)→purL0 l=some l
 | [],_=>rfl
 | v :: r,h=>by
  simp only [purL0,purC0_pure (h v (List.mem_cons_self ..)),Option.bind_some,purL0_pure fun x hx=>h x (List.mem_cons_of_mem _ hx),Option.map_some]
theorem frzC_pure {M:Mem} {v:AV} (h:pureC v):frzC M v=some v:=by
 cases v <;> first | rfl | cases h; done | skip
 rename_i t e n cs
 obtain ⟨h,rfl⟩:=h
 rcases h with rfl | rfl <;> rfl
theorem frzL_pure {M:Mem}:∀ {l:List AV},(∀ v∈l,pureC v)→frzL M l=some l
 | [],_=>rfl
 | v :: r,h=>by
  simp only [frzL,frzC_pure (h v (List.mem_cons_self ..)),Option.bind_some,frzL_pure fun x hx=>h x (List.mem_cons_of_mem _ hx),Option.map_some]
def Gro (z:Nat) (M:Mem) (v:AV) (m:Nat) (cells:List AV):Prop:=
 cells.length=m * z∧((m=0∧v=.nils)∨(0 < m∧∃ k,v=.sl (k + 2) m m cells∧lookT M.toks k=some (m,z)))
theorem Gro.nil {z:Nat} {M:Mem}:Gro z M .nils 0 []:=⟨by simp,.inl ⟨rfl,rfl⟩⟩
theorem Gro.mem {z:Nat} {M M':Mem} {v:AV} {m:Nat} {cells:List AV} (h:Gro z M v m cells) (ht:M'.toks=M.toks):Gro z M' v m cells:=by
 unfold Gro at *
 rw [ht]
 exact h
def SameB (M M':Mem):Prop:=M'.boxes=M.boxes∧M'.nb=M.nb∧M'.nl=M.nl∧M'.log=M.log
theorem SameB.refl (M:Mem):SameB M M:=⟨rfl,rfl,rfl,rfl⟩
theorem SameB.trans {M M1 M2:Mem} (h:SameB M M1) (k:SameB M1 M2):SameB M M2:=⟨k.1.trans h.1,k.2.1.trans h.2.1,k.2.2.1.trans h.2.2.1,k.2.2.2.trans h.2.2.2⟩
theorem SameB.get {M M':Mem} (h:SameB M M') (b:Nat):M'.get b=M.get b:=by unfold Mem.get; rw [h.1]
theorem SameB.wr {M M':Mem} (h:SameB M M'):wrOf M M'=[]:=by simp [wrOf,h.2.1,h.2.2.1]
theorem Gro.app {z bytes:Nat} {M:Mem} {v:AV} {m j:Nat} {cells ys:List AV} (h:Gro z M v m cells) (hy:purL0 ys=some ys) (hl:ys.length=j * z) (hj:0 < j) (hb:(m + j) * bytes≤140737488355328) (hb2:m + j≤140737488355328) :
  ∃ v' M',appV false M z bytes v j ys=some (v',M')∧Gro z M' v' (m + j) (cells ++ ys)∧SameB M M':=by
 obtain ⟨hc,h⟩:=h
 have hj0:¬ j=0:=by omega
 rcases h with ⟨rfl,rfl⟩ | ⟨hm,k,rfl,hk⟩
 ·have hc0:cells=[]:=List.eq_nil_of_length_eq_zero (by rw [hc]; simp)
  subst hc0
  refine ⟨.sl (M.nt + 2) j j ys,M.tok j z,?_,⟨by simpa using hl,.inr ⟨by omega,M.nt,by simp,?_⟩⟩,⟨rfl,rfl,rfl,rfl⟩⟩
  ·unfold appV
   rw [if_neg hj0]
   simp only [Bool.false_eq_true,if_false,hy,Option.map_some]
   rw [if_pos ⟨by simpa using hb,by simpa using hb2⟩]
  ·simp [Mem.tok,lookT]
 ·refine ⟨.sl (k + 2) (m + j) (m + j) (cells ++ ys),M.bump k (m + j),?_,⟨by rw [List.length_append,hc,hl,Nat.add_mul],.inr ⟨by omega,k,rfl,?_⟩⟩,⟨rfl,rfl,rfl,rfl⟩⟩
  ·unfold appV
   rw [if_neg hj0]
   have h1:Nat.beq cells.length (m * z)=true:=by rw [hc]; exact Nat.beq_refl _
   simp only [h1,Bool.not_true,Bool.false_eq_true,if_false,hk,Nat.beq_refl,Bool.and_self,if_true,hy,Option.map_some]
   rw [if_pos ⟨hb,hb2⟩]
  ·show lookT (setT M.toks k (m + j)) k=_
   rw [lookT_set,if_pos rfl,hk]
   rfl
theorem Gro.frz {z:Nat} {M M1:Mem} {v:AV} {m:Nat} {cells:List AV} (h:Gro z M v m cells):frzC M1 v=some (if m=0 then .nils else .sl 0 0 m cells):=by
 obtain ⟨hc,h⟩:=h
 rcases h with ⟨rfl,rfl⟩ | ⟨hm,k,rfl,hk⟩
 ·rfl
 ·rw [if_neg (by omega)]
  rfl
theorem shl8 {b:Int} {k:IntKind} (h0:0≤b) (h1:b < 256):binA .shl (.int .i64 b) (.int k 8)=some (.int .i64 (b * 256)):=by
 rw [bin_shl]
 have:IntKind.i64.wrap (b * 2 ^ (Nat.min (8:Int).toNat IntKind.i64.bits))=b * 256:=by
  have e:(2:Int) ^ (Nat.min (8:Int).toNat IntKind.i64.bits)=256:=by decide
  rw [e,wrap_i64] <;> omega
 simp only [shBin]
 rw [if_neg (by decide),this]
theorem or_disj {a c k:Nat} (hc:c < 2 ^ k):a * 2 ^ k ||| c=a * 2 ^ k + c:=by
 rw [← Nat.shiftLeft_eq,Nat.shiftLeft_add_eq_or_of_lt hc]
theorem or_bytes {b c:Nat} (hb:b < 256) (hc:c < 256):binA .or (.int .i64 ((b:Int) * 256)) (.int .i64 (c:Int))=some (.int .i64 ((b * 256 + c:Nat):Int)):=by
 rw [bin_or]
 have e:(BitVec.ofInt IntKind.i64.bits ((b:Int) * 256) ||| BitVec.ofInt IntKind.i64.bits (c:Int)).toNat=b * 256 + c:=by
  show (BitVec.ofInt 64 ((b:Int) * 256) ||| BitVec.ofInt 64 (c:Int)).toNat=_
  have e1:BitVec.ofInt 64 ((b:Int) * 256)=BitVec.ofNat 64 (b * 256):=by
   rw [show ((b:Int) * 256)=((b * 256:Nat):Int) by omega]
   exact BitVec.ofInt_natCast 64 _
  have e2:BitVec.ofInt 64 (c:Int)=BitVec.ofNat 64 c:=BitVec.ofInt_natCast 64 _
  rw [e1,e2,BitVec.toNat_or,BitVec.toNat_ofNat,BitVec.toNat_ofNat,Nat.mod_eq_of_lt (by omega),Nat.mod_eq_of_lt (by omega)]
  exact or_disj (k:=8) hc
 rw [e,wrap_i64] <;> omega
theorem u8_lt {a b:Nat}:binA .lss (.int .u8 (a:Int)) (.int .u8 (b:Int))=some (.bool (decide (a < b))):=by
 rw [bin_lss]; simp
def b2sF (M:Mem) (v:AV):Option Out:=(elemsS M v).bind fun cs=>(bytesOf cs).bind fun l=>some (.val (.str l) M)
theorem so_b2s {tm:Tm} {M:Mem} {x:Opd}:stepOp E tm M (.b2s x)=o1 (b2sF M) (evx E tm x):=by
 simp only [stepOp]; cases evx E tm x <;> rfl
def bsl (l:List Nat):AV:=.sl 0 0 l.length (byteCells l)
def Bytes (l:List Nat):Prop:=∀ b∈l,b < 256
theorem b2sF_bsl {M:Mem} {l:List Nat} (hl:Bytes l):b2sF M (bsl l)=some (.val (.str l) M):=by
 have e:Nat.beq (byteCells l).length (l.length * 1)=true:=by rw [byteCells_len,Nat.mul_one]; exact Nat.beq_refl _
 simp only [b2sF,elemsS,elems,bsl,e,if_true,bytesOf_cells hl,Option.bind_some]
theorem natsEq_dec:∀ (x y:List Nat),natsEq x y=decide (x=y)
 | [],[]=>rfl
 | [],_ :: _=>rfl
 | _ :: _,[]=>rfl
 | a :: x,b :: y=>by
  simp only [natsEq,natsEq_dec x y,List.cons.injEq]
  by_cases h:a=b
  ·subst h; simp
  ·rw [beq_ne h]; simp [h]
theorem bin_seql {x y:List Nat}:binA .eql (.str x) (.str y)=some (.bool (decide (x=y))):=by
 rw [bin_str (by decide) (by decide)]; simp only [strBin,natsEq_dec]
theorem bin_sneq {x y:List Nat}:binA .neq (.str x) (.str y)=some (.bool (!decide (x=y))):=by
 rw [bin_str (by decide) (by decide)]; simp only [strBin,natsEq_dec]
theorem bin_sadd {x y:List Nat} (h:x.length + y.length≤9223372036854775807):binA .add (.str x) (.str y)=some (.str (x ++ y)):=by
 rw [bin_str (by decide) (by decide)]; simp only [strBin,h,if_true]
theorem un_not {b:Bool}:unA .not (.bool b)=some (.bool !b):=rfl
theorem lenK_bsl {l:List Nat}:lenK false (bsl l)=some l.length:=rfl
theorem boxOf_bsl {l:List Nat}:boxOf (bsl l)=[]:=rfl
def cutF (l:List Nat) (lo hi:Nat):AV:=bsl ((l.drop lo).take (hi - lo))
theorem slc_bsl {l:List Nat} {lo hi:Int} (h0:0≤lo) (h1:lo≤hi) (h2:hi≤l.length):slcV 1 (bsl l) (some (.int .i64 lo)) (some (.int .i64 hi)) none=some (cutF l lo.toNat hi.toNat):=by
 have e:Nat.beq (byteCells l).length (l.length * 1)=true:=by rw [byteCells_len,Nat.mul_one]; exact Nat.beq_refl _
 have hb:bounds l.length l.length (some (.int .i64 lo)) (some (.int .i64 hi)) none=some (lo.toNat,hi.toNat,l.length):=by
  simp only [bounds,natOf,h0,if_true,Option.bind_some,show (0:Int)≤hi by omega]
  rw [if_pos (by omega),Option.bind_some,if_pos (by omega)]
  rfl
 simp only [slcV,bsl,e,hb,Option.map_some,Bool.not_true,Bool.false_eq_true,if_false,Option.isSome_none,Bool.false_and,cutF,Nat.mul_one,byteCells_drop,byteCells_take,List.length_take,List.length_drop,Option.some.injEq]
 have e2:(if Nat.beq hi.toNat l.length && !false then 0 else 0:Nat)=0:=by split <;> rfl
 rw [e2]
 have e3:min (hi.toNat - lo.toNat) (l.length - lo.toNat)=hi.toNat - lo.toNat:=by omega
 rw [e3]
 have e4:Nat.beq (byteCells l).length l.length=true:=by rw [byteCells_len]; exact Nat.beq_refl _
 rw [e4]
 rfl
theorem slc_from {l:List Nat} {lo:Int} (h0:0≤lo) (h1:lo≤l.length):slcV 1 (bsl l) (some (.int .i64 lo)) none none=some (bsl (l.drop lo.toNat)):=by
 have e:Nat.beq (byteCells l).length (l.length * 1)=true:=by rw [byteCells_len,Nat.mul_one]; exact Nat.beq_refl _
 have hb:bounds l.length l.length (some (.int .i64 lo)) none none=some (lo.toNat,l.length,l.length):=by
  simp only [bounds,natOf,h0,if_true,Option.bind_some]
  rw [if_pos (by omega)]
  rfl
 simp only [slcV,bsl,e,hb,Option.map_some,Bool.not_true,Bool.false_eq_true,if_false,Option.isSome_none,Bool.false_and,Nat.mul_one,byteCells_drop,List.length_drop,Option.some.injEq]
 have e2:(if Nat.beq l.length l.length && !false then 0 else 0:Nat)=0:=by split <;> rfl
 rw [e2]
 have e3:(byteCells (l.drop lo.toNat)).take (l.length - lo.toNat)=byteCells (l.drop lo.toNat):=List.take_of_length_le (by rw [byteCells_len,List.length_drop]; omega)
 rw [e3]
 have e4:Nat.beq (byteCells l).length l.length=true:=by rw [byteCells_len]; exact Nat.beq_refl _
 rw [e4]
 rfl
theorem slc_to {l:List Nat} {hi:Int} (h0:0≤hi) (h2:hi≤l.length):slcV 1 (bsl l) none (some (.int .i64 hi)) none=some (bsl (l.take hi.toNat)):=by
 have e:Nat.beq (byteCells l).length (l.length * 1)=true:=by rw [byteCells_len,Nat.mul_one]; exact Nat.beq_refl _
 have hb:bounds l.length l.length none (some (.int .i64 hi)) none=some (0,hi.toNat,l.length):=by
  simp only [bounds,natOf,h0,if_true,Option.bind_some]
  rw [if_pos (by omega)]
  rfl
 simp only [slcV,bsl,e,hb,Option.map_some,Bool.not_true,Bool.false_eq_true,if_false,Option.isSome_none,Bool.false_and,Nat.mul_one,Nat.zero_mul,List.drop_zero,Nat.sub_zero,byteCells_take,List.length_take,Option.some.injEq]
 have e2:(if Nat.beq hi.toNat l.length && !false then 0 else 0:Nat)=0:=by split <;> rfl
 rw [e2]
 have e3:min hi.toNat l.length=hi.toNat:=by omega
 rw [e3]
 have e4:Nat.beq (byteCells l).length l.length=true:=by rw [byteCells_len]; exact Nat.beq_refl _
 rw [e4]
 rfl
theorem ia_bsl {M:Mem} {l:List Nat} {i b:Nat} (h:l[i]?=some b):iaF M 1 (bsl l) i=some (.val (.cp (.int .u8 (b:Int) :: byteCells (l.drop (i + 1)))) M):=by
 have hlt:=(List.getElem?_eq_some_iff.1 h)
 obtain ⟨hl,he⟩:=hlt
 have e:Nat.beq (byteCells l).length (l.length * 1)=true:=by rw [byteCells_len,Nat.mul_one]; exact Nat.beq_refl _
 have e1:Nat.ble (i + 1) l.length=true:=ble_true hl
 simp only [bsl,iaF,e,e1,Bool.and_self,ck_true,Nat.mul_one,byteCells_drop]
 have e4:Nat.beq (byteCells l).length l.length=true:=by rw [byteCells_len]; exact Nat.beq_refl _
 rw [← List.getElem_cons_drop hl,he,e4]
 rfl
theorem cells_bsl {l:List Nat}:(bsl l).cells=[bsl l]:=rfl
theorem cells_int {k:IntKind} {n:Int}:(AV.int k n).cells=[.int k n]:=rfl
theorem cells_bool {b:Bool}:(AV.bool b).cells=[.bool b]:=rfl
theorem cells_str {l:List Nat}:(AV.str l).cells=[.str l]:=rfl
theorem cells_nils:AV.nils.cells=[.nils]:=rfl
theorem cells_agg {l:List AV}:(AV.agg l).cells=l:=rfl
theorem oneA_bsl {l:List Nat}:oneA (bsl l)=true:=rfl
theorem oneA_int {k:IntKind} {n:Int}:oneA (.int k n)=true:=rfl
theorem oneA_nils:oneA .nils=true:=rfl
theorem oneA_str {l:List Nat}:oneA (.str l)=true:=rfl
theorem oneA_bool {b:Bool}:oneA (.bool b)=true:=rfl
theorem elems_is {M:Mem} {z t e n:Nat} {cs:List AV} (h:cs.length=n * z):elems M z (.sl t e n cs)=some cs:=by
 simp only [elems,h,Nat.beq_refl,if_true]
theorem gn_self {M:Mem} {x:Box}:(M.new x).get M.nb=some x:=by rw [Mem.get_new,if_pos rfl]
theorem gn_lt {M:Mem} {x:Box} {j:Nat} (h:j < M.nb):(M.new x).get j=M.get j:=by rw [Mem.get_new,if_neg (by omega)]
theorem gs_self {M:Mem} {b:Nat} {x y:Box} (h:M.get b=some x):(M.set b y).get b=some y:=by rw [Mem.get_set,if_pos rfl,h]; rfl
theorem gs_ne {M:Mem} {b j:Nat} {y:Box} (h:b≠j):(M.set b y).get j=M.get j:=by rw [Mem.get_set,if_neg h]
theorem gns_self {M:Mem} {x y:Box}:((M.new x).set M.nb y).get M.nb=some y:=gs_self gn_self
theorem gns_lt {M:Mem} {x y:Box} {j:Nat} (h:j < M.nb):((M.new x).set M.nb y).get j=M.get j:=by rw [gs_ne (by omega),gn_lt h]
theorem nbn_new {M:Mem} {x:Box}:(M.new x).nb=M.nb + 1:=rfl
theorem nbn_set {M:Mem} {b:Nat} {x:Box}:(M.set b x).nb=M.nb:=rfl
theorem nb0:Mem.zero.nb=0:=rfl
theorem gz0 {x:Box}:(Mem.zero.new x).get 0=some x:=rfl
def KeepM (M M':Mem):Prop:=M.nb≤M'.nb∧(∀ j,j < M.nb→M'.get j=M.get j)∧M'.toks=M.toks∧M'.nt=M.nt
theorem KeepM.refl (M:Mem):KeepM M M:=⟨Nat.le_refl _,fun _ _=>rfl,rfl,rfl⟩
theorem KeepM.trans {M M1 M2:Mem} (h:KeepM M M1) (k:KeepM M1 M2):KeepM M M2:=
 ⟨Nat.le_trans h.1 k.1,fun j hj=>(k.2.1 j (Nat.lt_of_lt_of_le hj h.1)).trans (h.2.1 j hj),k.2.2.1.trans h.2.2.1,k.2.2.2.trans h.2.2.2⟩
theorem KeepM.new (M:Mem) (x:Box):KeepM M (M.new x):=⟨Nat.le_succ _,fun _ hj=>gn_lt hj,rfl,rfl⟩
theorem EVb:(type_of% @so_b2s∧type_of% @bin_seql∧type_of% @bin_sneq∧type_of% @bin_sadd∧type_of% @un_not∧type_of% @lenK_bsl∧type_of% @boxOf_bsl∧type_of% @wrap_i64∧type_of% @Int.ofNat_lt∧type_of% @decide_true∧type_of% @decide_false∧type_of% @cells_bsl∧type_of% @oneA_bsl∧type_of% @cells_int∧type_of% @cells_bool∧type_of% @cells_str)∧(type_of% @cells_nils∧type_of% @cells_agg∧type_of% @oneA_int∧type_of% @oneA_nils∧type_of% @oneA_str∧type_of% @oneA_bool∧type_of% @List.length_cons.{0}∧type_of% @List.length_nil.{0}∧type_of% @List.all_cons.{0}∧type_of% @List.all_nil.{0}∧type_of% @List.take_zero.{0}∧type_of% @List.nil_append.{0}∧type_of% @List.cons_append.{0}∧type_of% @List.append_nil.{0}∧type_of% @List.drop_succ_cons.{0}∧type_of% @List.drop_zero.{0})∧(type_of% @List.take_succ_cons.{0}∧type_of% @List.drop_nil.{0}∧type_of% @Nat.beq_refl∧type_of% @elems.eq_2∧type_of% @gn_self∧type_of% @gns_self∧type_of% @nbn_new∧type_of% @nbn_set∧type_of% @nb0∧type_of% @gz0∧type_of% @List.getElem?_cons_zero.{0}∧type_of% @List.getElem?_cons_succ.{0}):=
 ⟨⟨@so_b2s,@bin_seql,@bin_sneq,@bin_sadd,@un_not,@lenK_bsl,@boxOf_bsl,@wrap_i64,@Int.ofNat_lt,@decide_true,@decide_false,@cells_bsl,@oneA_bsl,@cells_int,@cells_bool,@cells_str⟩,⟨@cells_nils,@cells_agg,@oneA_int,@oneA_nils,@oneA_str,@oneA_bool,@List.length_cons.{0},@List.length_nil.{0},@List.all_cons.{0},@List.all_nil.{0},@List.take_zero.{0},@List.nil_append.{0},@List.cons_append.{0},@List.append_nil.{0},@List.drop_succ_cons.{0},@List.drop_zero.{0}⟩,⟨@List.take_succ_cons.{0},@List.drop_nil.{0},@Nat.beq_refl,@elems.eq_2,@gn_self,@gns_self,@nbn_new,@nbn_set,@nb0,@gz0,@List.getElem?_cons_zero.{0},@List.getElem?_cons_succ.{0}⟩⟩
end Go.Sx
namespace Go.Sx
def pureV:AV→Prop
 | .agg cs=>∀ c∈cs,pureC c
 | v=>pureC v
theorem frzV_pure {M:Mem} {v:AV} (h:pureV v):frzV M v=some v:=by
 cases v with
 | agg cs=>simp only [frzV,frzL_pure (show ∀ c∈cs,pureC c from h),Option.map_some]
 | sl t e n cs=>exact frzC_pure (M:=M) (v:=.sl t e n cs) h
 | bool | int | str | nilp | nils | nilf | nili=>rfl
 | ptr | cp | ms | fn | iface | tup | any | yld=>cases h
theorem frzVs_pure {M:Mem}:∀ {l:List AV},(∀ v∈l,pureV v)→frzVs M l=some l
 | [],_=>rfl
 | v :: r,h=>by
  simp only [frzVs,frzV_pure (h v (List.mem_cons_self ..)),Option.bind_some,frzVs_pure fun x hx=>h x (List.mem_cons_of_mem _ hx),Option.map_some]
theorem hasMs_pure:∀ {l:List AV},(∀ v∈l,pureV v)→hasMs l=false
 | [],_=>rfl
 | v :: r,h=>by
  have ih:=hasMs_pure fun x hx=>h x (List.mem_cons_of_mem _ hx)
  have hv:=h v (List.mem_cons_self ..)
  have key:∀ {cs:List AV},(∀ c∈cs,pureC c)→hasMs.hasMs1 cs=false:=by
   intro cs
   induction cs with
   | nil=>intro _; rfl
   | cons c r ih=>
    intro h
    have hc:=h c (List.mem_cons_self ..)
    have:=ih fun x hx=>h x (List.mem_cons_of_mem _ hx)
    cases c with
    | agg | ptr | cp | ms | fn | iface | tup | any | yld=>cases hc
    | _=>exact this
  cases v with
  | agg cs=>simp only [hasMs,key (show ∀ c∈cs,pureC c from hv),ih,Bool.or_self]
  | ptr | cp | ms | fn | iface | tup | any | yld=>cases hv
  | _=>exact ih
theorem own_done {ad:Bool} {args:List AV} {M M1:Mem} {v v':AV} (hp:∀ x∈args,pureV x) (hv:adopt ad M1 M v=some (v',M)):ownF ad args M (some (.fn v M1))=some (.fn v' M):=by
 simp only [ownF,hv,Option.bind_some,hasMs_pure hp,Bool.false_and,Bool.false_eq_true,if_false]
theorem adopt_frz {ad:Bool} {M1 M:Mem} {v v':AV} (h:frz M1 v=some v') (hn:∀ k e n cs,v≠.sl (k + 2) e n cs):adopt ad M1 M v=some (v',M):=by
 unfold adopt
 split
 ·exact absurd rfl (hn _ _ _ _)
 ·rw [h]; rfl
theorem bsl_pure (l:List Nat):pureV (bsl l):=⟨.inl rfl,rfl⟩
theorem ev163 {ad:Bool} {x y:List Nat} {M:Mem} (hx:Bytes x) (hy:Bytes y):ev ES (.f ad 163 [bsl x,bsl y] M)=some (.fn (.bool (decide (x=y))) M):=by
 have hp:∀ v∈[bsl x,bsl y],pureV v:=by
  intro v hv
  simp only [List.mem_cons,List.not_mem_nil,or_false] at hv
  rcases hv with rfl | rfl <;> exact bsl_pure _
 rw [f163 (frzVs_pure hp),b163 rfl]
 have hb:retF ES [.t 4] (ev ES (.c code163 (argTm 0 [bsl x,bsl y]) .zero))=some (.fn (.bool (decide (x=y))) .zero):=by
  simp (maxSteps:=1000000) (disch:=omega) only [code163,EVa,EVb,oi,ou,wants,evx,evxs,evo,evparts,fillA,put,keepT,argTm,result,resAll,resOf,vO,boxF,binF,nilF,unF,lenF,callF,appF,mkIF,readsOf,boxAt,Nat.reduceEqDiff,reduceCtorEq,Nat.reduceBEq,Int.reduceToNat,Nat.reduceAdd,Nat.reduceLeDiff,Nat.reduceMul,b2sF_bsl hx,b2sF_bsl hy]
 rw [hb]
 exact own_done hp (adopt_frz rfl (by simp))
theorem Bytes.take {l:List Nat} (h:Bytes l) (n:Nat):Bytes (l.take n):=fun b hb=>h b (List.mem_of_mem_take hb)
theorem Bytes.drop {l:List Nat} (h:Bytes l) (n:Nat):Bytes (l.drop n):=fun b hb=>h b (List.mem_of_mem_drop hb)
theorem two_pure (x y:List Nat):∀ v∈[bsl x,bsl y],pureV v:=by
 intro v hv
 simp only [List.mem_cons,List.not_mem_nil,or_false] at hv
 rcases hv with rfl | rfl <;> exact bsl_pure _
theorem ev128 {ad:Bool} {l p:List Nat} {M:Mem} (hl:Bytes l) (hp:Bytes p) (hn:l.length < 9223372036854775808):ev ES (.f ad 128 [bsl l,bsl p] M)=some (.fn (.bool (decide (p.length≤l.length∧l.take p.length=p))) M):=by
 rw [f128 (frzVs_pure (two_pure l p)),b128 rfl]
 have hb:retF ES [.t 4] (ev ES (.c code128 (argTm 0 [bsl l,bsl p]) .zero))=some (.fn (.bool (decide (p.length≤l.length∧l.take p.length=p))) .zero):=by
  by_cases h:p.length≤l.length
  ·have h1:slcV 1 (bsl l) none (some (.int .i64 (p.length:Int))) none=some (bsl (l.take p.length)):=by
    rw [slc_to (by omega) (by omega),Int.toNat_natCast]
   simp (maxSteps:=1000000) (disch:=omega) only [code128,EVa,EVb,oi,ou,wants,evx,evxs,evo,evparts,fillA,put,keepT,argTm,result,resAll,resOf,vO,boxF,binF,nilF,unF,lenF,callF,appF,mkIF,readsOf,boxAt,Nat.reduceEqDiff,reduceCtorEq,Nat.reduceBEq,Int.reduceToNat,Nat.reduceAdd,Nat.reduceLeDiff,Nat.reduceMul,slcF.eq_1,h1,ev163 (hl.take p.length) hp,h,true_and]
  ·simp (maxSteps:=1000000) (disch:=omega) only [code128,EVa,EVb,oi,ou,wants,evx,evxs,evo,evparts,fillA,put,keepT,argTm,result,resAll,resOf,vO,boxF,binF,nilF,unF,lenF,callF,appF,mkIF,readsOf,boxAt,Nat.reduceEqDiff,reduceCtorEq,Nat.reduceBEq,Int.reduceToNat,Nat.reduceAdd,Nat.reduceLeDiff,Nat.reduceMul,h,false_and,decide_false]
 rw [hb]
 exact own_done (two_pure l p) (adopt_frz rfl (by simp))
theorem ev92 {ad:Bool} {l p:List Nat} {M:Mem} (hl:Bytes l) (hp:Bytes p) (hn:l.length < 9223372036854775808):ev ES (.f ad 92 [bsl l,bsl p] M)=some (.fn (.tup [if p.length≤l.length∧l.take p.length=p then bsl (l.drop p.length) else bsl l,.bool (decide (p.length≤l.length∧l.take p.length=p))]) M):=by
 rw [f92 (frzVs_pure (two_pure l p)),b92 rfl]
 have hb:retF ES [.t 4,.t 5] (ev ES (.c code92 (argTm 0 [bsl l,bsl p]) .zero))=some (.fn (.tup [if p.length≤l.length∧l.take p.length=p then bsl (l.drop p.length) else bsl l,.bool (decide (p.length≤l.length∧l.take p.length=p))]) .zero):=by
  by_cases h:p.length≤l.length∧l.take p.length=p
  ·have h1:slcV 1 (bsl l) (some (.int .i64 (p.length:Int))) none none=some (bsl (l.drop p.length)):=by
    rw [slc_from (by omega) (by omega),Int.toNat_natCast]
   simp (maxSteps:=1000000) (disch:=omega) only [code92,EVa,EVb,oi,ou,wants,evx,evxs,evo,evparts,fillA,put,keepT,argTm,result,resAll,resOf,vO,boxF,binF,nilF,unF,lenF,callF,appF,mkIF,readsOf,boxAt,Nat.reduceEqDiff,reduceCtorEq,Nat.reduceBEq,Int.reduceToNat,Nat.reduceAdd,Nat.reduceLeDiff,Nat.reduceMul,slcF.eq_1,h1,ev128 hl hp hn,h,and_self,decide_true]
  ·simp (maxSteps:=1000000) (disch:=omega) only [code92,EVa,EVb,oi,ou,wants,evx,evxs,evo,evparts,fillA,put,keepT,argTm,result,resAll,resOf,vO,boxF,binF,nilF,unF,lenF,callF,appF,mkIF,readsOf,boxAt,Nat.reduceEqDiff,reduceCtorEq,Nat.reduceBEq,Int.reduceToNat,Nat.reduceAdd,Nat.reduceLeDiff,Nat.reduceMul,ev128 hl hp hn,h,decide_false]
 rw [hb]
 refine own_done (two_pure l p) (adopt_frz ?_ (by simp))
 split <;> rfl
def chunks:Nat→List Nat→Option (List (Nat × List Nat))
 | 0,_=>none
 | k + 1,l=>if l=[0] then some [] else match l with
  | a :: b :: c :: r=>if 65≤a∧a≤90∧b * 256 + c≤r.length then (chunks k (r.drop (b * 256 + c))).map ((a,r.take (b * 256 + c)) :: ·) else none
  | _=>none
def chunkCells:List (Nat × List Nat)→List AV
 | []=>[]
 | (a,d) :: r=>.int .u8 (a:Int) :: bsl d :: chunkCells r
theorem chunkCells_append (x y:List (Nat × List Nat)):chunkCells (x ++ y)=chunkCells x ++ chunkCells y:=by
 induction x with
 | nil=>rfl
 | cons c r ih=>obtain ⟨a,d⟩:=c; simp [chunkCells,ih]
theorem chunkCells_len (x:List (Nat × List Nat)):(chunkCells x).length=x.length * 2:=by
 induction x with
 | nil=>rfl
 | cons c r ih=>obtain ⟨a,d⟩:=c; simp [chunkCells,ih]; omega
theorem chunkCells_pure (x:List (Nat × List Nat)):∀ v∈chunkCells x,pureC v:=by
 induction x with
 | nil=>intro v h; cases h
 | cons c r ih=>
  obtain ⟨a,d⟩:=c
  intro v h
  simp only [chunkCells,List.mem_cons] at h
  rcases h with rfl | rfl | h
  ·trivial
  ·exact ⟨.inl rfl,rfl⟩
  ·exact ih v h
def chunksV (x:List (Nat × List Nat)):AV:=if x.length=0 then .nils else .sl 0 0 x.length (chunkCells x)
theorem loop74:∀ (k:Nat) (l:List Nat) (out:AV) (cs:List (Nat × List Nat)) (M:Mem),Bytes l→l.length < k→l.length + 2 * cs.length < 1000000→Gro 2 M out cs.length (chunkCells cs) →
  ∃ v b M',ev ES (.c (.loop L74_0) [(4,bsl l),(6,out)] M)=some (.code .ret [(2,v),(3,.bool b)] M')∧(match chunks k l with
   | some r=>b=true∧Gro 2 M' v (cs ++ r).length (chunkCells (cs ++ r))
   | none=>b=false∧v=.nils):=by
 intro k
 induction k with
 | zero=>intro l out cs M hl hk; omega
 | succ k ih=>
  intro l out cs M hl hk hs hg
  rw [ev_loop]
  have fail:∀ {M:Mem},(¬ l=[0])→chunks (k + 1) l=none→ev ES (.c L74_0 [(4,bsl l),(6,out)] M)=some (.code .ret [(2,.nils),(3,.bool false)] M)→∃ v b M',seqF ES (.loop L74_0) (ev ES (.c L74_0 [(4,bsl l),(6,out)] M))=some (.code .ret [(2,v),(3,.bool b)] M')∧(match chunks (k + 1) l with
    | some r=>b=true∧Gro 2 M' v (cs ++ r).length (chunkCells (cs ++ r))
    | none=>b=false∧v=.nils):=fun h0 hc he=>⟨.nils,false,_,by rw [he]; rfl,by rw [hc]; exact ⟨rfl,rfl⟩⟩
  by_cases h0:l=[0]
  ·subst h0
   refine ⟨out,true,M,?_,?_⟩
   ·have h1:=ia_bsl (M:=M) (l:=[0]) (i:=0) (b:=0) rfl
    simp (maxSteps:=1000000) (disch:=omega) only [L74_0,EVa,EVb,oi,ou,wants,evx,evxs,evo,evparts,fillA,put,keepT,argTm,result,resAll,resOf,vO,boxF,binF,nilF,unF,lenF,callF,appF,mkIF,readsOf,boxAt,Nat.reduceEqDiff,reduceCtorEq,Nat.reduceBEq,Int.reduceToNat,Nat.reduceAdd,Nat.reduceLeDiff,Nat.reduceMul,h1,Int.natCast_one,Int.natCast_zero]
   ·simp [chunks,hg]
  ·match hL:l with
   | []=>
    refine fail h0 (by simp [chunks]) ?_
    simp (maxSteps:=1000000) (disch:=omega) only [L74_0,EVa,EVb,oi,ou,wants,evx,evxs,evo,evparts,fillA,put,keepT,argTm,result,resAll,resOf,vO,boxF,binF,nilF,unF,lenF,callF,appF,mkIF,readsOf,boxAt,Nat.reduceEqDiff,reduceCtorEq,Nat.reduceBEq,Int.reduceToNat,Nat.reduceAdd,Nat.reduceLeDiff,Nat.reduceMul,Int.natCast_zero]
   | [x]=>
    have hx:x≠0:=fun e=>h0 (by rw [e])
    have h1:=ia_bsl (M:=M) (l:=[x]) (i:=0) (b:=x) rfl
    refine fail h0 (by simp [chunks,hx]) ?_
    simp (maxSteps:=1000000) (disch:=omega) only [L74_0,EVa,EVb,oi,ou,wants,evx,evxs,evo,evparts,fillA,put,keepT,argTm,result,resAll,resOf,vO,boxF,binF,nilF,unF,lenF,callF,appF,mkIF,readsOf,boxAt,Nat.reduceEqDiff,reduceCtorEq,Nat.reduceBEq,Int.reduceToNat,Nat.reduceAdd,Nat.reduceLeDiff,Nat.reduceMul,h1,Int.natCast_one]
   | [x,y]=>
    refine fail h0 (by simp [chunks]) ?_
    simp (maxSteps:=1000000) (disch:=omega) only [L74_0,EVa,EVb,oi,ou,wants,evx,evxs,evo,evparts,fillA,put,keepT,argTm,result,resAll,resOf,vO,boxF,binF,nilF,unF,lenF,callF,appF,mkIF,readsOf,boxAt,Nat.reduceEqDiff,reduceCtorEq,Nat.reduceBEq,Int.reduceToNat,Nat.reduceAdd,Nat.reduceLeDiff,Nat.reduceMul]
   | a :: b :: c :: r=>
    rw [← hL] at hl hk hs fail ⊢
    have hlen:l.length=r.length + 3:=by rw [hL]; rfl
    have ha:a < 256:=hl a (by rw [hL]; simp)
    have hb:b < 256:=hl b (by rw [hL]; simp)
    have hc:c < 256:=hl c (by rw [hL]; simp)
    have i0:=ia_bsl (M:=M) (l:=l) (i:=0) (b:=a) (by rw [hL]; rfl)
    have i1:=ia_bsl (M:=M) (l:=l) (i:=1) (b:=b) (by rw [hL]; rfl)
    have i2:=ia_bsl (M:=M) (l:=l) (i:=2) (b:=c) (by rw [hL]; rfl)
    have hne:¬ l=[0]:=by rw [hL]; simp
    by_cases h1:a < 65
    ·refine fail hne (by rw [hL]; simp [chunks]; omega) ?_
     simp (maxSteps:=1000000) (disch:=omega) only [L74_0,EVa,EVb,oi,ou,wants,evx,evxs,evo,evparts,fillA,put,keepT,argTm,result,resAll,resOf,vO,boxF,binF,nilF,unF,lenF,callF,appF,mkIF,readsOf,boxAt,Nat.reduceEqDiff,reduceCtorEq,Nat.reduceBEq,Int.reduceToNat,Nat.reduceAdd,Nat.reduceLeDiff,Nat.reduceMul,i0]
    ·by_cases h2:90 < a
     ·refine fail hne (by rw [hL]; simp [chunks]; omega) ?_
      simp (maxSteps:=1000000) (disch:=omega) only [L74_0,EVa,EVb,oi,ou,wants,evx,evxs,evo,evparts,fillA,put,keepT,argTm,result,resAll,resOf,vO,boxF,binF,nilF,unF,lenF,callF,appF,mkIF,readsOf,boxAt,Nat.reduceEqDiff,reduceCtorEq,Nat.reduceBEq,Int.reduceToNat,Nat.reduceAdd,Nat.reduceLeDiff,Nat.reduceMul,i0]
     ·have hsh:=shl8 (b:=(b:Int)) (k:=.u64) (by omega) (by omega)
      have hor:=or_bytes hb hc
      by_cases h3:r.length < b * 256 + c
      ·refine fail hne (by rw [hL]; simp [chunks]; omega) ?_
       simp (maxSteps:=1000000) (disch:=omega) only [L74_0,EVa,EVb,oi,ou,wants,evx,evxs,evo,evparts,fillA,put,keepT,argTm,result,resAll,resOf,vO,boxF,binF,nilF,unF,lenF,callF,appF,mkIF,readsOf,boxAt,Nat.reduceEqDiff,reduceCtorEq,Nat.reduceBEq,Int.reduceToNat,Nat.reduceAdd,Nat.reduceLeDiff,Nat.reduceMul,i0,i1,i2,hsh,hor]
      ·have hcut:slcV 1 (bsl l) (some (.int .i64 3)) (some (.int .i64 (3 + ((b * 256 + c:Nat):Int)))) none=some (bsl (r.take (b * 256 + c))):=by
        rw [slc_bsl (by omega) (by omega) (by omega)]
        have e1:(3:Int).toNat=3:=rfl
        have e2:(3 + ((b * 256 + c:Nat):Int)).toNat - 3=b * 256 + c:=by omega
        rw [cutF,e1,e2,hL,List.drop_succ_cons,List.drop_succ_cons,List.drop_succ_cons,List.drop_zero]
       have hfrom:slcV 1 (bsl l) (some (.int .i64 (3 + ((b * 256 + c:Nat):Int)))) none none=some (bsl (r.drop (b * 256 + c))):=by
        rw [slc_from (by omega) (by omega)]
        have e2:(3 + ((b * 256 + c:Nat):Int)).toNat=(b * 256 + c) + 3:=by omega
        rw [e2,hL,List.drop_succ_cons,List.drop_succ_cons,List.drop_succ_cons]
       have hp:purL0 [.int .u8 (a:Int),bsl (r.take (b * 256 + c))]=some [.int .u8 (a:Int),bsl (r.take (b * 256 + c))]:=rfl
       obtain ⟨out',M',happ,hg',hsb⟩:=hg.app (bytes:=32) (j:=1) hp rfl (by omega) (by omega) (by omega)
       have hstep:ev ES (.c L74_0 [(4,bsl l),(6,out)] M)=some (.code .normal [(4,bsl (r.drop (b * 256 + c))),(6,out')] M'):=by
        simp (maxSteps:=1000000) (disch:=omega) only [L74_0,EVa,EVb,oi,ou,wants,evx,evxs,evo,evparts,fillA,put,keepT,argTm,result,resAll,resOf,vO,boxF,binF,nilF,unF,lenF,callF,appF,mkIF,readsOf,boxAt,Nat.reduceEqDiff,reduceCtorEq,Nat.reduceBEq,Int.reduceToNat,Nat.reduceAdd,Nat.reduceLeDiff,Nat.reduceMul,i0,i1,i2,hsh,hor,hcut,hfrom,hp,happ]
       have hcs:chunkCells (cs ++ [(a,r.take (b * 256 + c))])=chunkCells cs ++ [.int .u8 (a:Int),bsl (r.take (b * 256 + c))]:=by
        rw [chunkCells_append]; rfl
       obtain ⟨v,bb,M2,he,hm⟩:=ih (r.drop (b * 256 + c)) out' (cs ++ [(a,r.take (b * 256 + c))]) M' (by
         intro x hx
         exact hl x (by rw [hL]; simp [List.mem_of_mem_drop hx])) (by rw [List.length_drop]; omega) (by rw [List.length_drop,List.length_append,List.length_cons,List.length_nil]; omega) (by rw [hcs,List.length_append]; exact hg')
       refine ⟨v,bb,M2,?_,?_⟩
       ·rw [hstep]
        exact he
       ·have hch:chunks (k + 1) l=(chunks k (r.drop (b * 256 + c))).map ((a,r.take (b * 256 + c)) :: ·):=by
         rw [hL]
         simp only [chunks]
         rw [if_neg (by simp),if_pos (by omega)]
        rw [hch]
        cases hr:chunks k (r.drop (b * 256 + c)) with
        | none=>rw [hr] at hm; exact hm
        | some x=>
         rw [hr] at hm
         simp only [Option.map_some]
         have e:cs ++ [(a,r.take (b * 256 + c))] ++ x=cs ++ (a,r.take (b * 256 + c)) :: x:=by rw [List.append_assoc]; rfl
         simp only [e] at hm
         exact hm
def magicS:List Nat:=[83,78,68,49]
def fileChunks (l:List Nat):Option (List (Nat × List Nat)):=if 4≤l.length∧l.take 4=magicS then chunks (l.length + 1) (l.drop 4) else none
theorem mk74 {tm:Tm}:stepOp ES tm .zero (.mkSm 4 [.int .u8 0,.int .u8 0,.int .u8 0,.int .u8 0] [(0,1,.c (.int .u8 83)),(1,1,.c (.int .u8 78)),(2,1,.c (.int .u8 68)),(3,1,.c (.int .u8 49))])=some (.val (.ms 0 0 4 4) (Mem.zero.new (.cells (byteCells magicS)))):=rfl
theorem cv74 {tm:Tm}:stepOp ES ((10,.ms 0 0 4 4) :: tm) (Mem.zero.new (.cells (byteCells magicS))) (.cvb (.t 10))=some (.val (bsl magicS) ((Mem.zero.new (.cells (byteCells magicS))).kill 0)):=rfl
theorem ev74 {ad:Bool} {l:List Nat} {M:Mem} (hl:Bytes l) (hn:l.length < 500000):ev ES (.f ad 74 [bsl l] M)=some (.fn (.tup [match fileChunks l with | some cs=>chunksV cs | none=>.nils,.bool (fileChunks l).isSome]) M):=by
 have hp:∀ v∈[bsl l],pureV v:=fun v hv=>by
  rw [List.mem_singleton.1 hv]; exact bsl_pure l
 rw [f74 (frzVs_pure hp),b74 rfl]
 have hm:Bytes magicS:=by intro b hb; simp only [magicS,List.mem_cons,List.not_mem_nil,or_false] at hb; omega
 have h92:=fun M=>ev92 (ad:=false) (M:=M) hl hm (by omega)
 have hb:∃ M1 v b,retF ES [.t 2,.t 3] (ev ES (.c code74 (argTm 0 [bsl l]) .zero))=some (.fn (.tup [v,.bool b]) M1)∧frzC M1 v=some (match fileChunks l with | some cs=>chunksV cs | none=>.nils)∧b=(fileChunks l).isSome:=by
  by_cases h:magicS.length≤l.length∧l.take magicS.length=magicS
  ·have h':4≤l.length∧l.take 4=magicS:=h
   obtain ⟨v,b,M1,he,hm1⟩:=loop74 (l.length + 1) (l.drop 4) .nils [] ((Mem.zero.new (.cells (byteCells magicS))).kill 0) (hl.drop 4) (by rw [List.length_drop]; omega) (by rw [List.length_drop,List.length_nil]; omega) Gro.nil
   refine ⟨M1,v,b,?_,?_⟩
   ·have e92:=h92
    rw [if_pos h,decide_eq_true h,show l.drop magicS.length=l.drop 4 from rfl] at e92
    simp (maxSteps:=1000000) (disch:=omega) only [code74,EVa,EVb,oi,ou,wants,evx,evxs,evo,evparts,fillA,put,keepT,argTm,result,resAll,resOf,vO,boxF,binF,nilF,unF,lenF,callF,appF,mkIF,readsOf,boxAt,Nat.reduceEqDiff,reduceCtorEq,Nat.reduceBEq,Int.reduceToNat,Nat.reduceAdd,Nat.reduceLeDiff,Nat.reduceMul,mk74,cv74,e92,he,List.getElem?_cons_zero,List.getElem?_cons_succ]
   ·rw [fileChunks,if_pos h']
    cases hc:chunks (l.length + 1) (l.drop 4) with
    | none=>
     rw [hc] at hm1
     obtain ⟨rfl,rfl⟩:=hm1
     exact ⟨rfl,rfl⟩
    | some r=>
     rw [hc] at hm1
     obtain ⟨rfl,hg⟩:=hm1
     rw [List.nil_append] at hg
     exact ⟨hg.frz,rfl⟩
  ·have h':¬ (4≤l.length∧l.take 4=magicS):=h
   refine ⟨(Mem.zero.new (.cells (byteCells magicS))).kill 0,.nils,false,?_,?_⟩
   ·have e92:=h92
    rw [if_neg h,decide_eq_false h] at e92
    simp (maxSteps:=1000000) (disch:=omega) only [code74,EVa,EVb,oi,ou,wants,evx,evxs,evo,evparts,fillA,put,keepT,argTm,result,resAll,resOf,vO,boxF,binF,nilF,unF,lenF,callF,appF,mkIF,readsOf,boxAt,Nat.reduceEqDiff,reduceCtorEq,Nat.reduceBEq,Int.reduceToNat,Nat.reduceAdd,Nat.reduceLeDiff,Nat.reduceMul,mk74,cv74,e92,List.getElem?_cons_zero,List.getElem?_cons_succ]
   ·rw [fileChunks,if_neg h']
    exact ⟨rfl,rfl⟩
 obtain ⟨M1,v,b,he,hv,rfl⟩:=hb
 rw [he]
 refine own_done hp (adopt_frz ?_ (by simp))
 have hv2:frzV M1 v=frzC M1 v:=by
  cases v <;> first | rfl | cases hv
 show (frzVs M1 [v,.bool _]).map AV.tup=_
 simp only [frzVs,hv2,hv,Option.bind_some,Option.map_some]
 rfl
end Go.Sx
namespace Go.Sx
def GroK (z:Nat) (M:Mem) (v:AV) (m:Nat) (cells:List AV) (tk:Option Nat):Prop:=
 cells.length=m * z∧((m=0∧v=.nils∧tk=none)∨(0 < m∧∃ k,tk=some k∧k < M.nt∧v=.sl (k + 2) m m cells∧lookT M.toks k=some (m,z)))
theorem GroK.nil {z:Nat} {M:Mem}:GroK z M .nils 0 [] none:=⟨by simp,.inl ⟨rfl,rfl,rfl⟩⟩
theorem GroK.mem {z:Nat} {M M':Mem} {v:AV} {m:Nat} {cells:List AV} {tk:Option Nat} (h:GroK z M v m cells tk) (ht:M'.toks=M.toks) (hn:M'.nt=M.nt):GroK z M' v m cells tk:=by
 unfold GroK at *
 rw [ht,hn]
 exact h
theorem GroK.app {z bytes:Nat} {M:Mem} {v:AV} {m j:Nat} {cells ys:List AV} {tk:Option Nat} (h:GroK z M v m cells tk) (hy:purL0 ys=some ys) (hl:ys.length=j * z) (hj:0 < j) (hb:(m + j) * bytes≤140737488355328) (hb2:m + j≤140737488355328) :
  ∃ v' M' tk',appV false M z bytes v j ys=some (v',M')∧GroK z M' v' (m + j) (cells ++ ys) tk'∧SameB M M'∧∀ z2 v2 m2 cells2 tk2,GroK z2 M v2 m2 cells2 tk2→(tk2=none∨tk2≠tk)→GroK z2 M' v2 m2 cells2 tk2∧(tk2=none∨tk2≠tk'):=by
 obtain ⟨hc,h⟩:=h
 have hj0:¬ j=0:=by omega
 rcases h with ⟨rfl,rfl,rfl⟩ | ⟨hm,k,rfl,hkn,rfl,hk⟩
 ·have hc0:cells=[]:=List.eq_nil_of_length_eq_zero (by rw [hc]; simp)
  subst hc0
  refine ⟨.sl (M.nt + 2) j j ys,M.tok j z,some M.nt,?_,⟨by simpa using hl,.inr ⟨by omega,M.nt,rfl,Nat.lt_succ_self _,by simp,?_⟩⟩,⟨rfl,rfl,rfl,rfl⟩,fun z2 v2 m2 cells2 tk2 h2 _=>?_⟩
  ·unfold appV
   rw [if_neg hj0]
   simp only [Bool.false_eq_true,if_false,hy,Option.map_some]
   rw [if_pos ⟨by simpa using hb,by simpa using hb2⟩]
  ·simp [Mem.tok,lookT]
  ·obtain ⟨hc2,h2⟩:=h2
   rcases h2 with h2 | ⟨hm2,k2,rfl,hk2,rfl,hl2⟩
   ·exact ⟨⟨hc2,.inl h2⟩,.inl h2.2.2⟩
   ·refine ⟨⟨hc2,.inr ⟨hm2,k2,rfl,Nat.lt_succ_of_lt hk2,rfl,?_⟩⟩,.inr ?_⟩
    ·show lookT ((M.nt,j,z) :: M.toks) k2=_
     simp only [lookT,beq_ne (show ¬ M.nt=k2 by omega),Bool.false_eq_true,if_false]
     exact hl2
    ·simp only [ne_eq,Option.some.injEq]; omega
 ·refine ⟨.sl (k + 2) (m + j) (m + j) (cells ++ ys),M.bump k (m + j),some k,?_,⟨by rw [List.length_append,hc,hl,Nat.add_mul],.inr ⟨by omega,k,rfl,hkn,rfl,?_⟩⟩,⟨rfl,rfl,rfl,rfl⟩,fun z2 v2 m2 cells2 tk2 h2 hne=>?_⟩
  ·unfold appV
   rw [if_neg hj0]
   have h1:Nat.beq cells.length (m * z)=true:=by rw [hc]; exact Nat.beq_refl _
   simp only [h1,Bool.not_true,Bool.false_eq_true,if_false,hk,Nat.beq_refl,Bool.and_self,if_true,hy,Option.map_some]
   rw [if_pos ⟨hb,hb2⟩]
  ·show lookT (setT M.toks k (m + j)) k=_
   rw [lookT_set,if_pos rfl,hk]
   rfl
  ·obtain ⟨hc2,h2⟩:=h2
   rcases h2 with h2 | ⟨hm2,k2,rfl,hk2,rfl,hl2⟩
   ·exact ⟨⟨hc2,.inl h2⟩,.inl h2.2.2⟩
   ·have hkk:k≠k2:=fun e=>by
     subst e
     rcases hne with h | h
     ·cases h
     ·exact h rfl
    refine ⟨⟨hc2,.inr ⟨hm2,k2,rfl,hk2,rfl,?_⟩⟩,.inr ?_⟩
    ·show lookT (setT M.toks k (m + j)) k2=_
     rw [lookT_set,if_neg hkk]
     exact hl2
    ·simp only [ne_eq,Option.some.injEq]; omega
theorem GroK.frz {z:Nat} {M M1:Mem} {v:AV} {m:Nat} {cells:List AV} {tk:Option Nat} (h:GroK z M v m cells tk):frzC M1 v=some (if m=0 then .nils else .sl 0 0 m cells):=by
 obtain ⟨hc,h⟩:=h
 rcases h with ⟨rfl,rfl,_⟩ | ⟨hm,k,rfl,_,rfl,hk⟩
 ·rfl
 ·rw [if_neg (by omega)]
  rfl
theorem GroK.len {z:Nat} {M:Mem} {v:AV} {m:Nat} {cells:List AV} {tk:Option Nat} (h:GroK z M v m cells tk):lenK false v=some m:=by
 obtain ⟨hc,h⟩:=h
 rcases h with ⟨rfl,rfl,_⟩ | ⟨hm,k,rfl,_,rfl,hk⟩ <;> rfl
theorem GroK.ia {z:Nat} {M M1:Mem} {v:AV} {m:Nat} {cells:List AV} {tk:Option Nat} (h:GroK z M v m cells tk) {i:Nat} (hi:i < m):iaF M1 z v i=some (.val (.cp (cells.drop (i * z))) M1):=by
 obtain ⟨hc,h⟩:=h
 rcases h with ⟨rfl,_,_⟩ | ⟨hm,k,rfl,_,rfl,hk⟩
 ·omega
 ·have e1:Nat.ble (i + 1) m=true:=ble_true hi
  have e2:Nat.beq cells.length (m * z)=true:=by rw [hc]; exact Nat.beq_refl _
  simp only [iaF,e1,e2,Bool.and_self,ck_true]
theorem tmod_nat (a b:Nat):(a:Int).tmod (b:Int)=((a % b:Nat):Int):=rfl
theorem bin_rem2 {a:Nat}:binA .rem (.int .i64 (a:Int)) (.int .i64 2)=some (.int .i64 ((a % 2:Nat):Int)):=by
 rw [bin_rem (by decide)]; rfl
theorem agg3_pure (a b c:Int) (k:IntKind):pureV (.agg [.int k a,.int k b,.int k c]):=by
 intro x hx
 simp only [List.mem_cons,List.not_mem_nil,or_false] at hx
 rcases hx with rfl | rfl | rfl <;> trivial
theorem ev77 {ad:Bool} {r c:Int} {k:Nat} {M:Mem} (hk:k < 1000):ev ES (.f ad 77 [.agg [.int .i64 r,.int .i64 c,.int .i64 (k:Int)]] M)=some (.fn (.int .i64 ((k % 2 + 1:Nat):Int)) M):=by
 have hp:∀ v∈[AV.agg [.int .i64 r,.int .i64 c,.int .i64 (k:Int)]],pureV v:=fun v hv=>by
  rw [List.mem_singleton.1 hv]; exact agg3_pure r c k .i64
 rw [f77 (frzVs_pure hp),b77 rfl]
 have hw:IntKind.i64.wrap (((k % 2:Nat):Int) + 1)=((k % 2 + 1:Nat):Int):=by rw [wrap_i64] <;> omega
 have hb:retF ES [.t 2] (ev ES (.c code77 (argTm 0 [.agg [.int .i64 r,.int .i64 c,.int .i64 (k:Int)]]) .zero))=some (.fn (.int .i64 ((k % 2 + 1:Nat):Int)) (Mem.zero.new (.cells [.int .i64 r,.int .i64 c,.int .i64 (k:Int)]))):=by
  simp (maxSteps:=1000000) (disch:=omega) only [code77,EVa,EVb,oi,ou,wants,evx,evxs,evo,evparts,fillA,put,keepT,argTm,result,resAll,resOf,vO,boxF,binF,nilF,unF,lenF,callF,appF,mkIF,readsOf,boxAt,Nat.reduceEqDiff,reduceCtorEq,Nat.reduceBEq,Int.reduceToNat,Nat.reduceAdd,Nat.reduceLeDiff,Nat.reduceMul,bin_rem2,hw]
 rw [hb]
 exact own_done hp (adopt_frz rfl (by simp))
theorem ev76 {ad:Bool} {a:Nat} {d:List Nat} {M:Mem}:ev ES (.f ad 76 [.agg [.int .u8 (a:Int),bsl d]] M)=some (.fn (.bool (decide ((a:Int)=68))) (M.new (.cells [.int .u8 (a:Int),bsl d]))):=by
 rw [f76,b76 rfl]
 simp (maxSteps:=1000000) (disch:=omega) only [code76,EVa,EVb,oi,ou,wants,evx,evxs,evo,evparts,fillA,put,keepT,argTm,result,resAll,resOf,vO,boxF,binF,nilF,unF,lenF,callF,appF,mkIF,readsOf,boxAt,Nat.reduceEqDiff,reduceCtorEq,Nat.reduceBEq,Int.reduceToNat,Nat.reduceAdd,Nat.reduceLeDiff,Nat.reduceMul]
def firstD:List (Nat × List Nat)→Option Nat
 | []=>none
 | (a,_) :: r=>if a=68 then some 0 else (firstD r).map (· + 1)
theorem loop75 {cs:List (Nat × List Nat)} (hn:cs.length < 1000000):∀ (r:List (Nat × List Nat)) (i p:Nat) (M:Mem),cs.drop i=r→firstD r=some p→i≤cs.length →
  ∃ M',ev ES (.c (.loop L75_0) [(0,.sl 0 0 cs.length (chunkCells cs)),(1,.fn 76 [] []),(7,.int .i64 (cs.length:Int)),(8,.int .i64 (i:Int))] M)=some (.code .ret [(4,.int .i64 ((i + p:Nat):Int))] M')∧KeepM M M':=by
 intro r
 induction r with
 | nil=>intro i p M _ hp; cases hp
 | cons c r ih=>
  obtain ⟨a,d⟩:=c
  intro i p M hr hp hi
  have hlt:i < cs.length:=by
   have:=congrArg List.length hr
   simp at this
   omega
  have hcell:(chunkCells cs).drop (i * 2)=.int .u8 (a:Int) :: bsl d :: chunkCells r:=by
   have:cs=cs.take i ++ (a,d) :: r:=by rw [← hr,List.take_append_drop]
   have hl:(chunkCells (cs.take i)).length=i * 2:=by rw [chunkCells_len,List.length_take]; congr 1; omega
   conv=>lhs; rw [this,chunkCells_append,← hl,List.drop_left]
   rfl
  have e1:(i + 1).ble cs.length=true:=ble_true hlt
  have e2:Nat.beq (chunkCells cs).length (cs.length * 2)=true:=by rw [chunkCells_len]; exact Nat.beq_refl _
  have hw:IntKind.i64.wrap ((i:Int) + 1)=((i + 1:Nat):Int):=by rw [wrap_i64] <;> omega
  have h76:=@ev76 false a d M
  rw [ev_loop]
  by_cases ha:a=68
  ·subst ha
   rw [decide_eq_true (by rfl)] at h76
   simp only [firstD,if_true,Option.some.injEq] at hp
   subst hp
   refine ⟨M.new (.cells [.int .u8 ((68:Nat):Int),bsl d]),?_,KeepM.new _ _⟩
   simp (maxSteps:=1000000) (disch:=omega) only [L75_0,EVa,EVb,oi,ou,wants,evx,evxs,evo,evparts,fillA,put,keepT,argTm,result,resAll,resOf,vO,boxF,binF,nilF,unF,lenF,callF,appF,mkIF,readsOf,boxAt,Nat.reduceEqDiff,reduceCtorEq,Nat.reduceBEq,Int.reduceToNat,Nat.reduceAdd,Nat.reduceLeDiff,Nat.reduceMul,e1,e2,hcell,h76]
  ·rw [decide_eq_false (by omega)] at h76
   simp only [firstD,if_neg ha,Option.map_eq_some_iff] at hp
   obtain ⟨q,hq,rfl⟩:=hp
   have hr':cs.drop (i + 1)=r:=by rw [← List.drop_drop,hr]; rfl
   obtain ⟨M',h2,hk⟩:=ih (i + 1) q (M.new (.cells [.int .u8 (a:Int),bsl d])) hr' hq (by omega)
   refine ⟨M',?_,(KeepM.new _ _).trans hk⟩
   have hs:ev ES (.c L75_0 [(0,.sl 0 0 cs.length (chunkCells cs)),(1,.fn 76 [] []),(7,.int .i64 (cs.length:Int)),(8,.int .i64 (i:Int))] M)=some (.code .normal [(0,.sl 0 0 cs.length (chunkCells cs)),(1,.fn 76 [] []),(7,.int .i64 (cs.length:Int)),(8,.int .i64 ((i + 1:Nat):Int))] (M.new (.cells [.int .u8 (a:Int),bsl d]))):=by
    simp (maxSteps:=1000000) (disch:=omega) only [L75_0,EVa,EVb,oi,ou,wants,evx,evxs,evo,evparts,fillA,put,keepT,argTm,result,resAll,resOf,vO,boxF,binF,nilF,unF,lenF,callF,appF,mkIF,readsOf,boxAt,Nat.reduceEqDiff,reduceCtorEq,Nat.reduceBEq,Int.reduceToNat,Nat.reduceAdd,Nat.reduceLeDiff,Nat.reduceMul,e1,e2,hcell,h76,hw]
   rw [hs]
   show ev ES (.c (.loop L75_0) _ _)=_
   rw [h2,show i + 1 + q=i + (q + 1) by omega]
theorem ev75 {ad:Bool} {cs:List (Nat × List Nat)} {p:Nat} {M:Mem} (hn:cs.length < 1000000) (hp:firstD cs=some p):∃ M',ev ES (.f ad 75 [.sl 0 0 cs.length (chunkCells cs),.fn 76 [] []] M)=some (.fn (.int .i64 (p:Int)) M')∧KeepM M M':=by
 obtain ⟨M',h,hk⟩:=loop75 hn cs 0 p M rfl hp (Nat.zero_le _)
 refine ⟨M',?_,hk⟩
 rw [f75,b75 rfl]
 rw [Nat.zero_add] at h
 simp only [Int.natCast_zero] at h
 simp (maxSteps:=1000000) (disch:=omega) only [code75,EVa,EVb,oi,ou,wants,evx,evxs,evo,evparts,fillA,put,keepT,argTm,result,resAll,resOf,vO,boxF,binF,nilF,unF,lenF,callF,appF,mkIF,readsOf,boxAt,Nat.reduceEqDiff,reduceCtorEq,Nat.reduceBEq,Int.reduceToNat,Nat.reduceAdd,Nat.reduceLeDiff,Nat.reduceMul,h]
end Go.Sx
namespace Go.Sx
def isInts (l:List AV):Prop:=∀ v∈l,∃ n,v=.int .i64 n
theorem isInts.append {a b:List AV} (ha:isInts a) (hb:isInts b):isInts (a ++ b):=fun v hv=>by
 rcases List.mem_append.1 hv with h | h
 ·exact ha v h
 ·exact hb v h
theorem purL0_int1 {k:IntKind} {n:Int}:purL0 [.int k n]=some [.int k n]:=rfl
section
variable {r c:Int} {k:Nat} {d:List Nat} {i:Nat} {un out:AV} {M:Mem}
theorem p78_0 {X:Tm} {x:Nat} (hx:d[i]?=some x) (hb:x < 256):ev ES (.c S78_1_0 ((1,bsl d) :: (2,.ptr 0 0) :: (5,un) :: (6,out) :: (7,.int .i64 (i:Int)) :: X) M)=some (.code .normal [(1,bsl d),(2,.ptr 0 0),(5,un),(6,out),(7,.int .i64 (i:Int)),(8,.int .i64 (x:Int)),(9,.int .i64 256)] M):=by
 have h0:=ia_bsl (M:=M) hx
 simp (maxSteps:=1000000) (disch:=omega) only [S78_1_0,EVa,EVb,oi,ou,wants,evx,evxs,evo,evparts,fillA,put,keepT,argTm,result,resAll,resOf,vO,boxF,binF,nilF,unF,lenF,callF,appF,mkIF,readsOf,boxAt,Nat.reduceEqDiff,reduceCtorEq,Nat.reduceBEq,Int.reduceToNat,Nat.reduceAdd,Nat.reduceLeDiff,Nat.reduceMul,h0]
theorem p78_1 {x:Int} (hM:M.get 0=some (.cells [.int .i64 r,.int .i64 c,.int .i64 (k:Int)])) (hk:k < 4) (hu:k % 2=1→∃ y,d[i + 1]?=some y∧y < 256) (hi:i < 1000000) :
  ∃ (u md:Int) (X:Tm),(md=256∨md=65536)∧ev ES (.c S78_1_1 [(1,bsl d),(2,.ptr 0 0),(5,un),(6,out),(7,.int .i64 (i:Int)),(8,.int .i64 x),(9,.int .i64 256)] M)=some (.code .normal ((1,bsl d) :: (2,.ptr 0 0) :: (5,un) :: (6,out) :: (7,.int .i64 (i:Int)) :: (8,.int .i64 u) :: (9,.int .i64 md) :: X) M):=by
 have h77:=fun M=>@ev77 false r c k M (by omega)
 by_cases h1:k % 2=1
 ·obtain ⟨y,hy,hyb⟩:=hu h1
  have h0:=ia_bsl (M:=M) hy
  have hw:IntKind.i64.wrap ((i:Int) + 1)=((i + 1:Nat):Int):=by rw [wrap_i64] <;> omega
  have hsh:=shl8 (b:=(y:Int)) (k:=.u64) (by omega) (by omega)
  rw [h1] at h77
  obtain ⟨u,hor⟩:∃ u,binA .or (.int .i64 x) (.int .i64 ((y:Int) * 256))=some (.int .i64 u):=⟨_,bin_or⟩
  refine ⟨u,65536,[],.inr rfl,?_⟩
  simp (maxSteps:=1000000) (disch:=omega) only [S78_1_1,EVa,EVb,oi,ou,wants,evx,evxs,evo,evparts,fillA,put,keepT,argTm,result,resAll,resOf,vO,boxF,binF,nilF,unF,lenF,callF,appF,mkIF,readsOf,boxAt,Nat.reduceEqDiff,reduceCtorEq,Nat.reduceBEq,Int.reduceToNat,Nat.reduceAdd,Nat.reduceLeDiff,Nat.reduceMul,h0,hw,hsh,hM,h77,hor]
 ·have h2:k % 2=0:=by omega
  rw [h2] at h77
  refine ⟨x,256,[(26,.bool false)],.inl rfl,?_⟩
  simp (maxSteps:=1000000) (disch:=omega) only [S78_1_1,EVa,EVb,oi,ou,wants,evx,evxs,evo,evparts,fillA,put,keepT,argTm,result,resAll,resOf,vO,boxF,binF,nilF,unF,lenF,callF,appF,mkIF,readsOf,boxAt,Nat.reduceEqDiff,reduceCtorEq,Nat.reduceBEq,Int.reduceToNat,Nat.reduceAdd,Nat.reduceLeDiff,Nat.reduceMul,hM,h77,Int.reduceEq,Int.natCast_one]
theorem p78_2 {X:Tm} {u md:Int} {m:Nat} {cells:List AV} {tk:Option Nat} {c:Nat} (hM:M.get 0=some (.cells [.int .i64 r,.int .i64 (c:Int),.int .i64 (k:Int)])) (hc:1≤c) (hc2:c < 1000) (hm:m < 1000000) (hmd:md=256∨md=65536) (hg:GroK 1 M un m cells tk) (hin:isInts cells) :
  ∃ (u':Int) (X':Tm),ev ES (.c S78_1_2 ((1,bsl d) :: (2,.ptr 0 0) :: (5,un) :: (6,out) :: (7,.int .i64 (i:Int)) :: (8,.int .i64 u) :: (9,.int .i64 md) :: X) M)=some (.code .normal ((1,bsl d) :: (2,.ptr 0 0) :: (5,un) :: (6,out) :: (7,.int .i64 (i:Int)) :: (8,.int .i64 u') :: (9,.int .i64 md) :: X') M):=by
 have hl:=hg.len
 have hw:IntKind.i64.wrap ((m:Int) - (c:Int))=(m:Int) - (c:Int):=by rw [wrap_i64] <;> omega
 obtain ⟨z,hand⟩:∃ z,binA .and (.int .i64 (k:Int)) (.int .i64 2)=some (.int .i64 z):=⟨_,bin_and⟩
 by_cases hz:z=0
 ·subst hz
  refine ⟨u,[(10,.int .i64 ((m:Int) - (c:Int))),(48,.bool false)],?_⟩
  simp (maxSteps:=1000000) (disch:=omega) only [S78_1_2,EVa,EVb,oi,ou,wants,evx,evxs,evo,evparts,fillA,put,keepT,argTm,result,resAll,resOf,vO,boxF,binF,nilF,unF,lenF,callF,appF,mkIF,readsOf,boxAt,Nat.reduceEqDiff,reduceCtorEq,Nat.reduceBEq,Int.reduceToNat,Nat.reduceAdd,Nat.reduceLeDiff,Nat.reduceMul,hl,hw,hM,hand,ne_eq,not_true_eq_false]
 ·by_cases hge:c≤m
  ·have hlt:m - c < m:=by omega
   have hia:=hg.ia (M1:=M) hlt
   have hcl:cells.length=m:=by rw [hg.1]; omega
   obtain ⟨n,hn⟩:=hin cells[m - c] (List.getElem_mem _)
   have hd:cells.drop ((m - c) * 1)=.int .i64 n :: cells.drop (m - c + 1):=by
    rw [Nat.mul_one,← List.getElem_cons_drop (by omega),hn]
   rw [hd] at hia
   have hnat:(m:Int) - (c:Int)=((m - c:Nat):Int):=by omega
   rw [hnat] at hw
   have hrem:∃ v,binA .rem (.int .i64 (IntKind.i64.wrap (u + n))) (.int .i64 md)=some (.int .i64 v):=⟨_,bin_rem (by omega)⟩
   obtain ⟨v,hrem⟩:=hrem
   refine ⟨v,[],?_⟩
   have hdz:(decide (z≠0))=true:=decide_eq_true hz
   simp (maxSteps:=1000000) (disch:=omega) only [S78_1_2,EVa,EVb,oi,ou,wants,evx,evxs,evo,evparts,fillA,put,keepT,argTm,result,resAll,resOf,vO,boxF,binF,nilF,unF,lenF,callF,appF,mkIF,readsOf,boxAt,Nat.reduceEqDiff,reduceCtorEq,Nat.reduceBEq,Int.reduceToNat,Nat.reduceAdd,Nat.reduceLeDiff,Nat.reduceMul,hl,hnat,hw,hM,hand,hdz,hia,hrem]
  ·refine ⟨u,[(10,.int .i64 ((m:Int) - (c:Int))),(48,.bool false)],?_⟩
   have hdz:(decide (z≠0))=true:=decide_eq_true hz
   simp (maxSteps:=1000000) (disch:=omega) only [S78_1_2,EVa,EVb,oi,ou,wants,evx,evxs,evo,evparts,fillA,put,keepT,argTm,result,resAll,resOf,vO,boxF,binF,nilF,unF,lenF,callF,appF,mkIF,readsOf,boxAt,Nat.reduceEqDiff,reduceCtorEq,Nat.reduceBEq,Int.reduceToNat,Nat.reduceAdd,Nat.reduceLeDiff,Nat.reduceMul,hl,hw,hM,hand,hdz]
theorem p78_3 {X:Tm} {u md:Int} {un':AV} {M':Mem} (happ:appV false M 1 8 un 1 [.int .i64 u]=some (un',M')):ev ES (.c S78_1_3 ((1,bsl d) :: (2,.ptr 0 0) :: (5,un) :: (6,out) :: (7,.int .i64 (i:Int)) :: (8,.int .i64 u) :: (9,.int .i64 md) :: X) M)=some (.code .normal [(1,bsl d),(2,.ptr 0 0),(5,un'),(6,out),(7,.int .i64 (i:Int)),(8,.int .i64 u),(9,.int .i64 md)] M'):=by
 simp (maxSteps:=1000000) (disch:=omega) only [S78_1_3,EVa,EVb,oi,ou,wants,evx,evxs,evo,evparts,fillA,put,keepT,argTm,result,resAll,resOf,vO,boxF,binF,nilF,unF,lenF,callF,appF,mkIF,readsOf,boxAt,Nat.reduceEqDiff,reduceCtorEq,Nat.reduceBEq,Int.reduceToNat,Nat.reduceAdd,Nat.reduceLeDiff,Nat.reduceMul,purL0_int1,happ]
theorem p78_4 {u md:Int} (hmd:md=256∨md=65536):∃ (u':Int) (X:Tm),ev ES (.c S78_1_4 [(1,bsl d),(2,.ptr 0 0),(5,un),(6,out),(7,.int .i64 (i:Int)),(8,.int .i64 u),(9,.int .i64 md)] M)=some (.code .normal ((1,bsl d) :: (2,.ptr 0 0) :: (5,un) :: (6,out) :: (7,.int .i64 (i:Int)) :: (8,.int .i64 u') :: X) M):=by
 rcases hmd with rfl | rfl
 ·refine ⟨IntKind.i64.wrap (IntKind.i64.wrap (u - 128) * 256),[],?_⟩
  simp (maxSteps:=1000000) only [S78_1_4,EVa,EVb,oi,ou,wants,evx,evxs,evo,evparts,fillA,put,keepT,argTm,result,resAll,resOf,vO,boxF,binF,nilF,unF,lenF,callF,appF,mkIF,readsOf,boxAt,Nat.reduceEqDiff,reduceCtorEq,Nat.reduceBEq,Int.reduceToNat,Nat.reduceAdd,Nat.reduceLeDiff,Nat.reduceMul]
 ·by_cases h:32768≤u
  ·refine ⟨IntKind.i64.wrap (u - 65536),[],?_⟩
   simp (maxSteps:=1000000) only [S78_1_4,EVa,EVb,oi,ou,wants,evx,evxs,evo,evparts,fillA,put,keepT,argTm,result,resAll,resOf,vO,boxF,binF,nilF,unF,lenF,callF,appF,mkIF,readsOf,boxAt,Nat.reduceEqDiff,reduceCtorEq,Nat.reduceBEq,Int.reduceToNat,Nat.reduceAdd,Nat.reduceLeDiff,Nat.reduceMul,h,Int.reduceEq]
  ·refine ⟨u,[(67,.bool false)],?_⟩
   simp (maxSteps:=1000000) only [S78_1_4,EVa,EVb,oi,ou,wants,evx,evxs,evo,evparts,fillA,put,keepT,argTm,result,resAll,resOf,vO,boxF,binF,nilF,unF,lenF,callF,appF,mkIF,readsOf,boxAt,Nat.reduceEqDiff,reduceCtorEq,Nat.reduceBEq,Int.reduceToNat,Nat.reduceAdd,Nat.reduceLeDiff,Nat.reduceMul,h,Int.reduceEq]
theorem p78_5 {X:Tm} {u:Int} {out':AV} {M':Mem} (happ:appV false M 1 8 out 1 [.int .i64 u]=some (out',M')):ev ES (.c S78_1_5 ((1,bsl d) :: (2,.ptr 0 0) :: (5,un) :: (6,out) :: (7,.int .i64 (i:Int)) :: (8,.int .i64 u) :: X) M)=some (.code .normal [(1,bsl d),(2,.ptr 0 0),(5,un),(6,out'),(7,.int .i64 (i:Int))] M'):=by
 simp (maxSteps:=1000000) (disch:=omega) only [S78_1_5,EVa,EVb,oi,ou,wants,evx,evxs,evo,evparts,fillA,put,keepT,argTm,result,resAll,resOf,vO,boxF,binF,nilF,unF,lenF,callF,appF,mkIF,readsOf,boxAt,Nat.reduceEqDiff,reduceCtorEq,Nat.reduceBEq,Int.reduceToNat,Nat.reduceAdd,Nat.reduceLeDiff,Nat.reduceMul,purL0_int1,happ]
end
theorem GroK.some {z:Nat} {M:Mem} {v:AV} {m:Nat} {cells:List AV} {tk:Option Nat} (h:GroK z M v m cells tk) (hm:0 < m):tk≠none:=by
 obtain ⟨_,h⟩:=h
 rcases h with ⟨rfl,_⟩ | ⟨_,k,rfl,_⟩
 ·omega
 ·simp
theorem GroK.none {z:Nat} {M:Mem} {v:AV} {cells:List AV} {tk:Option Nat} (h:GroK z M v 0 cells tk):tk=none:=by
 obtain ⟨_,h⟩:=h
 rcases h with ⟨_,_,h⟩ | ⟨h,_⟩
 ·exact h
 ·omega
theorem loop78 {r:Int} {c k:Nat} {d:List Nat} (hk:k < 4) (hc:1≤c) (hc2:c < 1000) (hd:Bytes d) (hdl:d.length < 100000):∀ (q i m:Nat) (un out:AV) (uc oc:List AV) (t1 t2:Option Nat) (M:Mem),d.length=i + q * (k % 2 + 1)→m≤i→M.get 0=some (.cells [.int .i64 r,.int .i64 (c:Int),.int .i64 (k:Int)])→GroK 1 M un m uc t1→GroK 1 M out m oc t2→isInts uc→isInts oc→(t1=none∨t1≠t2) →
  ∃ tm' out' m' oc' t2' M',ev ES (.c (.loop L78_0) [(1,bsl d),(2,.ptr 0 0),(5,un),(6,out),(7,.int .i64 (i:Int))] M)=some (.code (.exit 0) tm' M')∧lk tm' 6=out'∧GroK 1 M' out' m' oc' t2'∧isInts oc'∧m'≤d.length:=by
 intro q
 induction q with
 | zero=>
  intro i m un out uc oc t1 t2 M hq hmi hM hu ho hui hoi hne
  have hi:i=d.length:=by omega
  subst hi
  refine ⟨[(1,bsl d),(2,.ptr 0 0),(5,un),(6,out),(7,.int .i64 (d.length:Int)),(14,.bool false)],out,m,oc,t2,M,?_,?_,ho,hoi,hmi⟩
  ·rw [ev_loop]
   simp (maxSteps:=1000000) (disch:=omega) only [L78_0,EVa,EVb,oi,ou,wants,evx,evxs,evo,evparts,fillA,put,keepT,argTm,result,resAll,resOf,vO,boxF,binF,nilF,unF,lenF,callF,appF,mkIF,readsOf,boxAt,Nat.reduceEqDiff,reduceCtorEq,Nat.reduceBEq,Int.reduceToNat,Nat.reduceAdd,Nat.reduceLeDiff,Nat.reduceMul]
  ·rfl
 | succ q ih=>
  intro i m un out uc oc t1 t2 M hq hmi hM hu ho hui hoi hne
  have hu12:k % 2 + 1=1∨k % 2 + 1=2:=by omega
  have hlt:i < d.length:=by rw [hq,Nat.add_mul]; omega
  have hx:d[i]?=some d[i]:=List.getElem?_eq_getElem hlt
  have hxb:d[i] < 256:=hd _ (List.getElem_mem _)
  have hy:k % 2=1→∃ y,d[i + 1]?=some y∧y < 256:=fun h=>by
   have:i + 1 < d.length:=by rw [hq,Nat.add_mul,h]; omega
   exact ⟨d[i + 1],List.getElem?_eq_getElem this,hd _ (List.getElem_mem _)⟩
  have e0:=p78_0 (X:=[(14,.bool true)]) (un:=un) (out:=out) (M:=M) hx hxb
  obtain ⟨u1,md,X1,hmd,e1⟩:=p78_1 (un:=un) (out:=out) (d:=d) (i:=i) (x:=(d[i]:Int)) (r:=r) (c:=(c:Int)) hM hk hy (by omega)
  obtain ⟨u2,X2,e2⟩:=p78_2 (X:=X1) (u:=u1) (out:=out) (d:=d) (i:=i) hM hc hc2 (by omega) hmd hu hui
  obtain ⟨un',M1,t1',a1,hu',hs1,ho1⟩:=hu.app (bytes:=8) (j:=1) (ys:=[.int .i64 u2]) purL0_int1 rfl (by omega) (by omega) (by omega)
  have e3:=p78_3 (X:=X2) (md:=md) (out:=out) (d:=d) (i:=i) a1
  obtain ⟨u4,X4,e4⟩:=p78_4 (u:=u2) (un:=un') (out:=out) (d:=d) (i:=i) (M:=M1) hmd
  have hne2:t2=none∨t2≠t1:=by
   rcases Nat.eq_zero_or_pos m with h | h
   ·subst h; exact .inl ho.none
   ·rcases hne with hn | hn
    ·exact absurd hn (hu.some h)
    ·exact .inr fun e=>hn e.symm
  obtain ⟨ho',hne3⟩:=ho1 1 out m oc t2 ho hne2
  obtain ⟨out',M2,t2',a2,ho'',hs2,hu1⟩:=ho'.app (bytes:=8) (j:=1) (ys:=[.int .i64 u4]) purL0_int1 rfl (by omega) (by omega) (by omega)
  have e5:=p78_5 (X:=X4) (un:=un') (d:=d) (i:=i) a2
  have hne4:t1'=none∨t1'≠t2:=by
   rcases hne3 with h | h
   ·refine .inr fun e=>?_
    exact hu'.some (Nat.succ_pos _) (e.trans h)
   ·exact .inr fun e=>h e.symm
  obtain ⟨hu'',hne5⟩:=hu1 1 un' (m + 1) _ t1' hu' hne4
  have hM2:M2.get 0=some (.cells [.int .i64 r,.int .i64 (c:Int),.int .i64 (k:Int)]):=by rw [hs2.get,hs1.get]; exact hM
  have h77:=fun M=>@ev77 false r (c:Int) k M (by omega)
  have hw:IntKind.i64.wrap ((i:Int) + ((k % 2 + 1:Nat):Int))=((i + (k % 2 + 1):Nat):Int):=by rw [wrap_i64] <;> omega
  have hstep:ev ES (.c L78_0 [(1,bsl d),(2,.ptr 0 0),(5,un),(6,out),(7,.int .i64 (i:Int))] M)=some (.code .normal [(1,bsl d),(2,.ptr 0 0),(5,un'),(6,out'),(7,.int .i64 ((i + (k % 2 + 1):Nat):Int))] M2):=by
   simp (maxSteps:=1000000) (disch:=omega) only [L78_0,EVa,EVb,oi,ou,wants,evx,evxs,evo,evparts,fillA,put,keepT,argTm,result,resAll,resOf,vO,boxF,binF,nilF,unF,lenF,callF,appF,mkIF,readsOf,boxAt,Nat.reduceEqDiff,reduceCtorEq,Nat.reduceBEq,Int.reduceToNat,Nat.reduceAdd,Nat.reduceLeDiff,Nat.reduceMul,e0,e1,e2,e3,e4,e5,hM2,h77,hw]
  obtain ⟨tm',o3,m3,oc3,t3,M3,he,hl,hg,hi3,hm3⟩:=ih (i + (k % 2 + 1)) (m + 1) un' out' _ _ t1' t2' M2 (by rw [hq,Nat.add_mul]; omega) (by omega) hM2 hu'' ho'' (hui.append fun v hv=>⟨u2,List.mem_singleton.1 hv⟩) (hoi.append fun v hv=>⟨u4,List.mem_singleton.1 hv⟩) hne5
  refine ⟨tm',o3,m3,oc3,t3,M3,?_,hl,hg,hi3,hm3⟩
  rw [ev_loop,hstep]
  exact he
def slV (m:Nat) (cells:List AV):AV:=if m=0 then .nils else .sl 0 0 m cells
theorem ev78 {ad:Bool} {r:Int} {c k:Nat} {d:List Nat} {M:Mem} (hk:k < 4) (hc:1≤c) (hc2:c < 1000) (hd:Bytes d) (hdl:d.length < 100000) (hm:d.length % (k % 2 + 1)=0) (had:ad=false) :
  ∃ m cells,ev ES (.f ad 78 [.agg [.int .i64 r,.int .i64 (c:Int),.int .i64 (k:Int)],bsl d] M)=some (.fn (slV m cells) M)∧cells.length=m∧isInts cells∧m≤d.length:=by
 subst had
 have hp:∀ v∈[AV.agg [.int .i64 r,.int .i64 (c:Int),.int .i64 (k:Int)],bsl d],pureV v:=fun v hv=>by
  simp only [List.mem_cons,List.not_mem_nil,or_false] at hv
  rcases hv with rfl | rfl
  ·exact agg3_pure r c k .i64
  ·exact bsl_pure d
 have hq:d.length=0 + (d.length / (k % 2 + 1)) * (k % 2 + 1):=by
  have:=Nat.div_add_mod d.length (k % 2 + 1)
  rw [hm,Nat.mul_comm] at this
  omega
 obtain ⟨tm',out',m',oc',t2',M',he,hl,hg,hi,hle⟩:=loop78 (r:=r) hk hc hc2 hd hdl (d.length / (k % 2 + 1)) 0 0 .nils .nils [] [] none none (Mem.zero.new (.cells [.int .i64 r,.int .i64 (c:Int),.int .i64 (k:Int)])) hq (Nat.le_refl _) gz0 GroK.nil GroK.nil (fun v h=>by cases h) (fun v h=>by cases h) (.inl rfl)
 refine ⟨m',oc',?_,by rw [hg.1]; omega,hi,hle⟩
 rw [f78 (frzVs_pure hp),b78 rfl]
 simp only [Int.natCast_zero] at he
 have hb:retF ES [.t 4] (ev ES (.c code78 (argTm 0 [.agg [.int .i64 r,.int .i64 (c:Int),.int .i64 (k:Int)],bsl d]) .zero))=some (.fn out' M'):=by
  simp (maxSteps:=1000000) (disch:=omega) only [code78,EVa,EVb,oi,ou,wants,evx,evxs,evo,evparts,fillA,put,keepT,argTm,result,resAll,resOf,vO,boxF,binF,nilF,unF,lenF,callF,appF,mkIF,readsOf,boxAt,Nat.reduceEqDiff,reduceCtorEq,Nat.reduceBEq,Int.reduceToNat,Nat.reduceAdd,Nat.reduceLeDiff,Nat.reduceMul,he,hl]
 rw [hb]
 refine own_done hp ?_
 have hf:=hg.frz (M1:=M')
 obtain ⟨_,h⟩:=hg
 rcases h with ⟨rfl,rfl,_⟩ | ⟨hm0,k',rfl,_,rfl,_⟩
 ·rfl
 ·simp only [adopt,Bool.false_eq_true,if_false,slV]
  rw [if_neg (by omega)]
end Go.Sx
