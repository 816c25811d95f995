/- A part of the proof of TopSoundsDescribed (texts Xq Xr Xs Xt Xu Xv Xw): an executor of the program's code, proved sound, and its runs. No condition. -/
import Derived.Test.YtdflipbphcmpoaaGreatDoorP03
import Derived.Lib.AppendZeros
import Derived.Lib.OthersKept
import Derived.Orders
import Derived.OrdersIn
import Derived.AtR
set_option linter.unusedSimpArgs false
set_option linter.unusedVariables false
set_option linter.unusedSectionVars false
set_option maxRecDepth 100000
namespace Go.Sx
variable {P:Program} {E:Env} {γ:Cx} {M:Mem} {w:World} {tm:Tm} {a:Act} {o:Oper}
theorem op_appZ (hI:Inv E.gx γ M w) (ht:TmR γ tm a.tmps) {c:Call} {x y:Operand} {x' y':Opd} {s t e:TypeId} {kk:IntKind} {n bt m:Nat} {z:List AV} {v r:AV} {M':Mem} (ho:o.op=.call c) (h1:c.callee=.builtin .append) (h2:c.args.toList=[x,y]) (h3:c.argTypes.toList=[s,t])
  (hs:P.underlying s=some (.slice e)) (hk:P.underlying t=some (.int kk)) (hn:sizeT P e=some n) (hbt:bytesT P e=some bt) (hz:zeroT P e=some z) (hzl:z.length=n) (hn0:0 < n) (hx:compOpd x=some x') (hy:compOpd y=some y')
  (hvx:evx E tm x'=some .nils) (hvy:evx E tm y'=some v) (hm:natOf v=some m) (hr:(m=0∧r=.nils∧M'=M)∨(m≠0∧m * bt≤140737488355328∧m≤140737488355328∧r=.ms M.nb 0 m m∧M'=M.new (.cells (List.replicate m z).flatten))):Runs P E.gx γ M w a o r M':=by
 obtain ⟨i,zv,hi,hzv,hzc⟩:=zeroT_spec hz
 obtain ⟨i2,hi2,hsz⟩:=sizeT_spec hn
 rw [hi] at hi2; cases hi2
 simp only [bytesT,hi,Option.map_some,Option.some.injEq] at hbt
 have hzs:zv.cells.size=n:=by
  rw [← Array.length_toList,← (ofCells_sound (γ:=γ) (p:=false) hzc).1,hzl]
 have ha:c.args=#[x,y]:=by apply Array.ext'; simpa using h2
 have hb:c.argTypes=#[s,t]:=by apply Array.ext'; simpa using h3
 have ex:=(evx_sound hI ht hx hvx).nils_inv
 obtain ⟨k,ey⟩:=natOf_sound (evx_sound hI ht hy hvy) hm
 have hex:∀ res w',(Builtin.append_ #[s,t] o.type #[.slice none 0 0,.int k (m:Int)]).run P w=.ok res w'→(execOp a.eval o).run P w=.ok (.value res) w':=fun res w' h=>by
  simp [execOp,ho,resolve,h1,ha,hb,invoke,builtin,ex,ey,h]
 rcases hr with ⟨rfl,rfl,rfl⟩ | ⟨hm0,hb1,hb2,rfl,rfl⟩
 ·refine Runs.same hI (hex (.slice none 0 0) w ?_) (.nils _)
  have hw:IntKind.i64.wrap (0:Int)=0:=by rw [IntKind.wrap_i64]; omega
  simp [Builtin.append_,run_underlying hs,run_underlying hk,sizeOf,typeInfo,hi,asInt,asIntOf,hw]
 ·have hrun:=Lib.run_append_nil_zeros w s t o.type e i zv k kk hs hk hi hzv m (by omega) (by omega) (by omega) (by rw [hbt]; omega)
  have hge:=grownCap_ge w m 0 e
  have hmade:=VRs.made m (ofCells_sound (γ:=γ) (p:=false) hzc)
  have e1:madeCells zv.cells (m * z.length)=Builtin.zeroCells zv.cells m:=by simp [madeCells,Builtin.zeroCells,hzl,hzs]
  rw [e1] at hmade
  suffices hN:Nx E.gx γ M w (γ.addB M.nb w.heap.size (some (m,n,grownCap w m 0 e * n))) (M.new (.cells (List.replicate m z).flatten)) (w.drew.alloc (.cells (Builtin.zeroCells zv.cells m ++ Builtin.zeroCells zv.cells (grownCap w m 0 e - m)) e)) from
   ⟨_,_,_,.inl (hex _ _ hrun),.ms _ 0 m m (grownCap w m 0 e) w.heap.size (by simp [Cx.addB]) (Nat.le_refl _) hge (fun _=>.inr ⟨n,grownCap w m 0 e * n,by simp [Cx.addB],Nat.le_refl _⟩),hN⟩
  refine Nx.newBoxS hI _ hmade (flat_one (ofCells_one hzc).1 m) ?_ ?_ (by simp [hzl]) ?_ rfl rfl rfl rfl
  ·rw [Array.toList_append]
   exact List.take_left' rfl
  ·simp
  ·simp only [Array.size_append,size_zeroCells,hzs]
   rw [← Nat.add_mul]
   have:m + (grownCap w m 0 e - m)=grownCap w m 0 e:=by omega
   rw [this]
   exact Nat.le_refl _
theorem op_cap (hI:Inv E.gx γ M w) (ht:TmR γ tm a.tmps) {c:Call} {x:Operand} {x':Opd} {t e:TypeId} {u:AV} {n:Nat} (ho:o.op=.call c) (h1:c.callee=.builtin .cap) (h2:c.args.toList=[x]) (h3:c.argTypes.toList=[t])
  (hx:compOpd x=some x') (hu:P.underlying t=some (.slice e)) (hvx:evx E tm x'=some u) (hn:(u=.nils∧n=0)∨∃ q cs,u=.sl 1 q n cs):Runs P E.gx γ M w a o (.int .i64 n) M:=by
 have h:=evx_sound hI ht hx hvx
 have ha:c.args=#[x]:=by apply Array.ext'; simpa using h2
 have hb:c.argTypes=#[t]:=by apply Array.ext'; simpa using h3
 have key:∀ base k,a.eval x=.slice base k n→Runs P E.gx γ M w a o (.int .i64 n) M:=fun base k e1=>by
  refine Runs.same hI (v:=.int .i64 n) ?_ (.int _ _ _)
  simp [execOp,ho,resolve,h1,ha,hb,invoke,builtin,Builtin.cap_,e1,run_underlying hu,goInt]
 rcases hn with ⟨rfl,rfl⟩ | ⟨q,cs,rfl⟩
 ·exact key _ _ h.nils_inv
 ·obtain ⟨g,q',c',vs,e1,_,_,_,hc,_⟩:=h.sl_inv
  rw [hc rfl] at e1
  exact key _ _ e1
theorem op_cpy (hI:Inv E.gx γ M w) (ht:TmR γ tm a.tmps) {c:Call} {x y:Operand} {x' y':Opd} {s t e:TypeId} {n m b off k cp:Nat} {l ys:List AV} {v:AV} (ho:o.op=.call c) (h1:c.callee=.builtin .copy) (h2:c.args.toList=[x,y]) (h3:c.argTypes.toList=[s,t])
  (hs:P.underlying s=some (.slice e)) (hn:sizeT P e=some n) (hx:compOpd x=some x') (hy:compOpd y=some y')
  (hvx:evx E tm x'=some (.ms b off k cp)) (hvy:evx E tm y'=some v) (hm:lenA v=some m) (hys:elems M n v=some ys) (hb:M.get b=some (.cells l)) (hle:off + Nat.min m k * n≤l.length) (hy1:ys.all oneA=true) :
  Runs P E.gx γ M w a o (.int .i64 (Nat.min m k)) (M.set b (.cells (l.take off ++ ys.take (Nat.min m k * n) ++ l.drop (off + Nat.min m k * n)))):=by
 have ha:c.args=#[x,y]:=by apply Array.ext'; simpa using h2
 have hbt:c.argTypes=#[s,t]:=by apply Array.ext'; simpa using h3
 obtain ⟨g,c',ex,hρ,_⟩:=(evx_sound hI ht hx hvx).ms_inv
 obtain ⟨news,hvn,hY⟩:=elems_sound hI (evx_sound hI ht hy hvy) hys hm
 have hmul:Nat.min m k * n≤m * n:=Nat.mul_le_mul_right _ (Nat.min_le_left _ _)
 have hyl:ys.length=m * n:=by rw [hvn.1,hY.1]
 have hvt:=hvn.take (Nat.min m k * n)
 have htl:(ys.take (Nat.min m k * n)).length=Nat.min m k * n:=by rw [List.length_take,hyl]; omega
 have hy1':(ys.take (Nat.min m k * n)).all oneA=true:=by
  rw [List.all_eq_true] at hy1 ⊢
  exact fun x hx=>hy1 x (List.mem_of_mem_take hx)
 obtain ⟨hst,hN,_⟩:=box_write (P:=P) hI hb hρ hvt hy1' (off:=off) (by omega)
 rw [htl] at hN
 refine ⟨γ,.int .i64 (Nat.min m k),_,.inl ?_,.int _ _ _,hN⟩
 have hf:=hY.first (P:=P) (Nat.min m k) (Nat.min_le_left _ _)
 simp [execOp,ho,resolve,h1,ha,hbt,invoke,builtin,Builtin.copy_,ex,run_underlying hs,hY.len,run_sizeOf' hn,hf,hst,goInt]
theorem op_clr (hI:Inv E.gx γ M w) (ht:TmR γ tm a.tmps) {c:Call} {x:Operand} {x':Opd} {t e:TypeId} {n:Nat} {z:List AV} {u:AV} {M':Mem} (ho:o.op=.call c) (h1:c.callee=.builtin .clear) (h2:c.args.toList=[x]) (h3:c.argTypes.toList=[t])
  (hs:P.underlying t=some (.slice e)) (hz:zeroT P e=some z) (hzl:z.length=n) (hx:compOpd x=some x') (hvx:evx E tm x'=some u)
  (hr:(u=.nils∧M'=M)∨(∃ b off cp,u=.ms b off 0 cp∧M'=M)∨∃ b off k cp l,u=.ms b off k cp∧k≠0∧M.get b=some (.cells l)∧off + k * n≤l.length∧M'=M.set b (.cells (l.take off ++ (List.replicate k z).flatten ++ l.drop (off + k * n)))) :
  Runs P E.gx γ M w a o (.tup []) M':=by
 have h:=evx_sound hI ht hx hvx
 obtain ⟨i,zv,hi,hzv,hzc⟩:=zeroT_spec hz
 have hzs:zv.cells.size=n:=by
  rw [← Array.length_toList,← (ofCells_sound (γ:=γ) (p:=false) hzc).1,hzl]
 have ha:c.args=#[x]:=by apply Array.ext'; simpa using h2
 have hb:c.argTypes=#[t]:=by apply Array.ext'; simpa using h3
 rcases hr with ⟨rfl,rfl⟩ | ⟨b,off,cp,rfl,rfl⟩ | ⟨b,off,k,cp,l,rfl,hk,hbl,hle,rfl⟩
 ·have e1:=h.nils_inv
  refine Runs.same hI (v:=.tuple #[]) ?_ (VR.mktup (VRs.nil _ _))
  simp [execOp,ho,resolve,h1,ha,hb,invoke,builtin,Builtin.clear_,e1,run_underlying hs]
 ·obtain ⟨g,c',e1,_⟩:=h.ms_inv
  refine Runs.same hI (v:=.tuple #[]) ?_ (VR.mktup (VRs.nil _ _))
  simp [execOp,ho,resolve,h1,ha,hb,invoke,builtin,Builtin.clear_,e1,run_underlying hs]
 ·obtain ⟨g,c',e1,hρ,_⟩:=h.ms_inv
  have hmade:=VRs.made k (ofCells_sound (γ:=γ) (p:=false) hzc)
  have e2:madeCells zv.cells (k * z.length)=Builtin.zeroCells zv.cells k:=by simp [madeCells,Builtin.zeroCells,hzl,hzs]
  rw [e2] at hmade
  have hfl:(List.replicate k z).flatten.length=k * n:=by simp [hzl]
  obtain ⟨hst,hN,_⟩:=box_write (P:=P) hI hbl hρ hmade (flat_one (ofCells_one hzc).1 k) (off:=off) (by omega)
  rw [hfl] at hN
  refine ⟨γ,.tuple #[],_,.inl ?_,VR.mktup (VRs.nil _ _),hN⟩
  simp [execOp,ho,resolve,h1,ha,hb,invoke,builtin,Builtin.clear_,e1,run_underlying hs,hk,run_zeroValue' hi hzv,hst]
theorem op_rng (hI:Inv E.gx γ M w) (ht:TmR γ tm a.tmps) {t:TypeId} {x:Operand} {x':Opd} {l:List Nat} (ho:o.op=.range t x) (hx:compOpd x=some x') (hu:P.underlying t=some .string) (hvx:evx E tm x'=some (.str l)) :
  Runs P E.gx γ M w a o (.ptr M.nb 0) (M.new (.iter l 0)):=by
 obtain ⟨s,e1,hs⟩:=(evx_sound hI ht hx hvx).str_inv
 refine ⟨_,_,w.iter s 0,.inl (by simp only [execOp,ho,e1]; simp [run_range_string w t s hu]),VR.newptr (s:=none),Nx.addB hI (.iter l 0) (.stringIter s 0) none _ (fun γ' hle hI' _=>⟨hle.B ▸ hI.base,hI',s,World.iter_heap w s 0,hs⟩) rfl rfl rfl rfl⟩
theorem op_nxt (hI:Inv E.gx γ M w) (ht:TmR γ tm a.tmps) {x:Operand} {x':Opd} {b pos:Nat} {l:List Nat} {r:AV} {M':Mem} (ho:o.op=.next x true) (hx:compOpd x=some x') (hvx:evx E tm x'=some (.ptr b 0)) (hb:M.get b=some (.iter l pos))
  (hr:(∃ c n,nextRune l pos=some (some (c,n))∧r=.tup [.bool true,.int .i64 pos,.int .i32 c]∧M'=M.set b (.iter l (pos + n)))∨(nextRune l pos=some none∧r=.tup [.bool false]∧M'=M)):Runs P E.gx γ M w a o r M':=by
 obtain ⟨g,e1,hρ⟩:=(evx_sound hI ht hx hvx).ptr_inv
 obtain ⟨hB,hno,s,hh,hs⟩:=hI.box b _ g hb hρ
 have hsz:s.size=l.length:=by rw [← hs]; simp
 rcases hr with ⟨c,n,hn,rfl,rfl⟩ | ⟨hn,rfl,rfl⟩
 ·unfold nextRune at hn
  split at hn
  ·cases hn
  ·rename_i y hy
   split at hn
   ·rename_i hlt
    cases hn
    have hp:pos < s.size:=by rw [hsz]; exact (List.getElem?_eq_some_iff.1 hy).1
    have hyv:(s[pos]'hp).toNat=y:=by
     subst hs
     rw [List.getElem?_map] at hy
     simp only [Option.map_eq_some_iff] at hy
     obtain ⟨q,hq,rfl⟩:=hy
     have:=(List.getElem?_eq_some_iff.1 hq).2
     rw [← this]
     rfl
    have hrun:=Lib.run_next_ascii_at (P:=P) w g s pos o.type hh hp (by omega)
    rw [hyv] at hrun
    have hrun':(execOp a.eval o).run P w=.ok (.value (.tuple #[.bool true,.int .i64 pos,.int .i32 y])) (w.iterAt g s (pos + 1)):=by simp [execOp,ho,e1,hrun]
    refine ⟨γ,_,_,.inl hrun',VR.mktup (VRs.cons (.bool _ _) (VRs.cons (.int _ _ _) (VRs.cons (.int _ _ _) (VRs.nil _ _)))),?_⟩
    refine Nx.setB hI hb hρ _ ⟨hB,hno,s,Lib.iterAt_heap w g s pos _ hh,hs⟩ (fun g' hg'=>?_) (by simp [World.iterAt]) rfl rfl rfl
    simp only [World.iterAt,Array.getElem?_setIfInBounds]
    rw [if_neg (fun e=>hg' e.symm)]
   ·cases hn
 ·have hp:¬ pos < s.size:=by
   intro hp
   unfold nextRune at hn
   rw [List.getElem?_eq_getElem (by omega)] at hn
   simp only at hn
   split at hn <;> cases hn
  have hrun:=Lib.run_next_end_at (P:=P) w g s pos o.type hh hp
  refine Runs.same hI (v:=.tuple #[.bool false]) (by simp [execOp,ho,e1,hrun]) (VR.mktup (VRs.cons (.bool _ _) (VRs.nil _ _)))
end Go.Sx
namespace Go.Sx
variable {P:Program} {E:Env} {γ:Cx} {M:Mem} {w:World} {tm:Tm} {a:Act} {o:Oper}
def OutOK (P:Program) (G:(Nat→Option (List AV)) × (Nat→Loop→Prop)) (γ:Cx) (M:Mem) (w:World) (a:Act) (o:Oper):Out→Prop
 | .val r M'=>Runs P G γ M w a o r M'
 | .call _ f args=>∃ vs:List Value,VRs γ false args vs∧(execOp a.eval o).run P w=(callFunc f vs.toArray).run P w
 | .yield id ts vs args=>∃ (y:YI) (xs:List Value),γ.Y=some y∧y.id=id∧(∀ (i t:Nat) (a:AV),ts[i]?=some t→vs[i]?=some a→VR γ false a (y.lp.tmps.getD t undef))∧VRs γ false args xs∧(execOp a.eval o).run P w=(Instr.yield y.l xs.toArray).run P w
theorem compBin_sound (hI:Inv E.gx γ M w) (ht:TmR γ tm a.tmps) {op:BinOp} {t ty:TypeId} {x y:Operand} {q g:AOp} {out:Out} (ho:o.op=.binOp op t x y ty) (hc:compBin P op t x y=some q) (hs:stepOp E tm M (withMu q g)=some out):OutOK P E.gx γ M w a o out:=by
 simp only [compBin,Option.bind_eq_some_iff] at hc
 obtain ⟨x',hx,y',hy,hc⟩:=hc
 have fin:∀ q',q'=.bin op x' y'→q=q'→OutOK P E.gx γ M w a o out:=fun q' e1 e2=>by
  subst e2; subst e1
  simp only [withMu,stepOp,Option.bind_eq_some_iff,Option.map_eq_some_iff] at hs
  obtain ⟨u,hu,v,hv,r,hr,rfl⟩:=hs
  exact op_bin hI ht ho hx hy hu hv hr
 split at hc
 ·cases hc; exact fin _ rfl rfl
 ·cases hc; exact fin _ rfl rfl
 ·rename_i hu
  have key:∀ neg,((op=.eql∧neg=false)∨(op=.neq∧neg=true))→stepOp E tm M (.binB neg x' y')=some out→OutOK P E.gx γ M w a o out:=fun neg hop hs=>by
   simp only [stepOp,Option.bind_eq_some_iff] at hs
   obtain ⟨u,hux,v,hvy,hs⟩:=hs
   split at hs
   ·cases hs
    exact op_binB hI ht ho hx hy hop hu hux hvy
   ·cases hs
  split at hc <;> cases hc
  ·exact key false (.inl ⟨rfl,rfl⟩) hs
  ·exact key true (.inr ⟨rfl,rfl⟩) hs
 ·split at hc
  ·rename_i hf
   simp only [Bool.and_eq_true,Bool.not_eq_true'] at hf
   have key:∀ neg,((op=.eql∧neg=false)∨(op=.neq∧neg=true))→stepOp E tm M (.eqA neg 2 x' y')=some out→OutOK P E.gx γ M w a o out:=fun neg hop hs=>by
    simp only [stepOp,Option.bind_eq_some_iff] at hs
    obtain ⟨u,hux,v,hvy,hs⟩:=hs
    split at hs
    ·split at hs
     ·rename_i hl
      simp only [Option.bind_eq_some_iff] at hs
      obtain ⟨r,hr,hs⟩:=hs
      cases hs
      exact op_eqA hI ht ho hx hy hop hf.1 hf.2 hux hvy (Nat.eq_of_beq_eq_true hl) hr
     ·cases hs
    ·cases hs
   split at hc <;> cases hc
   ·exact key false (.inl ⟨rfl,rfl⟩) hs
   ·exact key true (.inr ⟨rfl,rfl⟩) hs
  ·cases hc
 ·simp only [Option.bind_eq_some_iff] at hc
  obtain ⟨k,hk,hc⟩:=hc
  have key:∀ neg,((op=.eql∧neg=false)∨(op=.neq∧neg=true))→stepOp E tm M (.isnil neg k x')=some out→OutOK P E.gx γ M w a o out:=fun neg hop hs=>by
   simp only [stepOp,Option.bind_eq_some_iff] at hs
   obtain ⟨u,hux,r,hr,hs⟩:=hs
   cases hs
   exact op_isnil hI ht ho hx hop hk hux hr
  split at hc <;> cases hc
  ·exact key false (.inl ⟨rfl,rfl⟩) hs
  ·exact key true (.inr ⟨rfl,rfl⟩) hs
theorem compConv_sound (hI:Inv E.gx γ M w) (ht:TmR γ tm a.tmps) {s d:TypeId} {x:Operand} {q g:AOp} {out:Out} (ho:o.op=.convert s d x) (hc:compConv P s d x=some q) (hs:stepOp E tm M (withMu q g)=some out):OutOK P E.gx γ M w a o out:=by
 simp only [compConv,Option.bind_eq_some_iff] at hc
 obtain ⟨x',hx,hc⟩:=hc
 split at hc
 ·rename_i h1 h2
  cases hc
  simp only [withMu,stepOp,Option.bind_eq_some_iff] at hs
  obtain ⟨u,hu,hs⟩:=hs
  split at hs <;> cases hs
  exact op_cvi hI ht ho hx h1 h2 hu
 ·rename_i h1 h2
  cases hc
  simp only [withMu,stepOp,Option.bind_eq_some_iff] at hs
  obtain ⟨u,hu,hs⟩:=hs
  split at hs <;> cases hs
  exact op_r2s hI ht ho hx h1 h2 hu
 ·rename_i h1 h2
  split at hc
  ·rename_i h3
   cases hc
   simp only [withMu,stepOp,Option.bind_eq_some_iff] at hs
   obtain ⟨u,hu,hs⟩:=hs
   split at hs <;> cases hs
   exact op_s2b hI ht ho hx h1 h2 h3 hu
  ·cases hc
 ·rename_i h1 h2
  split at hc
  ·rename_i h3
   cases hc
   simp only [withMu,stepOp,Option.bind_eq_some_iff] at hs
   obtain ⟨u,hu,cs,hcs,l,hl,hs⟩:=hs
   cases hs
   exact op_b2s hI ht ho hx h1 h2 h3 hu hcs hl
  ·rename_i h3
   cases hc
   simp only [withMu,stepOp,Option.bind_eq_some_iff] at hs
   obtain ⟨u,hu,cs,hcs,l,hl,hs⟩:=hs
   cases hs
   exact op_rs2s hI ht ho hx h1 h2 h3 hu hcs hl
  ·cases hc
 ·rename_i h1 h2
  split at hc
  ·rename_i h3
   split at hc
   ·rename_i hsd
    cases Nat.eq_of_beq_eq_true hsd
    cases hc
    simp only [withMu,stepOp,Option.bind_eq_some_iff] at hs
    obtain ⟨u,hu,hs⟩:=hs
    split at hs
    ·split at hs
     ·split at hs
      ·rename_i hb hl
       simp only [Option.map_eq_some_iff] at hs
       obtain ⟨l',hl',rfl⟩:=hs
       exact op_cvb hI ht ho hx h2 h3 hu hb (Nat.eq_of_beq_eq_true hl) hl'
      ·cases hs
     ·cases hs
    ·cases hs
   ·cases hc
  ·cases hc
 ·cases hc
theorem compOpds_len:∀ {os:List Operand} {xs:List Opd},compOpds os=some xs→xs.length=os.length
 | [],xs,h=>by cases h; rfl
 | o :: r,xs,h=>by
  simp only [compOpds,Option.bind_eq_some_iff,Option.map_eq_some_iff] at h
  obtain ⟨x,_,xr,hxr,rfl⟩:=h
  simp [compOpds_len hxr]
theorem compCall_sound (hI:Inv E.gx γ M w) (ht:TmR γ tm a.tmps) {c:Call} {q g:AOp} {out:Out} (ho:o.op=.call c) (hc:compCall P c=some q) (hs:stepOp E tm M (withMu q g)=some out):OutOK P E.gx γ M w a o out:=by
 unfold compCall at hc
 split at hc
 ·-- len
  rename_i x t h1 h2 h3
  split at hc
  ·rename_i hu
   simp only [Option.map_eq_some_iff] at hc
   obtain ⟨x',hx,rfl⟩:=hc
   simp only [withMu,stepOp,Option.bind_eq_some_iff] at hs
   obtain ⟨u,hvx,n,hn,hs⟩:=hs
   cases hs
   exact op_len hI ht ho h1 h2 h3 hx (.inl ⟨rfl,hu⟩) hvx hn
  ·rename_i e hu
   simp only [Option.map_eq_some_iff] at hc
   obtain ⟨x',hx,rfl⟩:=hc
   simp only [withMu,stepOp,Option.bind_eq_some_iff] at hs
   obtain ⟨u,hvx,n,hn,hs⟩:=hs
   cases hs
   exact op_len hI ht ho h1 h2 h3 hx (.inr ⟨rfl,e,hu⟩) hvx hn
  ·cases hc
 ·-- min
  rename_i x y h1 h2
  simp only [Option.bind_eq_some_iff,Option.map_eq_some_iff] at hc
  obtain ⟨x',hx,y',hy,rfl⟩:=hc
  simp only [withMu,stepOp,Option.bind_eq_some_iff] at hs
  obtain ⟨u,hvx,v,hvy,hs⟩:=hs
  split at hs <;> cases hs
  exact op_min hI ht ho h1 h2 hx hy hvx hvy
 ·-- append
  rename_i x y s t h1 h2 h3
  have key:∀ e,P.underlying s=some (.slice e)→((∃ e',P.underlying t=some (.slice e'))∨P.underlying t=some .string) →
    ((compOpd x).bind fun a=>(compOpd y).bind fun b=>(sizeT P e).bind fun n=>(bytesT P e).bind fun z=>(zeroT P e).bind fun zs=>if zs.length=n then some (AOp.app false n z a b) else none)=some q→OutOK P E.gx γ M w a o out:=by
   intro e hu hk hc
   simp only [Option.bind_eq_some_iff] at hc
   obtain ⟨x',hx,y',hy,n,hn,bt,hbt,z,hz,hc⟩:=hc
   split at hc
   ·rename_i hzl
    cases hc
    have:∃ mu,withMu (.app false n bt x' y') g=.app mu n bt x' y':=by cases g <;> exact ⟨_,rfl⟩
    obtain ⟨mu,e1⟩:=this
    rw [e1] at hs
    simp only [stepOp,Option.bind_eq_some_iff,Option.map_eq_some_iff] at hs
    obtain ⟨u,hvx,v,hvy,m,hm,ys,hys,⟨r,M'⟩,hr,rfl⟩:=hs
    exact op_app hI ht ho h1 h2 h3 hu hk hn hbt hz hzl hx hy hvx hvy hm hys hr
   ·cases hc
  split at hc
  ·rename_i h4 h5; exact key _ h4 (.inl ⟨_,h5⟩) hc
  ·rename_i h4 h5; exact key _ h4 (.inr h5) hc
  ·rename_i h4 h5
   simp only [Option.bind_eq_some_iff] at hc
   obtain ⟨x',hx,y',hy,n,hn,bt,hbt,z,hz,hc⟩:=hc
   split at hc
   ·rename_i hzl
    cases hc
    simp only [withMu,stepOp,Option.bind_eq_some_iff] at hs
    obtain ⟨u,hvx,v,hvy,m,hm,hs⟩:=hs
    split at hs
    ·split at hs
     ·rename_i hm0
      cases hs
      exact op_appZ hI ht ho h1 h2 h3 h4 h5 hn hbt hz hzl.1 hzl.2 hx hy hvx hvy hm (.inl ⟨hm0,rfl,rfl⟩)
     ·rename_i hm0
      split at hs
      ·rename_i hle
       cases hs
       exact op_appZ hI ht ho h1 h2 h3 h4 h5 hn hbt hz hzl.1 hzl.2 hx hy hvx hvy hm (.inr ⟨hm0,hle.1,hle.2.1,rfl,rfl⟩)
      ·cases hs
    ·cases hs
   ·cases hc
  ·cases hc
 ·-- cap
  rename_i x t h1 h2 h3
  split at hc
  ·rename_i hu
   simp only [Option.map_eq_some_iff] at hc
   obtain ⟨x',hx,rfl⟩:=hc
   simp only [withMu,stepOp,Option.bind_eq_some_iff] at hs
   obtain ⟨u,hvx,hs⟩:=hs
   split at hs <;> cases hs
   ·exact op_cap hI ht ho h1 h2 h3 hx hu hvx (n:=0) (.inl ⟨rfl,rfl⟩)
   ·exact op_cap hI ht ho h1 h2 h3 hx hu hvx (.inr ⟨_,_,rfl⟩)
  ·cases hc
 ·-- copy
  rename_i x y s t h1 h2 h3
  have key:∀ e,P.underlying s=some (.slice e)→((compOpd x).bind fun a=>(compOpd y).bind fun b=>(sizeT P e).map fun n=>AOp.cpy n a b)=some q→OutOK P E.gx γ M w a o out:=by
   intro e hu hc
   simp only [Option.bind_eq_some_iff,Option.map_eq_some_iff] at hc
   obtain ⟨x',hx,y',hy,n,hn,rfl⟩:=hc
   simp only [withMu,stepOp,Option.bind_eq_some_iff] at hs
   obtain ⟨u,hvx,v,hvy,m,hm,ys,hys,hs⟩:=hs
   split at hs
   ·split at hs
    ·split at hs
     ·rename_i hb hle
      cases hs
      exact op_cpy hI ht ho h1 h2 h3 hu hn hx hy hvx hvy hm hys hb hle.1 hle.2
     ·cases hs
    ·cases hs
   ·cases hs
  split at hc
  ·rename_i h4 h5; exact key _ h4 hc
  ·rename_i h4 h5; exact key _ h4 hc
  ·cases hc
 ·-- clear
  rename_i x t h1 h2 h3
  split at hc
  ·rename_i hu
   simp only [Option.bind_eq_some_iff] at hc
   obtain ⟨x',hx,n,hn,z,hz,hc⟩:=hc
   split at hc
   ·rename_i hzl
    cases hc
    simp only [withMu,stepOp,Option.bind_eq_some_iff] at hs
    obtain ⟨u,hvx,hs⟩:=hs
    split at hs
    ·split at hs
     ·rename_i hn0
      subst hn0
      cases hs
      exact op_clr hI ht ho h1 h2 h3 hu hz hzl hx hvx (.inr (.inl ⟨_,_,_,rfl,rfl⟩))
     ·rename_i hn0
      split at hs
      ·split at hs
       ·rename_i hb hle
        cases hs
        exact op_clr hI ht ho h1 h2 h3 hu hz hzl hx hvx (.inr (.inr ⟨_,_,_,_,_,rfl,hn0,hb,hle.1,rfl⟩))
       ·cases hs
      ·cases hs
    ·cases hs
     exact op_clr hI ht ho h1 h2 h3 hu hz hzl hx hvx (.inl ⟨rfl,rfl⟩)
    ·cases hs
   ·cases hc
  ·cases hc
 ·-- a function
  rename_i f h1
  simp only [Option.map_eq_some_iff] at hc
  obtain ⟨xs,hx,rfl⟩:=hc
  have:∃ ad,withMu (.call false f xs) g=.call ad f xs:=by cases g <;> exact ⟨_,rfl⟩
  obtain ⟨ad,e1⟩:=this
  rw [e1] at hs
  simp only [stepOp,Option.map_eq_some_iff] at hs
  obtain ⟨vs,hvs,rfl⟩:=hs
  refine ⟨_,evxs_sound hI ht hx hvs,?_⟩
  have e2:(c.args.toList.map a.eval).toArray=c.args.map a.eval:=by rw [← Array.toList_map,Array.toArray_toList]
  rw [e2]
  simp [execOp,ho,resolve,h1,Act.eval,Deferred.ofValue,invoke]
 ·-- a function value
  rename_i x hnf h1
  simp only [Option.bind_eq_some_iff,Option.map_eq_some_iff] at hc
  obtain ⟨x',hx,xs,hxs,rfl⟩:=hc
  simp only [withMu,stepOp,Option.bind_eq_some_iff] at hs
  obtain ⟨u,hu,vs,hvs,hs⟩:=hs
  split at hs
  ·rename_i f fa fc
   cases hs
   have hv:=evx_sound hI ht hx hu
   generalize hz:a.eval x=z at hv
   cases hv with
   | fn _ _ _ _ va vb hla hlb ha hb=>
    have hr:VRs γ false (fa ++ vs ++ fc) (va.toList ++ c.args.toList.map a.eval ++ vb.toList):=(VRs.append ⟨hla,ha⟩ (evxs_sound hI ht hxs hvs)).append ⟨hlb,hb⟩
    refine ⟨_,hr,?_⟩
    have e2:(va.toList ++ c.args.toList.map a.eval ++ vb.toList).toArray=va ++ c.args.map a.eval ++ vb:=by simp
    rw [e2]
    simp [execOp,ho,resolve,h1,hz,Deferred.ofValue,invoke,Array.append_assoc]
  ·rename_i id ts ys
   cases hs
   have hv:=evx_sound hI ht hx hu
   generalize hz:a.eval x=z at hv
   cases hv with
   | yld _ _ _ y hy hid hl ht'=>
    refine ⟨y,_,hy,hid,ht',evxs_sound hI ht hxs hvs,?_⟩
    have e2:(c.args.toList.map a.eval).toArray=c.args.map a.eval:=by rw [← Array.toList_map,Array.toArray_toList]
    rw [e2]
    simp [execOp,ho,resolve,h1,hz,Deferred.ofValue,invoke]
  ·cases hs
 ·cases hc
theorem comp1_sound (hI:Inv E.gx γ M w) (ht:TmR γ tm a.tmps) {q g:AOp} {out:Out} (hc:compOp1 P o.op=some q) (hs:stepOp E tm M (withMu q g)=some out):OutOK P E.gx γ M w a o out:=by
 unfold compOp1 at hc
 split at hc
 ·rename_i x ho
  simp only [Option.map_eq_some_iff] at hc
  obtain ⟨x',hx,rfl⟩:=hc
  simp only [withMu,stepOp,Option.map_eq_some_iff] at hs
  obtain ⟨u,hu,rfl⟩:=hs
  exact op_mv hI ht (.inl ho) hx hu
 ·rename_i x ho
  simp only [Option.map_eq_some_iff] at hc
  obtain ⟨x',hx,rfl⟩:=hc
  simp only [withMu,stepOp,Option.map_eq_some_iff] at hs
  obtain ⟨u,hu,rfl⟩:=hs
  exact op_mv hI ht (.inr ho) hx hu
 ·rename_i c x y ho
  simp only [Option.bind_eq_some_iff,Option.map_eq_some_iff] at hc
  obtain ⟨c',hc',x',hx,y',hy,rfl⟩:=hc
  simp only [withMu,stepOp,Option.bind_eq_some_iff] at hs
  obtain ⟨u,hu,hs⟩:=hs
  split at hs
  ·simp only [Option.map_eq_some_iff] at hs
   obtain ⟨v,hv,rfl⟩:=hs
   exact op_pick hI ht ho hc' hx hy hu hv
  ·cases hs
 ·rename_i e ho
  simp only [Option.map_eq_some_iff] at hc
  obtain ⟨z,hz,rfl⟩:=hc
  simp only [withMu,stepOp] at hs
  cases hs
  exact op_alloc hI ho hz
 ·rename_i e x ho
  simp only [Option.map_eq_some_iff] at hc
  obtain ⟨x',hx,rfl⟩:=hc
  simp only [withMu,stepOp,Option.bind_eq_some_iff] at hs
  obtain ⟨u,hu,hs⟩:=hs
  split at hs
  ·rename_i h1
   cases hs
   exact op_box hI ht ho hx hu h1
  ·cases hs
 ·rename_i t ps ho
  simp only [Option.bind_eq_some_iff] at hc
  obtain ⟨z,hz,hc⟩:=hc
  split at hc
  ·rename_i fs hu
   split at hc
   ·rename_i hpl
    obtain ⟨places,hpl⟩:=Option.isSome_iff_exists.1 hpl
    simp only [Option.map_eq_some_iff] at hc
    obtain ⟨aps0,haps,rfl⟩:=hc
    simp only [withMu,stepOp,Option.bind_eq_some_iff] at hs
    obtain ⟨aps,hv,cs,hf,hs⟩:=hs
    cases hs
    exact op_build hI ht ho hz (.inl ⟨fs,places,hu,hpl,haps⟩) hv hf
   ·cases hc
  ·rename_i m e hu
   simp only [Option.bind_eq_some_iff,Option.map_eq_some_iff] at hc
   obtain ⟨n,hn,aps0,haps,rfl⟩:=hc
   simp only [withMu,stepOp,Option.bind_eq_some_iff] at hs
   obtain ⟨aps,hv,cs,hf,hs⟩:=hs
   cases hs
   exact op_build hI ht ho hz (.inr ⟨m,e,n,hu,hn,haps⟩) hv hf
  ·cases hc
 ·rename_i t len ps ho
  split at hc
  ·rename_i e hu
   simp only [Option.bind_eq_some_iff] at hc
   obtain ⟨n,hn,z,hz,aps0,haps,hc⟩:=hc
   split at hc
   ·rename_i hle
    cases hc
    have:withMu (.mkS len (List.replicate len z).flatten aps0) g=.mkS len (List.replicate len z).flatten aps0∨withMu (.mkS len (List.replicate len z).flatten aps0) g=.mkSm len (List.replicate len z).flatten aps0:=by
     cases g <;> first | exact .inl rfl | exact .inr rfl
    rcases this with e1 | e1 <;> rw [e1] at hs <;> simp only [stepOp,Option.bind_eq_some_iff] at hs
    ·obtain ⟨aps,hv,cs,hf,cs',hp,hs⟩:=hs
     cases hs
     exact op_mkS hI ht ho hu hn hz haps hle.1 hle.2 hv hf hp
    ·obtain ⟨aps,hv,cs,hf,hs⟩:=hs
     split at hs
     ·rename_i h1
      cases hs
      exact op_mkSm hI ht ho hu hn hz haps hle.1 hle.2 hv hf h1
     ·cases hs
   ·cases hc
  ·cases hc
 ·rename_i t x ho
  simp only [Option.bind_eq_some_iff] at hc
  obtain ⟨x',hx,b,hb,hc⟩:=hc
  split at hc
  ·rename_i hbt
   subst hbt
   simp only [Option.map_eq_some_iff] at hc
   obtain ⟨n,hn,rfl⟩:=hc
   simp only [withMu,stepOp,Option.bind_eq_some_iff] at hs
   obtain ⟨u,hu,hs⟩:=hs
   split at hs
   ·split at hs
    ·split at hs
     ·rename_i hbx hle
      cases hs
      exact op_ldA hI ht ho hx hb hn hu (.inl ⟨_,_,_,rfl,hbx,Nat.le_of_ble_eq_true hle,rfl⟩)
     ·cases hs
    ·cases hs
   ·split at hs
    ·rename_i hle
     cases hs
     exact op_ldA hI ht ho hx hb hn hu (.inr ⟨_,rfl,Nat.le_of_ble_eq_true hle,rfl⟩)
    ·cases hs
   ·cases hs
  ·rename_i hbt
   have hbf:b=false:=by simpa using hbt
   subst hbf
   cases hc
   simp only [withMu,stepOp,Option.bind_eq_some_iff] at hs
   obtain ⟨u,hu,hs⟩:=hs
   split at hs
   ·split at hs
    ·rename_i hbx
     simp only [Option.map_eq_some_iff] at hs
     obtain ⟨r,hr,rfl⟩:=hs
     exact op_ld1 hI ht ho hx hb hu (.inl ⟨_,_,_,rfl,hbx,hr⟩)
    ·cases hs
   ·cases hs
    exact op_ld1 hI ht ho hx hb hu (.inr ⟨_,rfl⟩)
   ·cases hs
 ·rename_i t x y ho
  simp only [Option.bind_eq_some_iff,Option.map_eq_some_iff] at hc
  obtain ⟨x',hx,y',hy,n,hn,rfl⟩:=hc
  simp only [withMu,stepOp,Option.bind_eq_some_iff] at hs
  obtain ⟨u,hu,v,hv,hs⟩:=hs
  split at hs
  ·split at hs
   ·split at hs
    ·rename_i hbx hle
     simp only [Bool.and_eq_true] at hle
     cases hs
     exact op_st hI ht ho hx hy hn hu hv hbx (Nat.eq_of_beq_eq_true hle.1.1) (Nat.le_of_ble_eq_true hle.1.2) hle.2
    ·cases hs
   ·cases hs
  ·cases hs
 ·rename_i x ho
  simp only [Option.map_eq_some_iff] at hc
  obtain ⟨x',hx,rfl⟩:=hc
  simp only [withMu,stepOp,Option.bind_eq_some_iff] at hs
  obtain ⟨u,hu,hs⟩:=hs
  split at hs <;> cases hs
  ·exact op_nilck hI ht ho hx hu (.inl ⟨_,_,rfl⟩)
  ·exact op_nilck hI ht ho hx hu (.inr (.inl ⟨_,rfl⟩))
  ·exact op_nilck hI ht ho hx hu (.inr (.inr (.inl ⟨_,_,_,rfl⟩)))
  ·exact op_nilck hI ht ho hx hu (.inr (.inr (.inr ⟨_,_,rfl⟩)))
 ·rename_i op t x y ty ho
  exact compBin_sound hI ht ho hc hs
 ·rename_i op t x ho
  simp only [Option.map_eq_some_iff] at hc
  obtain ⟨x',hx,rfl⟩:=hc
  simp only [withMu,stepOp,Option.bind_eq_some_iff,Option.map_eq_some_iff] at hs
  obtain ⟨u,hu,r,hr,rfl⟩:=hs
  exact op_un hI ht ho hx hu hr
 ·rename_i s d x ho
  exact compConv_sound hI ht ho hc hs
 ·rename_i t x ho
  split at hc
  ·cases hc
  ·rename_i d hd hni
   simp only [Option.map_eq_some_iff] at hc
   obtain ⟨x',hx,rfl⟩:=hc
   simp only [withMu,stepOp,Option.bind_eq_some_iff] at hs
   obtain ⟨u,hu,hs⟩:=hs
   cases hs
   exact op_mkI hI ht ho hx hni (fun ms h=>hd ms h) hu
  ·cases hc
 ·rename_i f x y ho
  simp only [Option.bind_eq_some_iff,Option.map_eq_some_iff] at hc
  obtain ⟨x',hx,y',hy,rfl⟩:=hc
  simp only [withMu,stepOp,Option.bind_eq_some_iff] at hs
  obtain ⟨u,hu,v,hv,hs⟩:=hs
  cases hs
  exact op_mkF hI ht ho hx hy hu hv
 ·rename_i t x y ho
  split at hc
  ·rename_i e hu
   simp only [Option.bind_eq_some_iff] at hc
   obtain ⟨x',hx,y',hy,n,hn,bt,hbt,z,hz,hc⟩:=hc
   split at hc
   ·rename_i hzl
    cases hc
    simp only [withMu,stepOp,Option.bind_eq_some_iff] at hs
    obtain ⟨u,hvx,v,hvy,l,hl,c,hcc,hs⟩:=hs
    split at hs
    ·rename_i hle
     cases hs
     exact op_mkM hI ht ho hx hy hu hn hbt hz hzl hvx hvy hl hcc hle.1 hle.2.1 hle.2.2.1
    ·cases hs
   ·cases hc
  ·cases hc
 ·rename_i t x lo hi mx ho
  simp only [Option.bind_eq_some_iff] at hc
  obtain ⟨x',hx,lo',hlo,hi',hhi,mx',hmx,hc⟩:=hc
  split at hc
  ·rename_i hu
   split at hc
   ·cases hc
   ·rename_i hm
    cases hc
    have hmn:mx=none:=by
     cases mx with
     | none=>rfl
     | some y=>
      simp only [compO,Option.map_eq_some_iff] at hmx
      obtain ⟨z,_,rfl⟩:=hmx
      simp at hm
    subst hmn
    simp only [withMu,stepOp,Option.bind_eq_some_iff] at hs
    obtain ⟨u,hvx,lv,hvl,hv,hvh,hs⟩:=hs
    split at hs
    ·simp only [Option.map_eq_some_iff] at hs
     obtain ⟨r,hr,rfl⟩:=hs
     exact op_slcS hI ht ho hx hlo hhi hu hvx hvl hvh hr
    ·cases hs
  ·rename_i e hu
   simp only [Option.map_eq_some_iff] at hc
   obtain ⟨n,hn,rfl⟩:=hc
   simp only [withMu,stepOp,Option.bind_eq_some_iff,Option.map_eq_some_iff] at hs
   obtain ⟨u,hvx,lv,hvl,hv,hvh,mv,hvm,r,hr,rfl⟩:=hs
   exact op_slc hI ht ho hx hlo hhi hmx hu hn hvx hvl hvh hvm hr
  ·rename_i len e hu
   split at hc
   ·cases hc
   ·rename_i hm
    simp only [Option.map_eq_some_iff] at hc
    obtain ⟨n,hn,rfl⟩:=hc
    have hmn:mx=none:=by
     cases mx with
     | none=>rfl
     | some y=>
      simp only [compO,Option.map_eq_some_iff] at hmx
      obtain ⟨z,_,rfl⟩:=hmx
      simp at hm
    subst hmn
    simp only [withMu,stepOp,Option.bind_eq_some_iff] at hs
    obtain ⟨u,hvx,lv,hvl,hv,hvh,⟨p,q,m⟩,hb,hs⟩:=hs
    split at hs
    ·split at hs
     ·rename_i hle
      cases hs
      exact op_slcA hI ht ho hx hlo hhi hu hn hvx hvl hvh hb (.inl ⟨_,_,rfl,.inl ⟨Nat.le_of_ble_eq_true hle,rfl⟩⟩)
     ·rename_i hle
      cases hs
      refine op_slcA hI ht ho hx hlo hhi hu hn hvx hvl hvh hb (.inl ⟨_,_,rfl,.inr ⟨fun h=>hle ?_,rfl⟩⟩)
      rw [Nat.ble_eq]; exact h
    ·split at hs
     ·rename_i hle
      cases hs
      exact op_slcA hI ht ho hx hlo hhi hu hn hvx hvl hvh hb (.inr ⟨_,rfl,Nat.le_of_ble_eq_true hle,rfl⟩)
     ·cases hs
    ·cases hs
  ·cases hc
 ·rename_i t x i ho
  simp only [Option.bind_eq_some_iff] at hc
  obtain ⟨x',hx,hc⟩:=hc
  split at hc
  ·rename_i fs hu
   simp only [Option.bind_eq_some_iff] at hc
   obtain ⟨f,hf,n,hn,hc⟩:=hc
   split at hc
   ·cases hc
   ·rename_i hn0
    cases hc
    simp only [withMu,stepOp,Option.bind_eq_some_iff] at hs
    obtain ⟨u,hvx,hs⟩:=hs
    split at hs <;> cases hs
    ·exact op_fa hI ht ho hx hu hf hn hn0 hvx (.inl ⟨_,_,rfl,rfl⟩)
    ·exact op_fa hI ht ho hx hu hf hn hn0 hvx (.inr ⟨_,rfl,rfl⟩)
  ·cases hc
 ·rename_i t x y ho
  simp only [Option.bind_eq_some_iff] at hc
  obtain ⟨x',hx,y',hy,hc⟩:=hc
  split at hc
  ·rename_i e hu
   simp only [Option.map_eq_some_iff] at hc
   obtain ⟨n,hn,rfl⟩:=hc
   simp only [withMu,stepOp,Option.bind_eq_some_iff] at hs
   obtain ⟨u,hvx,v,hvy,i,hi,hs⟩:=hs
   split at hs
   ·split at hs
    ·rename_i hle
     simp only [Bool.and_eq_true] at hle
     cases hs
     exact op_ia hI ht ho hx hy hu hn hvx hvy hi (.inl ⟨_,_,_,_,rfl,Nat.le_of_ble_eq_true hle.1,rfl⟩)
    ·cases hs
   ·split at hs
    ·rename_i hle
     cases hs
     exact op_ia hI ht ho hx hy hu hn hvx hvy hi (.inr ⟨_,_,_,_,rfl,Nat.le_of_ble_eq_true hle,rfl⟩)
    ·cases hs
   ·cases hs
  ·rename_i m e hu
   simp only [Option.map_eq_some_iff] at hc
   obtain ⟨n,hn,rfl⟩:=hc
   simp only [withMu,stepOp,Option.bind_eq_some_iff] at hs
   obtain ⟨u,hvx,v,hvy,i,hi,hs⟩:=hs
   split at hs
   ·rename_i hle
    split at hs <;> cases hs
    ·exact op_iaA hI ht ho hx hy hu hn hvx hvy hi (Nat.le_of_ble_eq_true hle) (.inr ⟨_,_,rfl,rfl⟩)
    ·exact op_iaA hI ht ho hx hy hu hn hvx hvy hi (Nat.le_of_ble_eq_true hle) (.inl ⟨_,rfl,rfl⟩)
   ·cases hs
  ·cases hc
 ·rename_i t x y ho
  simp only [Option.bind_eq_some_iff] at hc
  obtain ⟨x',hx,y',hy,hc⟩:=hc
  split at hc
  ·rename_i hu
   cases hc
   simp only [withMu,stepOp,Option.bind_eq_some_iff] at hs
   obtain ⟨u,hvx,v,hvy,i,hi,hs⟩:=hs
   split at hs
   ·simp only [Option.bind_eq_some_iff] at hs
    obtain ⟨b,hb,hs⟩:=hs
    cases hs
    exact op_ixS hI ht ho hx hy hu hvx hvy hi hb
   ·cases hs
  ·rename_i m e hu
   simp only [Option.bind_eq_some_iff] at hc
   obtain ⟨n,hn,b,hb,hc⟩:=hc
   split at hc
   ·rename_i hq
    obtain ⟨rfl,rfl⟩:=hq
    cases hc
    simp only [withMu,stepOp,Option.bind_eq_some_iff] at hs
    obtain ⟨u,hvx,v,hvy,i,hi,hs⟩:=hs
    split at hs
    ·split at hs
     ·rename_i hle
      simp only [Option.map_eq_some_iff] at hs
      obtain ⟨r,hr,rfl⟩:=hs
      exact op_ixA hI ht ho hx hy hu hn hb hvx hvy hi (Nat.le_of_ble_eq_true hle) hr
     ·cases hs
    ·cases hs
   ·cases hc
  ·cases hc
 ·rename_i x i ho
  simp only [Option.map_eq_some_iff] at hc
  obtain ⟨x',hx,rfl⟩:=hc
  simp only [withMu,stepOp,Option.bind_eq_some_iff] at hs
  obtain ⟨u,hu,hs⟩:=hs
  split at hs
  ·simp only [Option.map_eq_some_iff] at hs
   obtain ⟨r,hr,rfl⟩:=hs
   exact op_ext hI ht ho hx hu hr
  ·cases hs
 ·rename_i c ho
  exact compCall_sound hI ht ho hc hs
 ·rename_i t x ho
  split at hc
  ·rename_i hu
   simp only [Option.map_eq_some_iff] at hc
   obtain ⟨x',hx,rfl⟩:=hc
   simp only [withMu,stepOp,Option.bind_eq_some_iff] at hs
   obtain ⟨u,hvx,hs⟩:=hs
   split at hs <;> cases hs
   exact op_rng hI ht ho hx hu hvx
  ·cases hc
 ·rename_i x ho
  simp only [Option.map_eq_some_iff] at hc
  obtain ⟨x',hx,rfl⟩:=hc
  simp only [withMu,stepOp,Option.bind_eq_some_iff] at hs
  obtain ⟨u,hvx,hs⟩:=hs
  split at hs
  ·split at hs
   ·rename_i hb
    simp only [Option.map_eq_some_iff] at hs
    obtain ⟨r,hr,hs⟩:=hs
    split at hs <;> cases hs
    ·exact op_nxt hI ht ho hx hvx hb (.inl ⟨_,_,hr,rfl,rfl⟩)
    ·exact op_nxt hI ht ho hx hvx hb (.inr ⟨hr,rfl,rfl⟩)
   ·cases hs
  ·cases hs
 ·cases hc
theorem step_sound (hI:Inv E.gx γ M w) (ht:TmR γ tm a.tmps) {q g:AOp} {out:Out} (hc:withMu (compOp P o.op) g=q) (hs:stepOp E tm M q=some out):OutOK P E.gx γ M w a o out:=by
 subst hc
 unfold compOp at hs
 cases h:compOp1 P o.op with
 | none=>
  rw [h] at hs
  simp only [Option.getD_none,withMu,stepOp,reduceCtorEq] at hs
 | some x=>
  rw [h] at hs
  exact comp1_sound hI ht h hs
end Go.Sx
namespace Go.Sx
variable {P:Program} {E:Env}
def Grow (M M':Mem):Prop:=
 M.nb≤M'.nb∧∃ new:List Nat,M'.log=new ++ M.log∧M'.nl=M.nl + new.length∧(∀ b,b < M.nb→b ∉ new→M'.get b=M.get b)∧((∀ b x,M.get b=some x→b < M.nb)→∀ b x,M'.get b=some x→b < M'.nb)
theorem Grow.refl (M:Mem):Grow M M:=⟨Nat.le_refl _,[],rfl,rfl,fun _ _ _=>rfl,fun h=>h⟩
theorem Grow.trans {M M1 M2:Mem} (h:Grow M M1) (k:Grow M1 M2):Grow M M2:=by
 obtain ⟨h1,n1,h2,h3,h4,h5⟩:=h
 obtain ⟨k1,n2,k2,k3,k4,k5⟩:=k
 refine ⟨Nat.le_trans h1 k1,n2 ++ n1,by rw [k2,h2,List.append_assoc],by rw [k3,h3,List.length_append]; omega,fun b hb hn=>?_,fun q=>k5 (h5 q)⟩
 rw [List.mem_append] at hn
 rw [k4 b (by omega) (fun h=>hn (.inl h)),h4 b hb (fun h=>hn (.inr h))]
theorem Grow.wr {M M':Mem} (h:Grow M M') {b:Nat} (hb:b < M.nb) (hn:b ∉ wrOf M M'):M'.get b=M.get b:=by
 obtain ⟨h1,new,h2,h3,h4,_⟩:=h
 refine h4 b hb fun hm=>hn ?_
 unfold wrOf
 rw [List.mem_append]
 left
 rw [h2,h3,Nat.add_sub_cancel_left,List.take_left' rfl]
 exact hm
theorem Grow.new (M:Mem) (x:Box):Grow M (M.new x):=⟨Nat.le_succ _,[],rfl,rfl,fun b hb _=>by rw [Mem.get_new,if_neg (by omega)],fun q b y hy=>by
 rw [Mem.get_new] at hy
 simp only [Mem.new]
 split at hy
 ·omega
 ·have:=q b y hy; omega⟩
theorem Grow.set (M:Mem) (b:Nat) (x:Box):Grow M (M.set b x):=⟨Nat.le_refl _,[b],rfl,rfl,fun j hj hn=>by
 rw [Mem.get_set,if_neg (fun e=>hn (by simp [e]))],fun q j y hy=>by
 rw [Mem.get_set] at hy
 simp only [Mem.set]
 split at hy
 ·rename_i e
  subst e
  split at hy
  ·rename_i hs
   obtain ⟨z,hz⟩:=Option.isSome_iff_exists.1 hs
   exact q _ z hz
  ·cases hy
 ·exact q j y hy⟩
theorem Grow.kill (M:Mem) (b:Nat):Grow M (M.kill b):=⟨Nat.le_refl _,[b],rfl,rfl,fun j hj hn=>by
 rw [Mem.get_kill,if_neg (fun e=>hn (by simp [e]))],fun q j y hy=>by
 rw [Mem.get_kill] at hy
 simp only [Mem.kill]
 split at hy
 ·cases hy
 ·exact q j y hy⟩
theorem Grow.tok (M:Mem) (n z:Nat):Grow M (M.tok n z):=⟨Nat.le_refl _,[],rfl,rfl,fun b hb _=>rfl,fun q=>q⟩
theorem Grow.bump (M:Mem) (k n:Nat):Grow M (M.bump k n):=⟨Nat.le_refl _,[],rfl,rfl,fun b hb _=>rfl,fun q=>q⟩
theorem appV_grow {mu : Bool} {M M' : Mem} {esz bytes m : Nat} {x r : AV} {ys : List AV} (h : appV mu M esz bytes x m ys = some (r, M')) : Grow M M' := by
  unfold appV at h
  repeat' split at h
  all_goals first
    | (cases h; done)
    | (cases h; first | exact Grow.refl _ | exact Grow.new _ _ | exact Grow.set _ _ _ | exact (Grow.kill _ _).trans (Grow.new _ _))
    | (simp only [Option.map_eq_some_iff] at h
       obtain ⟨ys', hp, he⟩ := h
       cases he
       first | exact Grow.tok _ _ _ | exact Grow.bump _ _ _)
theorem stepOp_grow {tm : Tm} {M M' : Mem} {op : AOp} {v : AV} (h : stepOp E tm M op = some (.val v M')) : Grow M M' := by
  cases op <;> simp only [stepOp, Option.bind_eq_some_iff, Option.map_eq_some_iff, Option.some.injEq, Out.val.injEq, reduceCtorEq, and_false, exists_false] at h
  case app mu esz bytes x y =>
    obtain ⟨_, _, _, _, _, _, _, _, ⟨r, M2⟩, hr, he⟩ := h
    obtain ⟨_, rfl⟩ := he
    exact appV_grow hr
  all_goals
    (repeat' (first
        | (obtain ⟨_, _, h⟩ := h)
        | (split at h))
     all_goals (try simp only [Option.bind_eq_some_iff, Option.map_eq_some_iff, Option.some.injEq, Out.val.injEq, reduceCtorEq, and_false, exists_false] at h)
     repeat' (first
        | (obtain ⟨_, _, h⟩ := h)
        | (split at h))
     all_goals (first
        | exact Grow.refl _ | exact Grow.new _ _ | exact Grow.set _ _ _ | exact Grow.kill _ _
        | (cases h; done)
        | (obtain ⟨_, rfl⟩ := h; first | exact Grow.refl _ | exact Grow.new _ _ | exact Grow.set _ _ _ | exact Grow.kill _ _)
        | (subst h; first | exact Grow.refl _ | exact Grow.new _ _ | exact Grow.set _ _ _ | exact Grow.kill _ _)
        | (cases h; first | exact Grow.refl _ | exact Grow.new _ _ | exact Grow.set _ _ _ | exact Grow.kill _ _)))
end Go.Sx
namespace Go.Sx
variable {P:Program} {E:Env}
def Upon (P:Program) (f:Nat) (vs:Array Value) (w:World) (R:Value→World→Prop):Prop:=
 match (callFunc f vs).run P w with
 | .ok (.value v) w'=>R v w'
 | .ok (.enter g args) w'=>Calls P g args w' fun
   | .returned v,w''=>R v w''
   | _,_=>False
 | .ok (.row row args) w'=>Rows P row args w' R
 | _=>False
theorem Upon.mono {f:Nat} {vs:Array Value} {w:World} {R R':Value→World→Prop} (h:Upon P f vs w R) (hr:∀ v w',R v w'→R' v w'):Upon P f vs w R':=by
 unfold Upon at *
 generalize (callFunc f vs).run P w=r at *
 cases r with
 | halt x w'=>exact h
 | ok n w'=>
  cases n <;> first
   | exact hr _ _ h
   | exact Rows.mono h hr
   | exact Calls.mono h fun e w' he=>by cases e <;> first | exact hr _ _ he | exact he
   | exact h
abbrev FR (r:Option Nat):Fence:={ Fence.wide with round:=r }
theorem FR_room (r:Option Nat) (n:Nat):(FR r).room n:=fun d hd=>by simp [Fence.wide] at hd
theorem FR_calls {r:Option Nat} {n:Nat} {f:FuncId} {args:Array Value} {w:World} {R:Ending→World→Prop} (h:Calls P f args w R):CallsIn (FR r) n P f args w R:=by
 have h1:CallsIn Fence.wide n P f args w R:=callsIn_wide.2 h
 exact ⟨trivial,fun cs hr=>h1.2 cs (room_wide _)⟩
theorem FR_rows {r:Option Nat} {n:Nat} {row:String} {args:Array Value} {w:World} {R:Value→World→Prop} (h:Rows P row args w R):RowsIn (FR r) n P row args w R:=fun c cs _=>by
 obtain ⟨v,w',h1,h2⟩:=h c cs
 exact ⟨v,w',h1,stepsIn_wide.2 h2⟩
theorem semAt_plain {ro:Option Nat} {ρ:Operand→Value} {o:Oper} (h:∀ c,o.op≠.defer c):o.semAt ro ρ=execOp ρ o:=Oper.semAt_eq ro ρ o h
theorem Upon.wp {ro:Option Nat} {k:Nat} {o:Oper} {a:Act} {w:World} {K:Act→World→Prop} {Q:Exit→Act→World→Prop} {f:Nat} {vs:Array Value} (hnd:∀ c,o.op≠.defer c) (hx:(execOp a.eval o).run P w=(callFunc f vs).run P w)
  (h:Upon P f vs w fun r w'=>K (a.put o.dst r) w'):o.wpIn (FR ro) k P a w K Q:=by
 unfold Oper.wpIn
 refine ⟨fun _ _=>trivial,?_⟩
 rw [semAt_plain hnd,hx]
 unfold Upon at h
 generalize (callFunc f vs).run P w=r at *
 cases r with
 | halt x w'=>exact h.elim
 | ok n w'=>
  cases n <;> first
   | exact h
   | exact ⟨fun hd=>by simp [Fence.wide] at hd,FR_calls (Calls.mono h fun e w' he=>by cases e <;> first | exact he | exact he.elim)⟩
   | exact ⟨fun hd=>by simp [Fence.wide] at hd,FR_rows h⟩
   | exact h.elim
def CallOK (P:Program) (E:Env) (f:Nat) (args:List AV) (M:Mem) (v:AV) (M':Mem):Prop:=
 Grow M M'∧∀ (γ:Cx) (w:World) (vs:List Value),Inv E.gx γ M w→VRs γ false args vs→Upon P f vs.toArray w fun r w'=>∃ γ',VR γ' false v r∧Nx E.gx γ M w γ' M' w'
def RoundR (P:Program) (ro:Option Nat) (l:Nat) (xs:Array Value) (w:World) (R:Value→World→Prop):Prop:=
 ∃ fn tmps assign body,(Instr.yield l xs).run P w=.ok (.round l fn tmps assign body) w∧RoundIn (FR ro) 0 P l fn tmps assign body w fun
  | .returned v,w'=>R v w'
  | _,_=>False
def YieldOK (P:Program) (E:Env) (id:Nat) (ts:List Nat) (cs args:List AV) (M:Mem) (v:AV) (M':Mem):Prop:=
 Grow M M'∧∀ (ro:Option Nat) (γ:Cx) (w:World) (y:YI) (xs:List Value),Inv E.gx γ M w→γ.Y=some y→y.id=id→(∀ (i t:Nat) (a:AV),ts[i]?=some t→cs[i]?=some a→VR γ false a (y.lp.tmps.getD t undef))→VRs γ false args xs →
  RoundR P ro y.l xs.toArray w fun r w'=>∃ γ',VR γ' false v r∧Nx E.gx γ M w γ' M' w'
def StepOK (P:Program) (E:Env) (q:AOper) (tm:Tm) (M:Mem) (v:AV) (M':Mem):Prop:=
 (wants tm q.guard=some true∧(stepOp E tm M q.op=some (.val v M')∨(∃ ad f args,stepOp E tm M q.op=some (.call ad f args)∧CallOK P E f args M v M')∨∃ id ts cs args,stepOp E tm M q.op=some (.yield id ts cs args)∧YieldOK P E id ts cs args M v M')) ∨
 (wants tm q.guard=some false∧v=.undef∧M'=M)
theorem StepOK.grow {q:AOper} {tm:Tm} {M:Mem} {v:AV} {M':Mem} (h:StepOK P E q tm M v M'):Grow M M':=by
 rcases h with ⟨_,h | ⟨ad,f,args,_,h,_⟩ | ⟨id,ts,cs,args,_,h,_⟩⟩ | ⟨_,_,rfl⟩
 ·exact stepOp_grow h
 ·exact h
 ·exact h
 ·exact Grow.refl _
theorem wanted_sound {γ:Cx} {tm:Tm} {a:Act} (ht:TmR γ tm a.tmps) {ops:Array Oper} {o:Oper} {b:Bool} (hw:wants tm (guardOf ops.toList o.guard)=some b):Region.wanted o (yielded ops a.tmps)=b:=by
 unfold Region.wanted
 unfold guardOf at hw
 split at hw
 ·rename_i hg
  simp only [wants,Option.some.injEq] at hw
  rw [hg]; exact hw
 ·rename_i j want hg
  rw [hg]
  simp only [Array.getElem?_toList] at hw
  cases hd:(ops[j]?).bind (·.dst) with
  | none=>rw [hd] at hw; simp [wants] at hw
  | some t=>
   rw [hd] at hw
   have hv:=ht t
   unfold wants at hw
   have hy:∀ u,a.tmps.getD t undef=u→yielded ops a.tmps j=(match a.tmps[t]? with | some (.bool b)=>some b | _=>none):=fun u _=>by
    unfold yielded
    rw [hd]
    rfl
   have hy:=hy _ rfl
   split at hw
   ·rename_i he; cases he
   ·rename_i t' want' he
    simp only [Option.some.injEq,Prod.mk.injEq] at he
    obtain ⟨rfl,rfl⟩:=he
    split at hw
    ·rename_i x hl
     rw [hl] at hv
     have e:=hv.bool_inv
     cases hw
     rw [Array.getD_eq_getD_getElem?] at e
     cases hq:a.tmps[t]? with
     | none=>rw [hq] at e; cases e
     | some u=>
      rw [hq] at e
      simp only [Option.getD_some] at e
      subst e
      rw [hq] at hy
      simp only [hy]
      cases x <;> cases want <;> rfl
    ·rename_i hl
     rw [hl] at hv
     obtain ⟨xs,e,hxs⟩:=hv.tup_inv
     cases hw
     rw [Array.getD_eq_getD_getElem?] at e
     cases hq:a.tmps[t]? with
     | none=>rw [hq] at hy; simp only [hy]; rfl
     | some u=>
      rw [hq] at e
      simp only [Option.getD_some] at e
      subst e
      rw [hq] at hy
      simp only [hy]
      rfl
    ·cases hw
   ·rename_i he; cases he
theorem TmR.put {γ:Cx} {tm:Tm} {a:Act} (ht:TmR γ tm a.tmps) {d:Option Nat} {v:AV} {r:Value} {n:Nat} (hd:dstOK n d=true) (hn:n≤a.tmps.size) (hv:VR γ false v r):TmR γ (put tm d v) (a.put d r).tmps:=by
 cases d with
 | none=>exact ht
 | some d=>
  have hlt:d < a.tmps.size:=by
   have:=Nat.le_of_ble_eq_true hd
   omega
  intro i
  simp only [Sx.put,lk,Act.put]
  by_cases hi:d=i
  ·subst hi
   rw [beq_self]
   simp only [if_true,Array.getD_eq_getD_getElem?,Array.getElem?_setIfInBounds_self,hlt]
   exact hv
  ·rw [beq_ne hi]
   simp only [Array.getD_eq_getD_getElem?]
   rw [Array.getElem?_setIfInBounds_ne hi]
   have:=ht i
   rw [Array.getD_eq_getD_getElem?] at this
   exact this
theorem put_size {a:Act} {d:Option Nat} {r:Value}:(a.put d r).tmps.size=a.tmps.size:=by
 cases d <;> simp [Act.put]
theorem put_defers {a:Act} {d:Option Nat} {r:Value}:(a.put d r).defers=a.defers:=by
 cases d <;> rfl
theorem no_defer {o:Oper} {g:AOp} {tm:Tm} {M:Mem} {out:Out} (h:stepOp E tm M (withMu (compOp P o.op) g)=some out):∀ c,o.op≠.defer c:=fun c hc=>by
 rw [hc] at h
 have e:compOp P (.defer c)=.stop:=rfl
 rw [e] at h
 cases g <;> simp [withMu,stepOp] at h
theorem wpOp_sound {ro:Option Nat} {γ:Cx} {M:Mem} {w:World} {tm:Tm} {a:Act} {ops:Array Oper} {i:Nat} {o:Oper} {g:AOp} {q:AOper} {v:AV} {M':Mem} {K:Act→World→Prop} {Q:Exit→Act→World→Prop}
  (hI:Inv E.gx γ M w) (ht:TmR γ tm a.tmps) (ho:ops[i]?=some o) (hc:withMu (compOp P o.op) g=q.op) (hg:q.guard=guardOf ops.toList o.guard) (h:StepOK P E q tm M v M')
  (hK:∀ γ' r w',VR γ' false v r→Nx E.gx γ M w γ' M' w'→K (a.put o.dst r) w'):wpOpIn (FR ro) 0 P ops Q i K a w:=by
 unfold wpOpIn
 rw [ho]
 simp only
 rcases h with ⟨hw,h⟩ | ⟨hw,rfl,rfl⟩
 ·rw [hg] at hw
  rw [wanted_sound ht hw,if_pos rfl]
  rcases h with h | ⟨ad,f,args,h,_,hcall⟩ | ⟨id,ts,cs,args,h,_,hy⟩
  ·have hnd:=no_defer (P:=P) (g:=g) (by rw [hc]; exact h)
   obtain ⟨γ',r,w',hr,hv,hN⟩:=step_sound hI ht hc h
   unfold Oper.wpIn
   refine ⟨fun _ _=>trivial,?_⟩
   rw [semAt_plain hnd]
   rcases hr with hr | ⟨hr,rfl⟩
   ·rw [hr]; exact hK γ' r w' hv hN
   ·rw [hr]; exact hK γ' undef w' hv hN
  ·have hnd:=no_defer (P:=P) (g:=g) (by rw [hc]; exact h)
   obtain ⟨vs,hvs,hx⟩:=step_sound hI ht hc h
   exact Upon.wp hnd hx (Upon.mono (hcall γ w vs hI hvs) fun r w' ⟨γ',hv,hN⟩=>hK γ' r w' hv hN)
  ·have hnd:=no_defer (P:=P) (g:=g) (by rw [hc]; exact h)
   obtain ⟨y,xs,hy1,hy2,hy3,hxs,hx⟩:=step_sound hI ht hc h
   obtain ⟨fn,tmps,assign,body,hr,hR⟩:=hy ro γ w y xs hI hy1 hy2 hy3 hxs
   unfold Oper.wpIn
   refine ⟨fun _ _=>trivial,?_⟩
   rw [semAt_plain hnd,hx,hr]
   refine ⟨fun hd=>by simp [Fence.wide] at hd,hR.mono fun e w' he=>?_⟩
   cases e with
   | returned r=>
    obtain ⟨γ',hv,hN⟩:=he
    exact hK γ' r w' hv hN
   | panicked ch=>exact he.elim
   | outgrown=>exact he.elim
 ·rw [hg] at hw
  rw [wanted_sound ht hw,if_neg (by simp)]
  exact ⟨fun _ _=>trivial,hK γ undef w (VR.mktup (VRs.nil _ _)) (Nx.refl hI)⟩
inductive Tr (P:Program) (E:Env):List AOper→Tm→Mem→Tm→Mem→Prop
 | nil (tm:Tm) (M:Mem):Tr P E [] tm M tm M
 | cons {q:AOper} {rest:List AOper} {tm:Tm} {M:Mem} {v:AV} {M1:Mem} {tm':Tm} {M':Mem} (h:StepOK P E q tm M v M1) (hr:Tr P E rest (put tm q.dst v) M1 tm' M'):Tr P E (q :: rest) tm M tm' M'
theorem Tr.grow:∀ {l:List AOper} {tm:Tm} {M:Mem} {tm':Tm} {M':Mem},Tr P E l tm M tm' M'→Grow M M'
 | [],_,_,_,_,.nil _ _=>Grow.refl _
 | _ :: _,_,_,_,_,.cons h hr=>h.grow.trans hr.grow
theorem tr_text {ro:Option Nat} {ops:Array Oper} {n:Nat} {ds:List Deferred} {Q:Exit→Act→World→Prop}:∀ {gl l:List AOper} {done:List Nat} {tm:Tm} {M:Mem} {tm':Tm} {M':Mem} {γ:Cx} {a:Act} {w:World},
  compOps P n false ops.toList gl done [] []=some l→Tr P E l tm M tm' M'→Inv E.gx γ M w→TmR γ tm a.tmps→a.defers=ds→n≤a.tmps.size →
  (∀ γ' a' w',Nx E.gx γ M w γ' M' w'→TmR γ' tm' a'.tmps→a'.defers=ds→n≤a'.tmps.size→Q .normal a' w')→wpOpsIn (FR ro) 0 P ops Q (List.range' done.length gl.length) a w
 | [],l,done,tm,M,tm',M',γ,a,w,hc,hr,hI,ht,hd,hn,hQ=>by
  cases hc
  cases hr
  exact hQ γ a w (Nx.refl hI) ht hd hn
 | g :: gl,l,done,tm,M,tm',M',γ,a,w,hc,hr,hI,ht,hd,hn,hQ=>by
  simp only [compOps,Option.bind_eq_some_iff] at hc
  obtain ⟨o,ho,hc⟩:=hc
  split at hc
  ·cases hc
  ·rename_i hck
   simp only [Bool.false_eq_true,if_false] at hc
   split at hc
   ·rename_i hidx
    simp only [Option.map_eq_some_iff] at hc
    obtain ⟨l',hl',rfl⟩:=hc
    have hidx:=Nat.eq_of_beq_eq_true hidx
    simp only [Bool.or_eq_true,not_or,Bool.not_eq_true,Bool.not_eq_false'] at hck
    cases hr with
    | cons h hr=>
     rw [List.length_cons,List.range'_succ,wpOpsIn_cons]
     rw [← hidx]
     refine wpOp_sound hI ht (by rw [Array.getElem?_toList] at ho; exact ho) rfl rfl h fun γ1 r w1 hv hN=>?_
     have:=tr_text (ro:=ro) (done:=g.idx :: done) (a:=a.put o.dst r) hl' hr hN.inv ((ht.mono hN.le).put hck.2 hn hv) (by rw [put_defers]; exact hd) (by rw [put_size]; exact hn) fun γ' a' w' hN' ht' hd' hn'=>hQ γ' a' w' (hN.trans hN') ht' hd' hn'
     rw [List.length_cons,← hidx] at this
     exact this
   ·cases hc
end Go.Sx
namespace Go.Sx
variable {P:Program} {E:Env}
def Same (tm tm':Tm) (l:List Nat):Prop:=∀ t∈l,lk tm' t=lk tm t
theorem Same.left {tm tm':Tm} {x y:List Nat} (h:Same tm tm' (x ++ y)):Same tm tm' x:=fun t ht=>h t (List.mem_append_left _ ht)
theorem Same.right {tm tm':Tm} {x y:List Nat} (h:Same tm tm' (x ++ y)):Same tm tm' y:=fun t ht=>h t (List.mem_append_right _ ht)
theorem evx_same {tm tm':Tm} {x:Opd} (h:Same tm tm' (opdT x)):evx E tm' x=evx E tm x:=by
 cases x with
 | t i=>simp only [evx]; rw [h i (by simp [opdT])]
 | c v=>rfl
 | g i=>rfl
theorem evxs_same {tm tm':Tm}:∀ {xs:List Opd},Same tm tm' (opdsT xs)→evxs E tm' xs=evxs E tm xs
 | [],_=>rfl
 | x :: r,h=>by simp only [evxs]; rw [evx_same h.left,evxs_same h.right]
theorem evo_same {tm tm':Tm} {x:Option Opd} (h:Same tm tm' (opdO x)):evo E tm' x=evo E tm x:=by
 cases x with
 | none=>rfl
 | some x=>simp only [evo]; rw [evx_same h]
theorem evparts_same {tm tm':Tm}:∀ {ps:List (Nat × Nat × Opd)},Same tm tm' (partT ps)→evparts E tm' ps=evparts E tm ps
 | [],_=>rfl
 | (o,n,x) :: r,h=>by simp only [evparts]; rw [evx_same h.left,evparts_same h.right]
theorem stepOp_same {tm tm':Tm} {M:Mem} {op:AOp} (h:Same tm tm' (opT op)):stepOp E tm' M op=stepOp E tm M op:=by
 cases op
 case alloc=>rfl
 case stop=>rfl
 all_goals simp only [opT] at h
 all_goals simp only [stepOp]
 all_goals
  first
  | rw [evx_same h]
  | rw [evparts_same h]
  | rw [evxs_same h]
  | rw [evx_same h.left,evx_same h.right]
  | rw [evxs_same h.left,evxs_same h.right]
  | rw [evx_same h.left,evxs_same h.right]
  | rw [evx_same h.left.left,evx_same h.left.right,evx_same h.right]
  | rw [evx_same h.left.left,evo_same h.left.right,evo_same h.right]
  | rw [evx_same h.left.left.left,evo_same h.left.left.right,evo_same h.left.right,evo_same h.right]
  | skip
theorem wants_same {tm tm':Tm} {g:Option (Option Nat × Bool)} (h:Same tm tm' (guardT g)):wants tm' g=wants tm g:=by
 unfold wants
 split
 ·rfl
 ·rename_i t b
  rw [h t (by simp [guardT])]
 ·rfl
theorem stepOp_minor {tm : Tm} {M M1 : Mem} {op : AOp} {v : AV} (hm : isMaj op = false) (h : stepOp E tm M op = some (.val v M1)) : M1 = M := by
  cases op <;> simp only [isMaj, Bool.true_eq_false, reduceCtorEq] at hm <;> simp only [stepOp, Option.bind_eq_some_iff, Option.map_eq_some_iff, Option.some.injEq, Out.val.injEq, reduceCtorEq, and_false, exists_false] at h <;>
    (repeat' (first
        | (obtain ⟨_, _, h⟩ := h)
        | (split at h))
     all_goals (try simp only [Option.bind_eq_some_iff, Option.map_eq_some_iff, Option.some.injEq, Out.val.injEq, reduceCtorEq, and_false, exists_false] at h)
     repeat' (first
        | (obtain ⟨_, _, h⟩ := h)
        | (split at h))
     all_goals (first
        | rfl
        | (cases h; done)
        | (obtain ⟨_, rfl⟩ := h; rfl)
        | (exact h.symm)
        | (subst h; rfl)
        | (cases h; rfl)))
theorem stepOp_mem {tm : Tm} {M M1 M' : Mem} {op : AOp} {v : AV} (hm : isMaj op = false) (h : stepOp E tm M op = some (.val v M1)) (hr : ∀ b ∈ readsOf E tm M op, M'.get b = M.get b) : stepOp E tm M' op = some (.val v M') := by
  have boxes : ∀ {x : Opd} {u : AV}, evx E tm x = some u → boxAt E tm x = boxOf u := fun {x u} hx => by unfold boxAt; rw [hx]
  have els : ∀ {x : Opd} {u : AV} {cs : List AV}, evx E tm x = some u → (∀ b ∈ boxAt E tm x, M'.get b = M.get b) → elemsS M u = some cs → elemsS M' u = some cs := fun {x u cs} hx hr he => by
    rw [boxes hx] at hr
    cases u <;> simp only [elemsS, elems] at he ⊢ <;> first | exact he | skip
    rename_i b off n c
    rw [hr b (by simp [boxOf])]
    exact he
  cases op <;> simp only [isMaj, Bool.true_eq_false, reduceCtorEq] at hm
  case ldA n x =>
    simp only [stepOp, Option.bind_eq_some_iff] at h ⊢
    obtain ⟨u, hu, h⟩ := h
    refine ⟨u, hu, ?_⟩
    simp only [readsOf, boxes hu] at hr
    cases u <;> first | (cases h; done) | (try dsimp only at h ⊢)
    · rename_i b off
      rw [hr b (by simp [boxOf])]
      split at h
      · split at h
        · rename_i hle; simp only [hle, if_true]; cases h; rfl
        · cases h
      · cases h
    · split at h
      · rename_i hle; simp only [hle, if_true]; cases h; rfl
      · cases h
  case ld1 x =>
    simp only [stepOp, Option.bind_eq_some_iff] at h ⊢
    obtain ⟨u, hu, h⟩ := h
    refine ⟨u, hu, ?_⟩
    simp only [readsOf, boxes hu] at hr
    cases u <;> first | (cases h; done) | (try dsimp only at h ⊢)
    · rename_i b off
      rw [hr b (by simp [boxOf])]
      split at h
      · simp only [Option.map_eq_some_iff] at h ⊢
        obtain ⟨r, hr', he⟩ := h
        cases he
        exact ⟨_, hr', rfl⟩
      · cases h
    · split at h
      all_goals first | (cases h; done) | skip
      all_goals first | (cases h; rfl) | (split at * <;> first | (cases h; rfl) | (cases h; done) | (simp_all; done))
  case b2s x =>
    simp only [stepOp, Option.bind_eq_some_iff] at h ⊢
    obtain ⟨u, hu, cs, hcs, l, hl, h⟩ := h
    cases h
    exact ⟨u, hu, cs, els hu hr hcs, l, hl, rfl⟩
  case rs2s x =>
    simp only [stepOp, Option.bind_eq_some_iff] at h ⊢
    obtain ⟨u, hu, cs, hcs, l, hl, h⟩ := h
    cases h
    exact ⟨u, hu, cs, els hu hr hcs, l, hl, rfl⟩
  all_goals
    (have e := stepOp_minor (E := E) (tm := tm) rfl h
     subst e
     clear hr boxes els hm
     simp only [stepOp, Option.bind_eq_some_iff, Option.map_eq_some_iff, Option.some.injEq, Out.val.injEq, reduceCtorEq, and_false, exists_false] at h ⊢)
  all_goals
    (repeat' (first
      | (obtain ⟨u, hu, h⟩ := h; refine ⟨u, hu, ?_⟩)
      | (split at h <;> (try dsimp only) <;> (try (rename_i hc; first | rw [if_pos hc] | rw [if_neg hc])) <;> (try simp only [Option.bind_eq_some_iff, Option.map_eq_some_iff, Option.some.injEq, Out.val.injEq] at h ⊢))))
  all_goals first
    | exact h
    | (cases h; done)
    | (exact ⟨h.1, rfl⟩)
    | (cases h; rfl)
    | (simp_all; done)
end Go.Sx
namespace Go.Sx
variable {P:Program} {E:Env}
def WfM (M:Mem):Prop:=∀ b x,M.get b=some x→b < M.nb
theorem Grow.wf {M M':Mem} (h:Grow M M') (hw:WfM M):WfM M':=by
 obtain ⟨_,_,_,_,_,h5⟩:=h
 exact h5 hw
theorem Grow.same {M M':Mem} (h:Grow M M') (hw:WfM M) {b:Nat} (hn:b ∉ wrOf M M'):M'.get b=M.get b:=by
 rcases Nat.lt_or_ge b M.nb with hb | hb
 ·exact h.wr hb hn
 ·have hb':M'.nb≤b:=by
   unfold wrOf at hn
   rw [List.mem_append,not_or,List.mem_range'_1] at hn
   have:=h.1
   omega
  have h1:M.get b=none:=by
   cases hg:M.get b with
   | none=>rfl
   | some x=>have:=hw b x hg; omega
  have h2:M'.get b=none:=by
   cases hg:M'.get b with
   | none=>rfl
   | some x=>have:=h.wf hw b x hg; omega
  rw [h1,h2]
structure Ent where
 q:AOper
 o:Oper
 g:AOp
 anc:Nat
 float:Bool
 tm:Tm
 M:Mem
 v:AV
 M1:Mem
 rd:List Nat
def Ent.maj (h:Ent):Bool:=isMaj h.q.op
def Ent.names (h:Ent):List Nat:=opT h.q.op ++ guardT h.q.guard
def Ent.wr (h:Ent):List Nat:=wrOf h.M h.M1
def Closed (ops:Array Oper) (D:Nat→Prop):Prop:=∀ i o,ops[i]?=some o→D i→∀ e∈o.after,Region.binds .any e=true→D e.on
structure EntOK (P:Program) (E:Env) (ops:Array Oper) (n:Nat) (h:Ent) (past:List Ent):Prop where
 ho:ops[h.q.idx]?=some h.o
 hc:withMu (compOp P h.o.op) h.g=h.q.op
 hd:h.q.dst=h.o.dst
 hg:h.q.guard=guardOf ops.toList h.o.guard
 dstok:dstOK n h.o.dst=true
 step:StepOK P E h.q h.tm h.M h.v h.M1
 rdok:wants h.tm h.q.guard=some true→h.rd=readsOf E h.tm h.M h.q.op
 new:∀ p∈past,p.q.idx≠h.q.idx
 edges:∀ e∈h.o.after,Region.binds .any e=true→∃ p∈past,p.q.idx=e.on
 anc:∀ D,Closed ops D→(∀ e∈h.o.after,Region.binds .any e=true→D e.on)→∀ j,h.anc.testBit j=true→D j
 fits:∀ p∈past,h.anc.testBit p.q.idx=true∨((h.maj=true→p.maj=true→p.float=true)∧(∀ d,p.q.dst=some d→d ∉ h.names∧h.q.dst≠some d)∧∀ d,h.q.dst=some d→d ∉ p.names)
 clear:∀ p∈past,h.anc.testBit p.q.idx=false→(h.maj=true∨p.maj=true)→(∀ b∈h.rd,b ∉ p.wr)∧(∀ b∈h.wr,b ∉ p.wr)∧∀ b∈p.rd,b ∉ h.wr
 flt:h.float=true→isAlloc h.o.op=true∧h.o.after=#[]∧h.o.guard=none∧∀ p∈past,p.float=true
inductive Hist (P:Program) (E:Env) (ops:Array Oper) (n:Nat) (tm0:Tm) (M0:Mem):List Ent→Tm→Mem→Prop
 | nil:Hist P E ops n tm0 M0 [] tm0 M0
 | cons {h:Ent} {past:List Ent} (hp:Hist P E ops n tm0 M0 past h.tm h.M) (hok:EntOK P E ops n h past):Hist P E ops n tm0 M0 (h :: past) (put h.tm h.q.dst h.v) h.M1
variable {ops:Array Oper} {n:Nat} {tm0:Tm} {M0:Mem}
theorem call_major {tm : Tm} {M : Mem} {op : AOp} {ad : Bool} {f : Nat} {args : List AV} (h : stepOp E tm M op = some (.call ad f args)) : isMaj op = true := by
  cases hm : isMaj op with
  | true => rfl
  | false =>
    exfalso
    cases op <;> simp only [isMaj, Bool.true_eq_false, reduceCtorEq] at hm <;> simp only [stepOp, Option.bind_eq_some_iff, Option.map_eq_some_iff, Option.some.injEq, reduceCtorEq, and_false, exists_false] at h <;>
      (repeat' (first
        | (obtain ⟨_, _, h⟩ := h)
        | (split at h))
       all_goals (try simp only [Option.bind_eq_some_iff, Option.map_eq_some_iff, Option.some.injEq, reduceCtorEq, and_false, exists_false] at h)
       repeat' (first
        | (obtain ⟨_, _, h⟩ := h)
        | (split at h))
       all_goals (first | (cases h; done) | (simp at h; done)))
theorem yield_major {tm : Tm} {M : Mem} {op : AOp} {id : Nat} {ts : List Nat} {cs args : List AV} (h : stepOp E tm M op = some (.yield id ts cs args)) : isMaj op = true := by
  cases hm : isMaj op with
  | true => rfl
  | false =>
    exfalso
    cases op <;> simp only [isMaj, Bool.true_eq_false, reduceCtorEq] at hm <;> simp only [stepOp, Option.bind_eq_some_iff, Option.map_eq_some_iff, Option.some.injEq, reduceCtorEq, and_false, exists_false] at h <;>
      (repeat' (first
        | (obtain ⟨_, _, h⟩ := h)
        | (split at h))
       all_goals (try simp only [Option.bind_eq_some_iff, Option.map_eq_some_iff, Option.some.injEq, reduceCtorEq, and_false, exists_false] at h)
       repeat' (first
        | (obtain ⟨_, _, h⟩ := h)
        | (split at h))
       all_goals (first | (cases h; done) | (simp at h; done)))
theorem StepOK.minor {q:AOper} {tm:Tm} {M:Mem} {v:AV} {M':Mem} (hm:isMaj q.op=false) (h:StepOK P E q tm M v M'):M'=M:=by
 rcases h with ⟨_,h | ⟨ad,f,args,h,_⟩ | ⟨id,ts,cs,args,h,_⟩⟩ | ⟨_,_,h⟩
 ·exact stepOp_minor hm h
 ·have:=call_major h
  rw [hm] at this; cases this
 ·have:=yield_major h
  rw [hm] at this; cases this
 ·exact h
section
variable (D:Nat→Bool)
def tmD (tm0:Tm):List Ent→Tm
 | []=>tm0
 | h :: past=>if D h.q.idx then put (tmD tm0 past) h.q.dst h.v else tmD tm0 past
def memD (M0:Mem):List Ent→Mem
 | []=>M0
 | h :: past=>if h.maj && (h.float || D h.q.idx) then h.M1 else memD M0 past
end
theorem Hist.wf {hs:List Ent} {tm:Tm} {M:Mem} (hw:WfM M0) (h:Hist P E ops n tm0 M0 hs tm M):WfM M:=by
 induction h with
 | nil=>exact hw
 | cons hp hok ih=>exact hok.step.grow.wf ih
theorem lk_put {tm:Tm} {d:Option Nat} {v:AV} {t:Nat}:lk (put tm d v) t=if d=some t then v else lk tm t:=by
 cases d with
 | none=>simp [put]
 | some d=>
  by_cases h:d=t
  ·subst h; simp [put,lk]
  ·simp [put,lk,beq_ne h,h]
theorem tm_A {D:Nat→Bool} {t:Nat} {A:List Ent} {tm:Tm} {M:Mem} (h:Hist P E ops n tm0 M0 A tm M) (hA:∀ p∈A,D p.q.idx=false→p.q.dst≠some t):lk (tmD D tm0 A) t=lk tm t:=by
 induction h with
 | nil=>rfl
 | @cons h past hp hok ih=>
  have ih:=ih fun p hp=>hA p (List.mem_cons_of_mem _ hp)
  simp only [tmD]
  split
  ·rw [lk_put,lk_put,ih]
  ·rename_i hd
   rw [lk_put,if_neg (hA h (List.mem_cons_self) (by simpa using hd)),ih]
theorem tm_B {D:Nat→Bool} {t:Nat} {R:List Ent}:∀ {B:List Ent},(∀ p∈B,D p.q.idx=true→p.q.dst≠some t)→lk (tmD D tm0 (B ++ R)) t=lk (tmD D tm0 R) t
 | [],_=>rfl
 | h :: B,hB=>by
  have ih:lk (tmD D tm0 (B ++ R)) t=lk (tmD D tm0 R) t:=tm_B fun p hp=>hB p (List.mem_cons_of_mem _ hp)
  simp only [List.cons_append,tmD]
  split
  ·rename_i hd
   rw [lk_put,if_neg (hB h List.mem_cons_self hd),ih]
  ·exact ih
theorem mem_A {D:Nat→Bool} {A:List Ent} {tm:Tm} {M:Mem} (h:Hist P E ops n tm0 M0 A tm M) (hA:∀ p∈A,p.maj=true→p.float=true∨D p.q.idx=true):memD D M0 A=M:=by
 induction h with
 | nil=>rfl
 | @cons h past hp hok ih=>
  have ih:=ih fun p hp=>hA p (List.mem_cons_of_mem _ hp)
  simp only [memD]
  by_cases hm:h.maj=true
  ·rw [if_pos]
   rw [hm]
   rcases hA h List.mem_cons_self hm with q | q <;> simp [q]
  ·have hm:h.maj=false:=by simpa using hm
   rw [if_neg (by simp [hm]),ih]
   exact (hok.step.minor hm).symm
theorem mem_A' {D:Nat→Bool} {b:Nat} (hw:WfM M0) {A:List Ent} {tm:Tm} {M:Mem} (h:Hist P E ops n tm0 M0 A tm M) (hA:∀ p∈A,p.maj=true→¬ (p.float=true∨D p.q.idx=true)→b ∉ p.wr):(memD D M0 A).get b=M.get b:=by
 induction h with
 | nil=>rfl
 | @cons h past hp hok ih=>
  have ih:=ih fun p hp=>hA p (List.mem_cons_of_mem _ hp)
  simp only [memD]
  split
  ·rfl
  ·rename_i hc
   rw [ih]
   by_cases hm:h.maj=true
   ·refine (hok.step.grow.same (hp.wf hw) (hA h List.mem_cons_self hm fun q=>hc ?_)).symm
    rcases q with q | q <;> simp [hm,q]
   ·rw [hok.step.minor (Bool.eq_false_iff.2 hm)]
theorem mem_B {D:Nat→Bool} {R:List Ent}:∀ {B:List Ent},(∀ p∈B,p.maj=true→¬ (p.float=true∨D p.q.idx=true))→memD D M0 (B ++ R)=memD D M0 R
 | [],_=>rfl
 | h :: B,hB=>by
  simp only [List.cons_append,memD]
  rw [if_neg,mem_B fun p hp=>hB p (List.mem_cons_of_mem _ hp)]
  intro hc
  simp only [Bool.and_eq_true,Bool.or_eq_true] at hc
  exact hB h List.mem_cons_self hc.1 hc.2
theorem mem_L5 {b:Nat} (hw:WfM M0) {k:Ent} {A:List Ent}:∀ {B:List Ent} {tm:Tm} {M:Mem},Hist P E ops n tm0 M0 (B ++ k :: A) tm M→(∀ i∈B,i.maj=true→b ∉ i.wr)→M.get b=k.M1.get b
 | [],_,_,.cons hp hok,_=>rfl
 | j :: B,_,_,.cons hp hok,hB=>by
  rw [← mem_L5 hw hp fun i hi=>hB i (List.mem_cons_of_mem _ hi)]
  by_cases hm:j.maj=true
  ·exact hok.step.grow.same (hp.wf hw) (hB j List.mem_cons_self hm)
  ·rw [hok.step.minor (Bool.eq_false_iff.2 hm)]
theorem Hist.at {k:Ent} {A:List Ent}:∀ {B:List Ent} {tm:Tm} {M:Mem},Hist P E ops n tm0 M0 (B ++ k :: A) tm M→EntOK P E ops n k A∧Hist P E ops n tm0 M0 A k.tm k.M
 | [],_,_,.cons hp hok=>⟨hok,hp⟩
 | _ :: B,_,_,.cons hp _=>Hist.at hp
theorem Hist.tail {j:Ent} {R:List Ent} {tm:Tm} {M:Mem} (h:Hist P E ops n tm0 M0 (j :: R) tm M):EntOK P E ops n j R∧Hist P E ops n tm0 M0 R j.tm j.M:=by
 cases h with
 | cons hp hok=>exact ⟨hok,hp⟩
theorem Hist.split {i:Ent}:∀ {hs:List Ent},i∈hs→∃ B A,hs=B ++ i :: A
 | h :: hs,hi=>by
  rcases List.mem_cons.1 hi with rfl | hi
  ·exact ⟨[],hs,rfl⟩
  ·obtain ⟨B,A,rfl⟩:=Hist.split hi
   exact ⟨h :: B,A,rfl⟩
theorem Hist.later {k:Ent} {A:List Ent} {i:Ent} {B:List Ent} {tm:Tm} {M:Mem} (h:Hist P E ops n tm0 M0 (B ++ k :: A) tm M) (hi:i∈B):∃ past,k∈past∧EntOK P E ops n i past∧(∀ j∈past,j∈B ++ k :: A):=by
 obtain ⟨B1,B2,rfl⟩:=Hist.split hi
 rw [List.append_assoc,List.cons_append] at h
 obtain ⟨hok,_⟩:=h.at
 refine ⟨B2 ++ k :: A,by simp,hok,fun j hj=>by simp only [List.mem_append,List.mem_cons] at hj ⊢; rcases hj with hj | hj | hj <;> simp [hj]⟩
theorem closed_false (ops:Array Oper):Closed ops fun _=>False:=fun _ _ _ h=>h.elim
theorem EntOK.float_anc {h:Ent} {past:List Ent} (hok:EntOK P E ops n h past) (hf:h.float=true) (j:Nat):h.anc.testBit j=false:=by
 obtain ⟨_,ha,_⟩:=hok.flt hf
 cases hb:h.anc.testBit j with
 | false=>rfl
 | true=>exact (hok.anc _ (closed_false ops) (fun e he=>by rw [ha] at he; simp at he) j hb).elim
theorem mem_B' {D:Nat→Bool} (hD:Closed ops fun i=>D i=true) {b:Nat} (hw:WfM M0) {k:Ent} {A:List Ent} {X:Option Box} (hbase:(memD D M0 (k :: A)).get b=X) (hX:k.M1.get b=X) :
  ∀ {B:List Ent} {tm:Tm} {M:Mem},Hist P E ops n tm0 M0 (B ++ k :: A) tm M→(∀ i∈B,i.maj=true→(i.float=true∨D i.q.idx=true)→b ∉ i.wr)→(memD D M0 (B ++ k :: A)).get b=X
 | [],_,_,_,_=>hbase
 | j :: B,tm,M,h,hB=>by
  obtain ⟨hok,hp⟩:=h.tail
  simp only [List.cons_append,memD]
  split
  ·rename_i hc
   simp only [Bool.and_eq_true,Bool.or_eq_true] at hc
   rw [hok.step.grow.same (hp.wf hw) (hB j List.mem_cons_self hc.1 hc.2),mem_L5 hw hp fun i hi hm=>hB i (List.mem_cons_of_mem _ hi) hm ?_,hX]
   rcases hc.2 with hf | hd
   ·exact .inl ((hok.flt hf).2.2.2 i (List.mem_append_left _ hi))
   ·rcases hok.fits i (List.mem_append_left _ hi) with ha | ⟨h1,_⟩
    ·exact .inr (hok.anc _ hD (hD _ _ hok.ho hd) _ ha)
    ·exact .inl (h1 hc.1 hm)
  ·exact mem_B' hD hw hbase hX hp fun i hi=>hB i (List.mem_cons_of_mem _ hi)
end Go.Sx
namespace Go.Sx
variable {P:Program} {E:Env} {ops:Array Oper} {n:Nat} {tm0:Tm} {M0:Mem}
section
variable {D:Nat→Bool} {k:Ent} {A B:List Ent} {tm:Tm} {M:Mem}
theorem no_anc (hD:Closed ops fun i=>D i=true) {i:Ent} {past:List Ent} (hok:EntOK P E ops n i past) (hi:i.float=true∨D i.q.idx=true) {j:Nat} (hj:D j=false):i.anc.testBit j=false:=by
 rcases hi with hf | hd
 ·exact hok.float_anc hf j
 ·cases hb:i.anc.testBit j with
  | false=>rfl
  | true=>
   have:=hok.anc _ hD (hD _ _ hok.ho hd) _ hb
   rw [hj] at this; cases this
theorem ready_anc (hD:Closed ops fun i=>D i=true) {past:List Ent} (hok:EntOK P E ops n k past) (hr:∀ e∈k.o.after,Region.binds .any e=true→D e.on=true) {j:Nat} (hj:D j=false):k.anc.testBit j=false:=by
 cases hb:k.anc.testBit j with
 | false=>rfl
 | true=>
  have:=hok.anc _ hD hr _ hb
  rw [hj] at this; cases this
variable (hD:Closed ops fun i=>D i=true) (hk:D k.q.idx=false) (hr:∀ e∈k.o.after,Region.binds .any e=true→D e.on=true) (h:Hist P E ops n tm0 M0 (B ++ k :: A) tm M)
include hD hk hr h
theorem fact_tm:Same k.tm (tmD D tm0 (B ++ k :: A)) k.names:=by
 intro t ht
 obtain ⟨hok,hA⟩:=h.at
 rw [tm_B fun j hj hd=>?_]
 ·simp only [tmD,hk,Bool.false_eq_true,if_false]
  refine tm_A hA fun p hp hd=>?_
  rcases hok.fits p hp with ha | ⟨_,h2,_⟩
  ·rw [ready_anc hD hok hr hd] at ha; cases ha
  ·intro e
   exact (h2 t e).1 ht
 ·obtain ⟨past,hkp,hokj,_⟩:=h.later hj
  rcases hokj.fits k hkp with ha | ⟨_,_,h3⟩
  ·rw [no_anc hD hokj (.inr hd) hk] at ha; cases ha
  ·intro e
   exact h3 t e ht
theorem fact_maj (hm:k.maj=true) (hf:k.float=false):memD D M0 (B ++ k :: A)=k.M:=by
 obtain ⟨hok,hA⟩:=h.at
 rw [mem_B fun j hj hmj hdj=>?_]
 ·simp only [memD,hk,hf,Bool.or_self,Bool.and_false,Bool.false_eq_true,if_false]
  refine mem_A hA fun p hp hmp=>?_
  rcases hok.fits p hp with ha | ⟨h1,_⟩
  ·right
   cases hd:D p.q.idx with
   | true=>rfl
   | false=>rw [ready_anc hD hok hr hd] at ha; cases ha
  ·exact .inl (h1 hm hmp)
 ·obtain ⟨past,hkp,hokj,_⟩:=h.later hj
  rcases hdj with hfj | hdj
  ·have:=(hokj.flt hfj).2.2.2 k hkp
   rw [hf] at this; cases this
  ·rcases hokj.fits k hkp with ha | ⟨h1,_⟩
   ·rw [no_anc hD hokj (.inr hdj) hk] at ha; cases ha
   ·have:=h1 hmj hm
    rw [hf] at this; cases this
theorem reads_B {b:Nat} (hb:b∈k.rd) {i:Ent} (hi:i∈B) (hm:i.maj=true) (hd:i.float=true∨D i.q.idx=true):b ∉ i.wr:=by
 obtain ⟨past,hkp,hoki,_⟩:=h.later hi
 exact (hoki.clear k hkp (no_anc hD hoki hd hk) (.inl hm)).2.2 b hb
theorem fact_min (hw:WfM M0) (hm:k.maj=false) (hf:k.float=false) {b:Nat} (hb:b∈k.rd):(memD D M0 (B ++ k :: A)).get b=k.M.get b:=by
 obtain ⟨hok,hA⟩:=h.at
 have e1:=hok.step.minor hm
 refine mem_B' hD hw (X:=k.M.get b) ?_ (by rw [e1]) h fun i hi hmi hdi=>reads_B hD hk hr h hb hi hmi hdi
 simp only [memD,hm,Bool.false_and,Bool.false_eq_true,if_false]
 refine mem_A' hw hA fun p hp hmp hdp=>?_
 have hd:D p.q.idx=false:=by
  cases hd:D p.q.idx with
  | false=>rfl
  | true=>exact absurd (.inr hd) hdp
 exact (hok.clear p hp (ready_anc hD hok hr hd) (.inr hmp)).1 b hb
theorem fact_flt (hw:WfM M0) (hm:k.maj=true) (hf:k.float=true) {b:Nat} (hb:b∈k.rd):(memD D M0 (B ++ k :: A)).get b=k.M1.get b:=by
 refine mem_B' hD hw (X:=k.M1.get b) ?_ rfl h fun i hi hmi hdi=>reads_B hD hk hr h hb hi hmi hdi
 simp only [memD,hm,hf,Bool.true_or,Bool.and_self,if_true]
def more (D:Nat→Bool) (k:Ent):Nat→Bool:=fun i=>D i || Nat.beq i k.q.idx
omit hD hk hr in
theorem more_other {i:Ent} (hi:i∈B∨i∈A):more D k i.q.idx=D i.q.idx:=by
 have hne:i.q.idx≠k.q.idx:=by
  rcases hi with hi | hi
  ·obtain ⟨past,hkp,hoki,_⟩:=h.later hi
   exact fun e=>hoki.new k hkp e.symm
  ·exact h.at.1.new i hi
 simp [more,beq_ne hne]
omit hD hk hr h in
theorem memD_congr {D D':Nat→Bool}:∀ {l:List Ent} {M0:Mem},(∀ i∈l,D' i.q.idx=D i.q.idx∨i.maj=false∨i.float=true)→memD D' M0 l=memD D M0 l
 | [],_,_=>rfl
 | i :: l,M0,hc=>by
  simp only [memD]
  rw [memD_congr (l:=l) fun j hj=>hc j (List.mem_cons_of_mem _ hj)]
  rcases hc i List.mem_cons_self with e | e | e
  ·rw [e]
  ·simp [e]
  ·simp [e]
omit hD hk hr h in
theorem tmD_congr {D D':Nat→Bool} {t:Nat}:∀ {l:List Ent} {tm0:Tm},(∀ i∈l,D' i.q.idx=D i.q.idx∨i.q.dst≠some t)→lk (tmD D' tm0 l) t=lk (tmD D tm0 l) t
 | [],_,_=>rfl
 | i :: l,tm0,hc=>by
  have ih:lk (tmD D' tm0 l) t=lk (tmD D tm0 l) t:=tmD_congr fun j hj=>hc j (List.mem_cons_of_mem _ hj)
  simp only [tmD]
  rcases hc i List.mem_cons_self with e | e
  ·rw [e]
   split
   ·rw [lk_put,lk_put,ih]
   ·exact ih
  ·split <;> split <;> simp only [lk_put,if_neg e,ih]
theorem fact_mem:memD (more D k) M0 (B ++ k :: A)=if k.maj=true∧k.float=false then k.M1 else memD D M0 (B ++ k :: A):=by
 split
 ·rename_i hc
  obtain ⟨hm,hf⟩:=hc
  rw [mem_B fun j hj hmj hdj=>?_]
  ·simp [memD,hm,more,beq_self]
  ·rw [more_other h (.inl hj)] at hdj
   obtain ⟨past,hkp,hokj,_⟩:=h.later hj
   rcases hdj with hfj | hdj
   ·have:=(hokj.flt hfj).2.2.2 k hkp
    rw [hf] at this; cases this
   ·rcases hokj.fits k hkp with ha | ⟨h1,_⟩
    ·rw [no_anc hD hokj (.inr hdj) hk] at ha; cases ha
    ·have:=h1 hmj hm
     rw [hf] at this; cases this
 ·rename_i hc
  refine memD_congr fun i hi=>?_
  simp only [List.mem_append,List.mem_cons] at hi
  rcases hi with hi | rfl | hi
  ·exact .inl (more_other h (.inl hi))
  ·right
   cases hm:i.maj with
   | false=>exact .inl rfl
   | true=>
    cases hf:i.float with
    | true=>exact .inr rfl
    | false=>exact absurd ⟨hm,hf⟩ hc
  ·exact .inl (more_other h (.inr hi))
theorem fact_put (t:Nat):lk (tmD (more D k) tm0 (B ++ k :: A)) t=lk (put (tmD D tm0 (B ++ k :: A)) k.q.dst k.v) t:=by
 rw [lk_put]
 split
 ·rename_i hd
  rw [tm_B fun j hj hdj=>?_]
  ·simp only [tmD,more,beq_self,Bool.or_true,if_true]
   rw [lk_put,if_pos hd]
  ·rw [more_other h (.inl hj)] at hdj
   obtain ⟨past,hkp,hokj,_⟩:=h.later hj
   rcases hokj.fits k hkp with ha | ⟨_,h2,_⟩
   ·rw [no_anc hD hokj (.inr hdj) hk] at ha; cases ha
   ·exact (h2 t hd).2
 ·rename_i hd
  refine tmD_congr fun i hi=>?_
  simp only [List.mem_append,List.mem_cons] at hi
  rcases hi with hi | rfl | hi
  ·exact .inl (more_other h (.inl hi))
  ·exact .inr hd
  ·exact .inl (more_other h (.inr hi))
end
theorem done_tm {D:Nat→Bool}:∀ {hs:List Ent} {tm:Tm} {M:Mem},Hist P E ops n tm0 M0 hs tm M→(∀ i∈hs,D i.q.idx=true)→tmD D tm0 hs=tm
 | [],_,_,.nil,_=>rfl
 | k :: A,_,_,.cons hp hok,hall=>by
  simp only [tmD,hall k List.mem_cons_self,if_true]
  rw [done_tm hp fun i hi=>hall i (List.mem_cons_of_mem _ hi)]
end Go.Sx
