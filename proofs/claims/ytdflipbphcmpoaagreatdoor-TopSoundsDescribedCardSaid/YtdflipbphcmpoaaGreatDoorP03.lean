/- A part of the proof of TopSoundsDescribed (texts Xm Xn Xo Xp): an executor of the program's code, proved sound, and its runs. No condition. -/
import Derived.Test.YtdflipbphcmpoaaGreatDoorP02
import Derived.Great.BuildSlice
import Derived.Laws.IdiomCopy
import Derived.Laws.MakeOwn
import Derived.Deep.Upon
set_option linter.unusedSimpArgs false
set_option linter.unusedVariables false
set_option maxRecDepth 100000
namespace Go.Sx
variable {P:Program} {E:Env} {γ:Cx} {M:Mem} {w:World} {tm:Tm} {a:Act} {o:Oper}
inductive PR (γ:Cx) (place:Nat→Option (Nat × Nat)):List (Nat × Value)→List (Nat × Nat × AV)→Prop
 | nil:PR γ place [] []
 | cons {i:Nat} {v:Value} {o n:Nat} {u:AV} {r:List (Nat × Value)} {s:List (Nat × Nat × AV)} (h:place i=some (o,n)) (hv:VR γ false u v) (hr:PR γ place r s):PR γ place ((i,v) :: r) ((o,n,u) :: s)
theorem foldl_splice (off:Nat) (l:List Value) (cs:Array Value) (h:off + l.length≤cs.size) :
  ((l.zipIdx 0).foldl (fun cs (x:Value × Nat)=>cs.setIfInBounds (off + x.2) x.1) cs).toList=splice cs.toList off l:=by
 obtain ⟨h1,h2⟩:=Great.foldl_set off l 0 cs
 apply List.ext_getElem?
 intro k
 rw [Array.getElem?_toList,h2 k]
 have hl:cs.toList.length=cs.size:=Array.length_toList
 simp only [Nat.add_zero,splice]
 by_cases hk:k < off
 ·rw [if_neg (by omega),List.append_assoc,List.getElem?_append_left (by simp; omega),List.getElem?_take,if_pos hk,Array.getElem?_toList]
 ·by_cases hk2:k < off + l.length
  ·rw [if_pos (by omega),List.append_assoc,List.getElem?_append_right (by simp; omega),List.getElem?_append_left (by simp; omega)]
   congr 1
   simp; omega
  ·rw [if_neg (by omega),List.getElem?_append_right (by simp; omega),List.getElem?_drop,← Array.getElem?_toList]
   congr 1
   simp; omega
theorem VRs.splice {γ:Cx} {p:Bool} {z xs:List AV} {vz vs:List Value} (hz:VRs γ p z vz) (hx:VRs γ p xs vs) (off:Nat):VRs γ p (z.take off ++ xs ++ z.drop (off + xs.length)) (splice vz off vs):=by
 unfold Sx.splice
 rw [hx.1]
 exact ((hz.take off).append hx).append (hz.drop _)
theorem fill_sound {place:Nat→Option (Nat × Nat)}:∀ {ps:List (Nat × Value)} {aps:List (Nat × Nat × AV)} {z cs:List AV} {zc:Array Value},PR γ place ps aps→fillA z aps=some cs→VRs γ false z zc.toList→∃ out:Array Value,Instr.fill place zc ps=some out∧VRs γ false cs out.toList
 | [],_,z,cs,zc,.nil,hf,hz=>by cases hf; exact ⟨zc,rfl,hz⟩
 | (i,v) :: ps,_,z,cs,zc,.cons (o:=o) (n:=n) (u:=u) (s:=s) h hv hr,hf,hz=>by
  simp only [fillA] at hf
  split at hf
  ·rename_i hc
   simp only [Bool.and_eq_true] at hc
   obtain ⟨⟨h1,h2⟩,h3⟩:=hc
   have h1:=Nat.eq_of_beq_eq_true h1
   have h2:=Nat.le_of_ble_eq_true h2
   have hcs:=hv.cells1 h3
   have hlen:v.cells.toList.length=n:=by rw [← hcs.1,h1]
   have hsz:v.cells.size=n:=by rw [← Array.length_toList]; exact hlen
   have hzl:zc.size=z.length:=by rw [← Array.length_toList]; exact hz.1.symm
   have hs:=foldl_splice o v.cells.toList zc (by rw [hlen,hzl]; exact h2)
   have hsp:=hz.splice hcs o
   rw [h1] at hsp
   obtain ⟨out,ho,hv2⟩:=fill_sound (zc:=(v.cells.toList.zipIdx 0).foldl (fun cs (x:Value × Nat)=>cs.setIfInBounds (o + x.2) x.1) zc) hr hf (by rw [hs]; exact hsp)
   refine ⟨out,?_,hv2⟩
   simp only [Instr.fill,h]
   rw [if_neg (by simp [hsz]; omega)]
   rw [← ho]
   congr 1
   rw [← Array.foldl_toList]
   simp
  ·cases hf
theorem partsS_sound (hI:Inv E.gx γ M w) (ht:TmR γ tm a.tmps) {fs:List Field} {places:List (Nat × Nat)} (hpl:fs.mapM (fun f=>(P.info? f.type).map fun i=>(f.offset,i.size))=some places):∀ {ps:List (Nat × Operand)} {aps0:List (Nat × Nat × Opd)} {aps:List (Nat × Nat × AV)},
  partsS P fs ps=some aps0→evparts E tm aps0=some aps→PR γ (places[·]?) (ps.map fun (i,x)=>(i,a.eval x)) aps
 | [],_,_,h,hv=>by cases h; cases hv; exact .nil
 | (i,x) :: r,aps0,aps,h,hv=>by
  simp only [partsS,Option.bind_eq_some_iff,Option.map_eq_some_iff] at h
  obtain ⟨f,hf,n,hn,y,hy,ar,har,rfl⟩:=h
  simp only [evparts,Option.bind_eq_some_iff,Option.map_eq_some_iff] at hv
  obtain ⟨u,hu,us,hus,rfl⟩:=hv
  refine .cons ?_ (evx_sound hI ht hy hu) (partsS_sound hI ht hpl har hus)
  obtain ⟨inf,hinf,rfl⟩:=sizeT_spec hn
  clear har hus
  induction fs generalizing i places with
  | nil=>cases hf
  | cons g gs ih=>
   simp only [List.mapM_cons,Option.bind_eq_bind,Option.pure_def,Option.bind_eq_some_iff] at hpl
   obtain ⟨p0,hp0,pr,hpr,e⟩:=hpl
   cases e
   cases i with
   | zero=>cases hf; simpa [hinf] using hp0.symm
   | succ i=>simpa using ih hpr i hf
theorem partsA_sound (hI:Inv E.gx γ M w) (ht:TmR γ tm a.tmps) {n:Nat}:∀ {ps:List (Nat × Operand)} {aps0:List (Nat × Nat × Opd)} {aps:List (Nat × Nat × AV)},
  partsA n ps=some aps0→evparts E tm aps0=some aps→PR γ (fun i=>some (i * n,n)) (ps.map fun (i,x)=>(i,a.eval x)) aps
 | [],_,_,h,hv=>by cases h; cases hv; exact .nil
 | (i,x) :: r,aps0,aps,h,hv=>by
  simp only [partsA,Option.bind_eq_some_iff,Option.map_eq_some_iff] at h
  obtain ⟨y,hy,ar,har,rfl⟩:=h
  simp only [evparts,Option.bind_eq_some_iff,Option.map_eq_some_iff] at hv
  obtain ⟨u,hu,us,hus,rfl⟩:=hv
  exact .cons rfl (evx_sound hI ht hy hu) (partsA_sound hI ht har hus)
theorem op_build (hI:Inv E.gx γ M w) (ht:TmR γ tm a.tmps) {t:TypeId} {ps:Array (Nat × Operand)} {z cs:List AV} {aps0:List (Nat × Nat × Opd)} {aps:List (Nat × Nat × AV)} (ho:o.op=.build t ps) (hz:zeroT P t=some z)
  (hp:(∃ fs places,P.underlying t=some (.struct fs)∧fs.toList.mapM (fun f=>(P.info? f.type).map fun i=>(f.offset,i.size))=some places∧partsS P fs.toList ps.toList=some aps0)∨(∃ m e n,P.underlying t=some (.array m e)∧sizeT P e=some n∧partsA n ps.toList=some aps0))
  (hv:evparts E tm aps0=some aps) (hf:fillA z aps=some cs):Runs P E.gx γ M w a o (.agg cs) M:=by
 obtain ⟨it,zv,hit,hzv,hzc⟩:=zeroT_spec hz
 have key:∃ out:Array Value,P.built t (ps.toList.map fun (i,x)=>(i,a.eval x))=some out∧VRs γ false cs out.toList:=by
  rcases hp with ⟨fs,places,hu,hpl,hps⟩ | ⟨m,e,n,hu,hn,hps⟩
  ·obtain ⟨out,h1,h2⟩:=fill_sound (partsS_sound hI ht hpl hps hv) hf (ofCells_sound hzc)
   refine ⟨out,?_,h2⟩
   simp only [Program.built,hit,hu,hzv,hpl]
   simpa using h1
  ·obtain ⟨ie,hie,rfl⟩:=sizeT_spec hn
   obtain ⟨out,h1,h2⟩:=fill_sound (partsA_sound hI ht hps hv) hf (ofCells_sound hzc)
   refine ⟨out,?_,h2⟩
   simp only [Program.built,hit,hu,hzv,hie]
   exact h1
 obtain ⟨out,h1,h2⟩:=key
 refine Runs.same hI (v:=.agg out) ?_ (VR.mkagg h2)
 have:=run_build (P:=P) w t (ps.map fun (i,x)=>(i,a.eval x)) out (by simpa using h1)
 simp [execOp,ho,this]
theorem flat_get (z:List AV):∀ (k i:Nat),i < k * z.length→(List.replicate k z).flatten[i]?=z[i % z.length]?
 | 0,i,h=>by omega
 | k + 1,i,h=>by
  rw [List.replicate_succ,List.flatten_cons]
  by_cases hi:i < z.length
  ·rw [List.getElem?_append_left hi,Nat.mod_eq_of_lt hi]
  ·rw [Nat.succ_mul] at h
   rw [List.getElem?_append_right (by omega),flat_get z k _ (by omega)]
   congr 1
   exact (Nat.mod_eq_sub_mod (by omega)).symm
theorem VRs.made {γ:Cx} {p:Bool} {z:List AV} {zc:Array Value} (k:Nat) (h:VRs γ p z zc.toList):VRs γ p (List.replicate k z).flatten (madeCells zc (k * z.length)).toList:=by
 refine ⟨by simp [madeCells],fun i x y hx hy=>?_⟩
 have hi:i < k * z.length:=by
  have:=(List.getElem?_eq_some_iff.1 hx).1
  simpa using this
 rw [flat_get z k i hi] at hx
 have hzl:zc.size=z.length:=by rw [← Array.length_toList]; exact h.1.symm
 have hm:i % z.length < zc.size:=by
  rw [hzl]
  refine Nat.mod_lt _ ?_
  rcases Nat.eq_zero_or_pos z.length with h0 | h0
  ·rw [h0] at hi; omega
  ·exact h0
 have hy':zc[i % z.length]?=some y:=by
  simp only [madeCells,Array.toList_map,List.getElem?_map,Option.map_eq_some_iff,Array.toList_range] at hy
  obtain ⟨j,hj,hy⟩:=hy
  rw [List.getElem?_range hi] at hj
  cases hj
  rw [hzl] at hy
  rw [getElem!_pos zc _ hm] at hy
  rw [Array.getElem?_eq_getElem hm,hy]
 exact h.2 _ x y hx (by rw [Array.getElem?_toList]; exact hy')
theorem flat_one {z:List AV} (h:z.all oneA=true) (k:Nat):(List.replicate k z).flatten.all oneA=true:=by
 rw [List.all_eq_true] at h ⊢
 intro x hx
 rw [List.mem_flatten] at hx
 obtain ⟨l,hl,hx⟩:=hx
 rw [List.mem_replicate] at hl
 exact h x (hl.2 ▸ hx)
theorem purC0_sound {γ:Cx} {p q:Bool} {u u':AV} {v:Value} (h:VR γ p u v) (hp:purC0 u=some u'):VR γ q u' v:=by
 cases h with
 | bool _ b=>cases hp; exact .bool q b
 | int _ k n=>cases hp; exact .int q k n
 | str _ l s h=>cases hp; exact .str q l s h
 | nilp _=>cases hp; exact .nilp q
 | ptr b off g h=>cases hp
 | cp _ cs vs g o hl h hi=>cases hp; exact .cp q cs vs g o hl h hi
 | nils _=>cases hp; exact .nils q
 | sl _ t e n cs vs g o c hl h hi hn h1 h2=>
  cases hp
  refine .sl q _ 0 n cs vs g o c hl h hi hn (fun h=>?_) fun k hk=>?_
  ·refine h1 ?_
   split at h
   ·rename_i e; exact Nat.eq_of_beq_eq_true e
   ·cases h
  ·split at hk <;> omega
 | ms b off n c c' g h hn hc hs=>cases hp
 | fn _ f x y vx vy h1 h2 h3 h4=>cases hp
 | nilf _=>cases hp; exact .nilf q
 | iface _ t x y h=>
  simp only [purC0] at hp
  split at hp <;> cases hp
  ·exact .iface q t _ _ (by cases h; exact .int q _ _)
  ·exact .iface q t _ _ (by obtain ⟨s,rfl,hs⟩:=h.str_inv; exact .str q _ _ hs)
  ·exact .iface q t _ _ (by cases h; exact .bool q _)
 | nili _=>cases hp; exact .nili q
 | agg _ cs x hl h=>cases hp
 | tup _ cs x hl h=>cases hp
 | any _ v=>cases hp
 | yld=>cases hp
theorem purL0_sound {γ:Cx} {p q:Bool}:∀ {us us':List AV} {vs:List Value},VRs γ p us vs→purL0 us=some us'→VRs γ q us' vs
 | [],_,vs,h,hp=>by cases hp; rw [h.nil_inv]; exact VRs.nil _ _
 | u :: us,us',vs,h,hp=>by
  obtain ⟨v,r,rfl,h1,h2⟩:=h.cons_inv
  simp only [purL0,Option.bind_eq_some_iff,Option.map_eq_some_iff] at hp
  obtain ⟨x,hx,xs,hxs,rfl⟩:=hp
  exact VRs.cons (purC0_sound h1 hx) (purL0_sound h2 hxs)
theorem run_mkS (hI:Inv E.gx γ M w) (ht:TmR γ tm a.tmps) {t e:TypeId} {len n:Nat} {ps:Array (Nat × Operand)} {z cs:List AV} {aps0:List (Nat × Nat × Opd)} {aps:List (Nat × Nat × AV)} (ho:o.op=.buildSlice t len ps) (hu:P.underlying t=some (.slice e))
  (hn:sizeT P e=some n) (hz:zeroT P e=some z) (hps:partsA n ps.toList=some aps0) (hsm:len * n≤16777216) (hzl:z.length=n)
  (hv:evparts E tm aps0=some aps) (hf:fillA (List.replicate len z).flatten aps=some cs):∃ out:Array Value,VRs γ false cs out.toList∧(execOp a.eval o).run P w=.ok (.value (.slice (some ⟨w.heap.size,0,none⟩) len len)) (w.alloc (.cells out e)):=by
 obtain ⟨it,zv,hit,hzv,hzc⟩:=zeroT_spec hz
 obtain ⟨ie,hie,hsz⟩:=sizeT_spec hn
 rw [hit] at hie; cases hie
 have hm:=VRs.made len (ofCells_sound (γ:=γ) (p:=false) hzc)
 rw [hzl] at hm
 obtain ⟨out,h1,h2⟩:=fill_sound (partsA_sound hI ht hps hv) hf hm
 refine ⟨out,h2,?_⟩
 show (execOp a.eval o).run P w=.ok (.value (.slice (some ⟨w.heap.size,0,none⟩) len len)) (w.alloc (.cells out e))
 have hle:¬ len * it.size > 2 ^ 24:=by rw [hsz]; omega
 have h1':Instr.fill (fun i=>some (i * it.size,it.size)) ((Array.range (len * it.size)).map (zv.cells[· % zv.cells.size]!)) (ps.map fun (i,x)=>(i,a.eval x)).toList=some out:=by
  rw [hsz]; simpa [madeCells] using h1
 by_cases h0:len * it.size=0
 ·have h1'':Instr.fill (fun i=>some (i * it.size,it.size)) #[] (ps.map fun (i,x)=>(i,a.eval x)).toList=some out:=by
   have er:Array.range 0=#[]:=by simp [Array.range]
   rw [h0,er,Array.map_empty] at h1'
   exact h1'
  simp only [Array.toList_map] at h1''
  have er:Array.range 0=#[]:=by simp [Array.range]
  simp [execOp,ho,Instr.buildSlice,run_underlying hu,sizeOf,typeInfo,hit,h0,newRow,er,h1'']
 ·have:=run_buildSlice (P:=P) w t e len _ out it zv hu hit hzv hle h0 h1'
  simp [execOp,ho,this]
theorem op_mkS (hI:Inv E.gx γ M w) (ht:TmR γ tm a.tmps) {t e:TypeId} {len n:Nat} {ps:Array (Nat × Operand)} {z cs cs':List AV} {aps0:List (Nat × Nat × Opd)} {aps:List (Nat × Nat × AV)} (ho:o.op=.buildSlice t len ps) (hu:P.underlying t=some (.slice e))
  (hn:sizeT P e=some n) (hz:zeroT P e=some z) (hps:partsA n ps.toList=some aps0) (hsm:len * n≤16777216) (hzl:z.length=n)
  (hv:evparts E tm aps0=some aps) (hf:fillA (List.replicate len z).flatten aps=some cs) (hp:purL0 cs=some cs'):Runs P E.gx γ M w a o (.sl 1 0 len cs') M:=by
 obtain ⟨out,h2,hr⟩:=run_mkS hI ht ho hu hn hz hps hsm hzl hv hf
 have h3:VRs γ true cs' out.toList:=purL0_sound h2 hp
 refine ⟨_,_,_,.inl hr,VR.newsl hI h3 (fun i x hx=>by rw [← Array.getElem?_toList]; exact hx) (Nat.le_refl _) (fun _=>rfl) (by omega),Nx.imm hI out.toList.length out e (0,0) _ (fun g hg=>push_old rfl g hg) (push_new rfl) (push_size rfl) rfl rfl rfl⟩
theorem VRs.ones {γ:Cx} {p:Bool} {us:List AV} {vs:List Value} (h:VRs γ p us vs) (h1:us.all oneA=true):∀ v∈vs,v.oneCell'=true:=by
 intro v hv
 obtain ⟨i,hi⟩:=List.getElem?_of_mem hv
 have hlt:i < us.length:=by
  have:=(List.getElem?_eq_some_iff.1 hi).1
  rw [h.1]; exact this
 have hr:=h.2 i us[i] v (List.getElem?_eq_getElem hlt) hi
 exact hr.one (by rw [List.all_eq_true] at h1; exact h1 _ (List.getElem_mem hlt))
theorem all_splice {l xs:List AV} (hl:l.all oneA=true) (hx:xs.all oneA=true) (off k:Nat):(l.take off ++ xs ++ l.drop k).all oneA=true:=by
 rw [List.all_eq_true] at hl hx ⊢
 intro x h
 simp only [List.mem_append] at h
 rcases h with (h | h) | h
 ·exact hl x (List.mem_of_mem_take h)
 ·exact hx x h
 ·exact hl x (List.mem_of_mem_drop h)
theorem box_write (hI:Inv E.gx γ M w) {b g off:Nat} {l xs:List AV} {vs:List Value} (hb:M.get b=some (.cells l)) (hρ:γ.ρ b=some g) (hx:VRs γ false xs vs) (h1:xs.all oneA=true) (hn:off + xs.length≤l.length) :
  (storeCells ⟨g,off,none⟩ vs).run P w=.ok () (w.setCells g off vs)∧Nx E.gx γ M w γ (M.set b (.cells (l.take off ++ xs ++ l.drop (off + xs.length)))) (w.setCells g off vs) ∧
  (∀ j,j < vs.length→(w.cell? ⟨g,off + j,none⟩).isSome=true)∧∀ j,j < vs.length→w.frozen? ⟨g,off + j,none⟩=false:=by
 obtain ⟨hB,hno,arr,el,fz,hh,hu,hla,hv,ho,hs⟩:=hI.box b _ g hb hρ
 have hxl:=hx.1
 have hc:∀ j,j < vs.length→(w.cell? ⟨g,off + j,none⟩).isSome=true:=fun j hj=>by
  rw [cell_at hh,Array.getElem?_eq_getElem (by omega)]; rfl
 have hf:∀ j,j < vs.length→w.frozen? ⟨g,off + j,none⟩=false:=fun j hj=>frozen_at hh hu (by omega)
 have hst:=run_storeCells_cells (P:=P) g off vs 0 w (by simpa using hc) (by simpa using hf) (hx.ones h1)
 obtain ⟨r1,r2,r3⟩:=setCells_rest g vs off w
 refine ⟨by simpa using hst,Nx.setB hI hb hρ _ ⟨hB,hno,(splice arr.toList off vs).toArray,el,fz,setCells_at g el fz vs off w arr hh (by omega),?_,?_,?_,all_splice ho h1 _ _,?_⟩ (fun g' hg'=>setCells_other g vs off w g' hg') (setCells_size g vs off w) r1 r2 r3,hc,hf⟩
 ·have:(splice arr.toList off vs).toArray.size=arr.size:=by simp [splice]; omega
  rw [this]; exact hu
 ·simp [splice]; omega
 ·have:=hv.splice hx off
  have e:(splice arr.toList off vs).toArray.toList.take (l.take off ++ xs ++ l.drop (off + xs.length)).length=splice (arr.toList.take l.length) off vs:=by
   have hL:(l.take off ++ xs ++ l.drop (off + xs.length)).length=l.length:=by simp; omega
   rw [hL]
   simp only [splice]
   apply List.ext_getElem?
   intro k
   simp only [List.getElem?_take,List.getElem?_append,List.getElem?_drop,List.length_append,List.length_take,Array.length_toList]
   by_cases hk:k < l.length
   ·by_cases h1:k < off
    ·have a1:k < min off arr.size:=by omega
     have a2:k < min off (min l.length arr.size):=by omega
     have a3:k < min off arr.size + vs.length:=by omega
     have a4:k < min off (min l.length arr.size) + vs.length:=by omega
     simp [hk,h1,a1,a2,a3,a4]
    ·by_cases h2:k < off + vs.length
     ·have a1:¬ k < min off arr.size:=by omega
      have a2:¬ k < min off (min l.length arr.size):=by omega
      have a3:k < min off arr.size + vs.length:=by omega
      have a4:k < min off (min l.length arr.size) + vs.length:=by omega
      have a5:min off arr.size=min off (min l.length arr.size):=by omega
      simp [hk,a1,a2,a3,a4,a5]
     ·have a1:¬ k < min off arr.size + vs.length:=by omega
      have a2:¬ k < min off (min l.length arr.size) + vs.length:=by omega
      have a5:min off arr.size=min off (min l.length arr.size):=by omega
      have a6:off + vs.length + (k - (min off (min l.length arr.size) + vs.length)) < l.length:=by omega
      simp [hk,a1,a2,a5,a6]
   ·have a1:¬ k < min off (min l.length arr.size):=by omega
    have a2:¬ k < min off (min l.length arr.size) + vs.length:=by omega
    have a6:¬ off + vs.length + (k - (min off (min l.length arr.size) + vs.length)) < l.length:=by omega
    simp [hk,a1,a2,a6]
  rw [e]
  exact this
 ·intro c z S hc'
  obtain ⟨q1,q2⟩:=hs c z S hc'
  refine ⟨by rw [← q1]; simp; omega,?_⟩
  simp [splice]; omega
theorem op_st (hI:Inv E.gx γ M w) (ht:TmR γ tm a.tmps) {t:TypeId} {x y:Operand} {x' y':Opd} {n b off:Nat} {l:List AV} {u:AV} (ho:o.op=.store t x y) (hx:compOpd x=some x') (hy:compOpd y=some y') (hn:sizeT P t=some n)
  (hvx:evx E tm x'=some (.ptr b off)) (hvy:evx E tm y'=some u) (hb:M.get b=some (.cells l)) (hl:u.cells.length=n) (hle:off + n≤l.length) (h1:u.cells.all oneA=true) :
  Runs P E.gx γ M w a o .undef (M.set b (.cells (l.take off ++ u.cells ++ l.drop (off + n)))):=by
 obtain ⟨g,e,hρ⟩:=(evx_sound hI ht hx hvx).ptr_inv
 have h:=(evx_sound hI ht hy hvy).cells1 h1
 obtain ⟨hr,hN,_⟩:=box_write (P:=P) hI hb hρ h h1 (off:=off) (by omega)
 rw [hl] at hN
 have hsz:(a.eval y).cells.size=n:=by rw [← Array.length_toList,← h.1,hl]
 refine ⟨γ,undef,_,.inr ⟨?_,rfl⟩,VR.mktup (VRs.nil _ _),hN⟩
 simp [execOp,ho,e,Instr.storeAt,Instr.sureAddr,storeVar,run_sizeOf' hn,hsz,hr]
theorem op_mkM (hI : Inv E.gx γ M w) (ht : TmR γ tm a.tmps) {t e : TypeId} {x y : Operand} {x' y' : Opd} {n bt l c : Nat} {z : List AV} {u v : AV} (ho : o.op = .makeSlice t x y) (hx : compOpd x = some x') (hy : compOpd y = some y') (hu : P.underlying t = some (.slice e))
    (hn : sizeT P e = some n) (hbt : bytesT P e = some bt) (hz : zeroT P e = some z) (hzl : z.length = n) (hvx : evx E tm x' = some u) (hvy : evx E tm y' = some v) (hl : natOf u = some l) (hc : natOf v = some c) (hlc : l ≤ c) (hb1 : bt * c ≤ 140737488355328) (hb2 : c ≤ 140737488355328) :
    Runs P E.gx γ M w a o (.ms M.nb 0 l c) (M.new (.cells (List.replicate c z).flatten)) := by
  obtain ⟨it, zv, hit, hzv, hzc⟩ := zeroT_spec hz
  obtain ⟨ie, hie, hsz⟩ := sizeT_spec hn
  rw [hit] at hie; cases hie
  simp only [bytesT, hit, Option.map_some, Option.some.injEq] at hbt
  obtain ⟨k1, e1⟩ := natOf_sound (evx_sound hI ht hx hvx) hl
  obtain ⟨k2, e2⟩ := natOf_sound (evx_sound hI ht hy hvy) hc
  have hm := VRs.made c (ofCells_sound (γ := γ) (p := false) hzc)
  rw [hzl] at hm
  have hr := run_make (P := P) w t e it zv hu hit hzv k1 k2 (l : Int) (c : Int) (by omega) (by omega) (by rw [hbt]; have : ((bt * c : Nat) : Int) ≤ 140737488355328 := by omega
                                                                                                          rw [Int.natCast_mul] at this; omega) (by omega)
  simp only [Int.toNat_natCast, hsz] at hr
  have hr' : (execOp a.eval o).run P w = .ok (.value (.slice (some ⟨w.heap.size, 0, none⟩) l c)) (w.alloc (.cells (madeCells zv.cells (c * n)) e)) := by simp [execOp, ho, e1, e2, hr]
  refine ⟨_, _, _, .inl hr', .ms _ 0 l c c w.heap.size (by simp [Cx.addB]) hlc (Nat.le_refl _) (fun _ => .inl rfl), Nx.newBox hI hm (flat_one (ofCells_one hzc).1 c)⟩
theorem op_fa (hI:Inv E.gx γ M w) (ht:TmR γ tm a.tmps) {t:TypeId} {x:Operand} {x':Opd} {i n:Nat} {fs:Array Field} {f:Field} {u r:AV} (ho:o.op=.fieldAddr t x i) (hx:compOpd x=some x') (hu:P.underlying t=some (.struct fs)) (hf:fs[i]?=some f) (hn:sizeT P f.type=some n) (hn0:n≠0)
  (hvx:evx E tm x'=some u) (hr:(∃ b q,u=.ptr b q∧r=.ptr b (q + f.offset))∨∃ cs,u=.cp cs∧r=.cp (cs.drop f.offset)):Runs P E.gx γ M w a o r M:=by
 have h:=evx_sound hI ht hx hvx
 have key:∀ g q,a.eval x=.pointer (some ⟨g,q,none⟩)→(execOp a.eval o).run P w=.ok (.value (.pointer (some ⟨g,q + f.offset,none⟩))) w:=fun g q e=>by
  simp [execOp,ho,e,Instr.fieldAt,run_underlying hu,hf,Instr.sureAddr,fieldPlace,run_sizeOf' hn,hn0,Addr.add_lit]
 rcases hr with ⟨b,q,rfl,rfl⟩ | ⟨cs,rfl,rfl⟩
 ·obtain ⟨g,e,hρ⟩:=h.ptr_inv
  exact Runs.same hI (key g q e) (.ptr _ _ g hρ)
 ·obtain ⟨g,q,vs,e,hv,hi⟩:=h.cp_inv
  exact Runs.same hI (key g q e) (VR.mkcp (hv.drop _) fun j y hy=>by
   rw [List.getElem?_drop] at hy
   have:=hi _ y hy
   rwa [show q + f.offset + j=q + (f.offset + j) by omega])
theorem op_ia (hI:Inv E.gx γ M w) (ht:TmR γ tm a.tmps) {t e:TypeId} {x y:Operand} {x' y':Opd} {i n:Nat} {u v r:AV} (ho:o.op=.indexAddr t x y) (hx:compOpd x=some x') (hy:compOpd y=some y') (hu:P.underlying t=some (.slice e)) (hn:sizeT P e=some n)
  (hvx:evx E tm x'=some u) (hvy:evx E tm y'=some v) (hi:natOf v=some i)
  (hr:(∃ t q m cs,u=.sl t q m cs∧i < m∧r=.cp (cs.drop (i * n)))∨∃ b q m c,u=.ms b q m c∧i < m∧r=.ptr b (q + i * n)):Runs P E.gx γ M w a o r M:=by
 have h:=evx_sound hI ht hx hvx
 obtain ⟨k,ek⟩:=natOf_sound (evx_sound hI ht hy hvy) hi
 have key:∀ g q m c,i < m→a.eval x=.slice (some ⟨g,q,none⟩) m c→(execOp a.eval o).run P w=.ok (.value (.pointer (some ⟨g,q + i * n,none⟩))) w:=fun g q m c hm e=>by
  simp [execOp,ho,e,ek,Instr.indexAt,run_underlying hu,asIntOf,run_sizeOf' hn,Addr.add_lit,hm]
 rcases hr with ⟨t,q,m,cs,rfl,hm,rfl⟩ | ⟨b,q,m,c,rfl,hm,rfl⟩
 ·obtain ⟨g,q,c,vs,e,hv,hi',_⟩:=h.sl_inv
  exact Runs.same hI (key g q m c hm e) (VR.mkcp (hv.drop _) fun j y hy=>by
   rw [List.getElem?_drop] at hy
   have:=hi' _ y hy
   rwa [show q + i * n + j=q + (i * n + j) by omega])
 ·obtain ⟨g,c',e,hρ,_⟩:=h.ms_inv
  exact Runs.same hI (key g q m c' hm e) (.ptr _ _ g hρ)
theorem op_iaA (hI:Inv E.gx γ M w) (ht:TmR γ tm a.tmps) {t e:TypeId} {x y:Operand} {x' y':Opd} {i n m:Nat} {u v r:AV} (ho:o.op=.indexAddr t x y) (hx:compOpd x=some x') (hy:compOpd y=some y') (hu:P.underlying t=some (.array m e)) (hn:sizeT P e=some n)
  (hvx:evx E tm x'=some u) (hvy:evx E tm y'=some v) (hi:natOf v=some i) (hm:i < m)
  (hr:(∃ cs,u=.cp cs∧r=.cp (cs.drop (i * n)))∨∃ b q,u=.ptr b q∧r=.ptr b (q + i * n)):Runs P E.gx γ M w a o r M:=by
 have h:=evx_sound hI ht hx hvx
 obtain ⟨k,ek⟩:=natOf_sound (evx_sound hI ht hy hvy) hi
 have key:∀ g q,a.eval x=.pointer (some ⟨g,q,none⟩)→(execOp a.eval o).run P w=.ok (.value (.pointer (some ⟨g,q + i * n,none⟩))) w:=fun g q e=>by
  simp [execOp,ho,e,ek,Instr.indexAt,run_underlying hu,asIntOf,run_sizeOf' hn,Instr.sureAddr,Addr.add_lit,hm]
 rcases hr with ⟨cs,rfl,rfl⟩ | ⟨b,q,rfl,rfl⟩
 ·obtain ⟨g,q,vs,e,hv,hi'⟩:=h.cp_inv
  exact Runs.same hI (key g q e) (VR.mkcp (hv.drop _) fun j y hy=>by
   rw [List.getElem?_drop] at hy
   have:=hi' _ y hy
   rwa [show q + i * n + j=q + (i * n + j) by omega])
 ·obtain ⟨g,e,hρ⟩:=h.ptr_inv
  exact Runs.same hI (key g q e) (.ptr _ _ g hρ)
theorem op_ixA (hI:Inv E.gx γ M w) (ht:TmR γ tm a.tmps) {t e:TypeId} {x y:Operand} {x' y':Opd} {i m:Nat} {cs:List AV} {v r:AV} (ho:o.op=.index t x y) (hx:compOpd x=some x') (hy:compOpd y=some y') (hu:P.underlying t=some (.array m e)) (hn:sizeT P e=some 1) (hg:aggT P e=some false)
  (hvx:evx E tm x'=some (.agg cs)) (hvy:evx E tm y'=some v) (hi:natOf v=some i) (hm:i < m) (hr:cs[i]?=some r):Runs P E.gx γ M w a o r M:=by
 obtain ⟨ar,e1,hv⟩:=(evx_sound hI ht hx hvx).agg_inv
 obtain ⟨k,ek⟩:=natOf_sound (evx_sound hI ht hy hvy) hi
 obtain ⟨y,hy',hyr⟩:=hv.get hr
 rw [Array.getElem?_toList] at hy'
 refine Runs.same hI (v:=y) ?_ hyr
 simp [execOp,ho,e1,ek,Instr.index,run_underlying hu,asIntOf,run_sizeOf' hn,hm,part,run_isAgg' hg,hy']
end Go.Sx
namespace Go.Sx
variable {P:Program} {E:Env} {γ:Cx} {M:Mem} {w:World} {tm:Tm} {a:Act} {o:Oper}
theorem Nx.freezeB {G:(Nat→Option (List AV)) × (Nat→Loop→Prop)} (h:Inv G γ M w) {b g n:Nat} {x:Box} {arr:Array Value} {el:TypeId} {fz fz':Nat × Nat} (hb:M.get b=some x) (hg:γ.ρ b=some g) (hh:w.heap[g]?=some (.cells arr el fz)) (w':World)
  (hh':w'.heap[g]?=some (.cells arr el fz')) (hw:∀ g',g'≠g→w'.heap[g']?=w.heap[g']?) (hsz:w'.heap.size=w.heap.size) (h1:w'.os=w.os) (h2:w'.tape=w.tape) (h3:w'.output=w.output) :
  Nx G γ M w (γ.imm g n arr) (M.kill b) w':=by
 have hbx:=h.box b x g hb hg
 have hle:Le γ (γ.imm g n arr):=⟨rfl,fun _ _ h=>h,fun _ x h=>⟨x,h,.inl rfl⟩,fun g' o v hv=>by
  simp only [Cx.imm]
  rw [if_neg (fun e=>by subst e; rw [hbx.noI o] at hv; cases hv)]
  exact hv,fun _ _ _=>rfl,rfl⟩
 have hI:∀ g' o,g'≠g→(γ.imm g n arr).I g' o=γ.I g' o:=fun g' o hne=>by
  simp only [Cx.imm]; rw [if_neg hne]
 have hget:∀ j y,(M.kill b).get j=some y→j≠b∧M.get j=some y:=fun j y hj=>by
  rw [Mem.get_kill] at hj
  split at hj
  ·cases hj
  ·rename_i e; exact ⟨fun q=>e q.symm,hj⟩
 have hne:∀ j y g',j≠b→M.get j=some y→γ.ρ j=some g'→g'≠g:=fun j y g' hjb hj hg' e=>by subst e; exact hjb (h.inj j b y x g' hj hb hg' hg)
 refine ⟨hle,⟨by rw [hsz]; exact h.base,?_,?_,?_,?_,?_,h.tokt,h.nb,?_,h.nt,h.ntM,fun i cells hc=>(h.glo i cells hc).mono hle,h.yok_keep rfl fun g' hg' hf=>hw g' fun e=>hf (.inl ⟨b,x,hb,e ▸ hg⟩)⟩,h1,h2,h3,by omega,?_,?_,fun g' o hg' hf=>hI g' o fun e=>hf (.inl ⟨b,x,hb,e ▸ hg⟩),fun _ _ h=>h,Nat.le_refl _,Nat.le_refl _⟩
 ·intro g' o v hv
  by_cases hgg:g'=g
  ·subst hgg
   simp only [Cx.imm,if_true] at hv
   split at hv
   ·rw [cell_at hh']; exact hv
   ·cases hv
  ·rw [hI g' o hgg] at hv
   rw [World.cell?_of_block (w:=w) (hw g' hgg)]
   exact h.imm g' o v hv
 ·intro j y g' hj hg'
  obtain ⟨hjb,hj⟩:=hget j y hj
  have hy:=h.box j y g' hj hg'
  have hgg:=hne j y g' hjb hj hg'
  exact hy.keep hg' hle (fun o=>by rw [hI g' o hgg]; exact hy.noI o) (hw g' hgg)
 ·intro j j' y y' g' hj hj' hg1 hg2
  exact h.inj j j' y y' g' (hget j y hj).2 (hget j' y' hj').2 hg1 hg2
 ·intro k L z y hk hy
  obtain ⟨ha,hb',hc⟩:=h.tok k L z y hk hy
  have hgg:y.g≠g:=fun e=>h.tokb k L z y b x g hk hy hb hg e.symm
  exact ⟨ha,hb',hc.keep hle (fun o ho=>by rw [hI y.g o hgg]; exact hc.2.1 o ho) (hw y.g hgg)⟩
 ·intro k L z y j u g' hk hy hj hg'
  exact h.tokb k L z y j u g' hk hy (hget j u hj).2 hg'
 ·intro j y hj
  exact h.nbM j y (hget j y hj).2
 ·intro g' hg' hf
  exact hw g' fun e=>hf (.inl ⟨b,x,hb,e ▸ hg⟩)
 ·intro g' _ hf
  rcases hf with ⟨j,y,hj,hρj⟩ | hf
  ·exact .inl ⟨j,y,(hget j y hj).2,hρj⟩
  ·exact .inr hf
theorem op_mkSm (hI:Inv E.gx γ M w) (ht:TmR γ tm a.tmps) {t e:TypeId} {len n:Nat} {ps:Array (Nat × Operand)} {z cs:List AV} {aps0:List (Nat × Nat × Opd)} {aps:List (Nat × Nat × AV)} (ho:o.op=.buildSlice t len ps) (hu:P.underlying t=some (.slice e))
  (hn:sizeT P e=some n) (hz:zeroT P e=some z) (hps:partsA n ps.toList=some aps0) (hsm:len * n≤16777216) (hzl:z.length=n)
  (hv:evparts E tm aps0=some aps) (hf:fillA (List.replicate len z).flatten aps=some cs) (h1:cs.all oneA=true):Runs P E.gx γ M w a o (.ms M.nb 0 len len) (M.new (.cells cs)):=by
 obtain ⟨out,h2,hr⟩:=run_mkS hI ht ho hu hn hz hps hsm hzl hv hf
 exact ⟨_,_,_,.inl hr,.ms _ 0 len len len w.heap.size (by simp [Cx.addB]) (Nat.le_refl _) (Nat.le_refl _) (fun _=>.inl rfl),Nx.newBox hI h2 h1⟩
theorem freeze_at {g k:Nat} {arr:Array Value} {el:TypeId} {fz:Nat × Nat} (h:w.heap[g]?=some (.cells arr el fz)):∃ fz',(w.freeze ⟨g,k,none⟩ 1).heap[g]?=some (.cells arr el fz'):=by
 unfold World.freeze
 rw [if_neg (by decide)]
 simp only [Array.getElem?_modify,if_true,h]
 obtain ⟨lo,hi⟩:=fz
 exact ⟨_,rfl⟩
theorem freeze_other {g k g':Nat} (h:g'≠g):(w.freeze ⟨g,k,none⟩ 1).heap[g']?=w.heap[g']?:=by
 unfold World.freeze
 rw [if_neg (by decide)]
 simp only [Array.getElem?_modify]
 rw [if_neg (fun e=>h e.symm)]
theorem freeze_size {g k:Nat}:(w.freeze ⟨g,k,none⟩ 1).heap.size=w.heap.size:=by
 unfold World.freeze
 rw [if_neg (by decide)]
 simp
theorem op_cvb (hI:Inv E.gx γ M w) (ht:TmR γ tm a.tmps) {t e:TypeId} {x:Operand} {x':Opd} {b n c:Nat} {l l':List AV} (ho:o.op=.convert t t x) (hx:compOpd x=some x') (hu:P.underlying t=some (.slice e)) (he:P.underlying e=some (.int .u8))
  (hvx:evx E tm x'=some (.ms b 0 n c)) (hb:M.get b=some (.cells l)) (hl:l.length=n) (hp:purL0 l=some l'):Runs P E.gx γ M w a o (.sl 0 0 n l') (M.kill b):=by
 obtain ⟨g,c',e1,hρ,hn,hc,hs⟩:=(evx_sound hI ht hx hvx).ms_inv
 obtain ⟨hB,hno,arr,el,fz,hh,hum,hla,hv,h1,_⟩:=hI.box b _ g hb hρ
 have hsh:w.shape? g=some (el,arr.size):=by simp [World.shape?,hh]
 obtain ⟨fz',hh'⟩:=freeze_at (k:=arr.size) hh
 have hr:(execOp a.eval o).run P w=.ok (.value (.slice (some ⟨g,0,none⟩) n c')) (w.freeze ⟨g,arr.size,none⟩ 1):=by
  simp [execOp,ho,e1,convert,run_underlying hu,run_underlying he,markStringish,hsh]
 have hN:=Nx.freezeB hI (n:=n) hb hρ hh _ hh' (fun g' hg'=>freeze_other hg') freeze_size (by unfold World.freeze; split <;> rfl) (by unfold World.freeze; split <;> rfl) (by unfold World.freeze; split <;> rfl)
 refine ⟨_,_,_,.inl hr,?_,hN⟩
 have hv':VRs (γ.imm g n arr) true l' (arr.toList.take l.length):=(purL0_sound hv hp).mono hN.le
 refine .sl false 0 0 n l' (arr.toList.take l.length) g 0 c' hv'.1 hv'.2 (fun i y hy=>?_) (by omega) (by omega) (by omega)
 rw [List.getElem?_take] at hy
 split at hy
 ·rename_i hi
  simp only [Cx.imm,Nat.zero_add,if_true]
  rw [if_pos (by omega),← Array.getElem?_toList]
  exact hy
 ·cases hy
theorem op_slc (hI:Inv E.gx γ M w) (ht:TmR γ tm a.tmps) {t e:TypeId} {x:Operand} {x':Opd} {lo hi mx:Option Operand} {lo' hi' mx':Option Opd} {lv hv mv:Option AV} {n:Nat} {u r:AV} (ho:o.op=.slice t x lo hi mx) (hx:compOpd x=some x') (hlo:compO lo=some lo') (hhi:compO hi=some hi') (hmx:compO mx=some mx')
  (hu:P.underlying t=some (.slice e)) (hn:sizeT P e=some n) (hvx:evx E tm x'=some u) (hvl:evo E tm lo'=some lv) (hvh:evo E tm hi'=some hv) (hvm:evo E tm mx'=some mv) (hr:slcV n u lv hv mv=some r):Runs P E.gx γ M w a o r M:=by
 have h:=evx_sound hI ht hx hvx
 have sl:=evo_sound hI ht hlo hvl
 have sh:=evo_sound hI ht hhi hvh
 have sm:=evo_sound hI ht hmx hvm
 have em:mx.isSome=mv.isSome:=by rcases sm with ⟨rfl,rfl⟩ | ⟨_,_,rfl,rfl,_⟩ <;> rfl
 have eh:hi.isNone=hv.isNone:=by rcases sh with ⟨rfl,rfl⟩ | ⟨_,_,rfl,rfl,_⟩ <;> rfl
 have hmh:¬ (mv.isSome && hv.isNone)=true→mx.isSome=true→hi.isSome=true:=fun q q2=>by
  rw [← em,← eh,q2] at q
  cases hi <;> simp at q ⊢
 have run:∀ (base:Option Addr) (len cap p q m:Nat),a.eval x=.slice base len cap→(Instr.sliceBounds true len cap (lo.map a.eval) (hi.map a.eval) (mx.map a.eval)).run P w=.ok (p,q,m) w →
   (execOp a.eval o).run P w=.ok (.value (.slice (if m=p then base else base.map (·.add (p * n))) (q - p) (m - p))) w:=fun base len cap p q m e1 hb=>by
  simp [execOp,ho,e1,Instr.sliceAt,Instr.slice,run_underlying hu,hb,run_sizeOf' hn]
 cases u with
 | nils=>
  have e1:=h.nils_inv
  simp only [slcV] at hr
  split at hr
  ·cases hr
  ·rename_i hq
   simp only [Option.map_eq_some_iff] at hr
   obtain ⟨⟨p,q,m⟩,hb,rfl⟩:=hr
   obtain ⟨h1,h2,h3,h4,h5⟩:=bounds_sound (P:=P) (w:=w) (isS:=true) (e:=a.eval) (Nat.le_refl 0) (Nat.le_refl 0) sl sh sm (hmh hq) hb
   have hp:p=0:=by omega
   have hq0:q=0:=by omega
   have hm0:m=0:=by omega
   subst hp; subst hq0; subst hm0
   have e2:(if mx=none then 0 else 0)=0:=by split <;> rfl
   rw [e2] at h1
   exact Runs.same hI (run _ _ _ _ _ _ e1 h1) (.nils _)
 | sl t e n' cs=>
  simp only [slcV] at hr
  split at hr
  ·cases hr
  ·rename_i hq
   split at hr
   ·cases hr
   ·rename_i hl
    have hl':cs.length=n' * n:=by
     cases hbq:Nat.beq cs.length (n' * n) with
     | true=>exact Nat.eq_of_beq_eq_true hbq
     | false=>simp [hbq] at hl
    simp only [Option.map_eq_some_iff] at hr
    obtain ⟨⟨p,q,m⟩,hb,rfl⟩:=hr
    obtain ⟨g,of,c,vs,e1,hv,hi',hnc,hc1,hk⟩:=h.sl_inv
    obtain ⟨h1,h2,h3,h4,h5⟩:=bounds_sound (P:=P) (w:=w) (isS:=true) (e:=a.eval) hnc (Nat.le_refl n') sl sh sm (hmh hq) hb
    have hr:=run _ _ _ _ _ _ e1 h1
    have hv2:VRs γ true ((cs.drop (p * n)).take ((q - p) * n)) ((vs.drop (p * n)).take ((q - p) * n)):=(hv.drop _).take _
    generalize hm':(if mx=none then c else m)=m' at hr
    have hm1:q≤m':=by subst hm'; split <;> omega
    have hex:∃ of',(if m'=p then (some (⟨g,of,none⟩:Addr)) else (some (⟨g,of,none⟩:Addr)).map (·.add (p * n)))=some ⟨g,of',none⟩∧(m'≠p→of'=of + p * n)∧(p=0→of'=of):=by
     by_cases hmp:m'=p
     ·rw [if_pos hmp]; exact ⟨of,rfl,fun q=>absurd hmp q,fun _=>rfl⟩
     ·rw [if_neg hmp]; exact ⟨of + p * n,by simp [Addr.add_lit],fun _=>rfl,fun q=>by subst q; omega⟩
    obtain ⟨of',e2,e3,e4⟩:=hex
    rw [e2] at hr
    refine Runs.same hI hr ?_
    refine .sl false _ _ (q - p) _ ((vs.drop (p * n)).take ((q - p) * n)) g of' (m' - p) hv2.1 hv2.2 (fun i y hy=>?_) (by omega) (fun ht1=>?_) fun k hk2=>?_
    ·rw [List.getElem?_take] at hy
     split at hy
     ·rename_i hlt
      rw [List.getElem?_drop] at hy
      have hne:m'≠p:=fun hmp=>by
       have:q - p=0:=by omega
       rw [this] at hlt; omega
      rw [e3 hne,show of + p * n + i=of + (p * n + i) by omega]
      exact hi' _ y hy
     ·cases hy
    ·split at ht1
     ·rename_i hc
      simp only [Bool.and_eq_true] at hc
      have hmq:=Nat.eq_of_beq_eq_true hc.2
      have:mx≠none:=fun e=>by rw [e] at em; simp [← em] at hc
      rw [if_neg this] at hm'
      omega
     ·split at ht1
      ·rename_i hc
       simp only [Bool.and_eq_true,Bool.not_eq_true'] at hc
       have hqn:=Nat.eq_of_beq_eq_true hc.1
       have hmn:mx=none:=by
        have:=hc.2
        rw [← em] at this
        cases mx <;> simp at this ⊢
       rw [if_pos hmn] at hm'
       have:=hc1 ht1
       omega
      ·cases ht1
    ·have hkk:t=k + 2∧q=n'∧mx=none:=by
      split at hk2
      ·omega
      ·rename_i hnc1
       split at hk2
       ·rename_i hc
        simp only [Bool.and_eq_true,Bool.not_eq_true'] at hc
        have hqn:=Nat.eq_of_beq_eq_true hc.1
        have hmn:mx=none:=by
         have:=hc.2
         rw [← em] at this
         cases mx <;> simp at this ⊢
        exact ⟨hk2,hqn,hmn⟩
       ·omega
     obtain ⟨ht2,rfl,hmn⟩:=hkk
     obtain ⟨_,xk,hx1,hx2,hx3⟩:=hk k ht2
     refine ⟨rfl,xk,hx1,?_,fun hee=>?_⟩
     ·have gen:∀ T:Nat,(if Nat.ble 2 T then e else 0)≤e:=fun T=>by split <;> omega
      exact Nat.le_trans (gen _) hx2
     ·have hee':e=xk.L:=by
       have:∀ {T:Nat},T=k + 2→(if Nat.ble 2 T then e else 0)=xk.L→e=xk.L:=by
        intro T hT h
        subst hT
        have:Nat.ble 2 (k + 2)=true:=by rw [Nat.ble_eq]; omega
        rw [this] at h
        exact h
       exact this hk2 hee
      obtain ⟨y0,yor⟩:=hx3 hee'
      rw [if_pos hmn] at hm'
      subst hm'
      have hpq:p≤q:=by omega
      have hlen:((cs.drop (p * n)).take ((q - p) * n)).length=(q - p) * n:=by
       simp only [List.length_take,List.length_drop]
       have:q * n=p * n + (q - p) * n:=by rw [← Nat.add_mul]; congr 1; omega
       omega
      have hzz:0 < q→xk.z=n:=fun h0=>Nat.eq_of_mul_eq_mul_left h0 (by rw [← y0,← hl'])
      refine ⟨?_,?_⟩
      ·rw [hlen]
       rcases Nat.eq_zero_or_pos q with h0 | h0
       ·subst h0; simp
       ·rw [hzz h0]
      ·rcases yor with hcn | ⟨y1,y2,y3⟩
       ·exact .inl (by omega)
       ·by_cases hcp:c=p
        ·exact .inl (by omega)
        ·refine .inr ⟨y1,?_,?_⟩
         ·rw [hlen,e3 hcp,← y2,hl']
          have:q * n=p * n + (q - p) * n:=by rw [← Nat.add_mul]; congr 1; omega
          omega
         ·rw [e3 hcp]
          rcases Nat.eq_zero_or_pos q with h0 | h0
          ·have hp0:p=0:=by omega
           subst hp0
           simpa using y3
          ·rw [hzz h0] at y3 ⊢
           have:c * n=p * n + (c - p) * n:=by rw [← Nat.add_mul]; congr 1; omega
           omega
 | ms b off n' c=>
  simp only [slcV] at hr
  split at hr
  ·cases hr
  ·rename_i hq
   have hmn:mx=none:=by
    cases mx with
    | none=>rfl
    | some _=>simp at em; rw [← em] at hq; simp at hq
   subst hmn
   have hmv:mv=none:=by cases mv with
    | none=>rfl
    | some _=>simp at em
   subst hmv
   simp only [Option.bind_eq_some_iff] at hr
   obtain ⟨⟨p,q,m⟩,hb,hr⟩:=hr
   obtain ⟨g,c',e1,hρ,hnc,hcc,hs⟩:=h.ms_inv
   obtain ⟨h1,h2,h3,h4,h5⟩:=bounds_sound (P:=P) (w:=w) (isS:=true) (e:=a.eval) hcc hnc sl sh sm (by simp) hb
   rw [if_pos rfl] at h1
   have hm:=h5 rfl
   subst hm
   have hrun:=run _ _ _ _ _ _ e1 h1
   split at hr
   ·rename_i hp
    have hp:=Nat.eq_of_beq_eq_true hp
    subst hp
    cases hr
    have e2:(if c'=0 then (some (⟨g,off,none⟩:Addr)) else (some (⟨g,off,none⟩:Addr)).map (·.add (0 * n)))=some ⟨g,off,none⟩:=by
     split
     ·rfl
     ·simp [Addr.add_lit]
    rw [e2] at hrun
    exact Runs.same hI hrun (.ms _ off (q - 0) m c' g hρ (by omega) hcc hs)
   ·split at hr
    ·rename_i hc
     simp only [Bool.and_eq_true] at hc
     have hc1:=Nat.le_of_ble_eq_true hc.1
     have hc2:=Nat.le_of_ble_eq_true hc.2
     cases hr
     rw [if_neg (by omega)] at hrun
     simp only [Option.map_some,Addr.add_lit] at hrun
     refine Runs.same hI hrun (.ms _ _ (q - p) (m - p) (c' - p) g hρ (by omega) (by omega) fun h0=>?_)
     exfalso
     rename_i hp0
     have:p≠0:=fun e=>by subst e; simp at hp0
     have:0 < p * n:=Nat.mul_pos (by omega) (by omega)
     have h0':off + p * n=0:=h0
     omega
    ·split at hr
     ·rename_i hpm
      have hpm:=Nat.eq_of_beq_eq_true hpm
      cases hr
      have hq:q=p:=by omega
      subst hq
      have e2:∃ of',(if c'=q then (some (⟨g,off,none⟩:Addr)) else (some (⟨g,off,none⟩:Addr)).map (·.add (q * n)))=some ⟨g,of',none⟩:=by
       split
       ·exact ⟨_,rfl⟩
       ·exact ⟨off + q * n,by simp only [Option.map_some,Addr.add_lit]⟩
      obtain ⟨of',e2⟩:=e2
      rw [e2] at hrun
      rw [Nat.sub_self] at hrun
      exact Runs.same hI hrun (.sl false 0 0 0 [] [] g of' (c' - q) rfl (fun i x v h=>by simp at h) (fun i v h=>by simp at h) (Nat.zero_le _) (by omega) (by omega))
     ·cases hr
 | _=>cases hr
theorem op_slcA (hI:Inv E.gx γ M w) (ht:TmR γ tm a.tmps) {t e:TypeId} {x:Operand} {x':Opd} {lo hi:Option Operand} {lo' hi':Option Opd} {lv hv:Option AV} {n len p q m:Nat} {u r:AV} (ho:o.op=.slice t x lo hi none) (hx:compOpd x=some x') (hlo:compO lo=some lo') (hhi:compO hi=some hi')
  (hu:P.underlying t=some (.array len e)) (hn:sizeT P e=some n) (hvx:evx E tm x'=some u) (hvl:evo E tm lo'=some lv) (hvh:evo E tm hi'=some hv) (hb:bounds len len lv hv none=some (p,q,m))
  (hr:(∃ b off,u=.ptr b off∧((p < len∧r=.ms b (off + p * n) (q - p) (len - p))∨(¬ p < len∧r=.sl 0 0 0 [])))∨∃ cs,u=.cp cs∧len * n≤cs.length∧r=.sl 0 0 (q - p) ((cs.drop (p * n)).take ((q - p) * n))):Runs P E.gx γ M w a o r M:=by
 have h:=evx_sound hI ht hx hvx
 obtain ⟨h1,h2,h3,h4,h5⟩:=bounds_sound (P:=P) (w:=w) (isS:=false) (e:=a.eval) (Nat.le_refl len) (Nat.le_refl len) (evo_sound hI ht hlo hvl) (evo_sound hI ht hhi hvh) (mx:=none) (mx':=none) (.inl ⟨rfl,rfl⟩) (by simp) hb
 simp only [if_true,Option.map_none] at h1
 have hm:=h5 rfl
 have run:∀ g off,a.eval x=.pointer (some ⟨g,off,none⟩)→(execOp a.eval o).run P w=.ok (.value (.slice (some (if len=p then ⟨g,off,none⟩ else ⟨g,off + p * n,none⟩)) (q - p) (len - p))) w:=fun g off e1=>by
  simp [execOp,ho,e1,Instr.sliceAt,Instr.sureAddr,run_underlying hu,h1,run_sizeOf' hn,Addr.add_lit]
 rcases hr with ⟨b,off,rfl,hr⟩ | ⟨cs,rfl,hl,rfl⟩
 ·obtain ⟨g,e1,hρ⟩:=h.ptr_inv
  have hrun:=run g off e1
  rcases hr with ⟨hp,rfl⟩ | ⟨hp,rfl⟩
  ·rw [if_neg (by omega)] at hrun
   exact Runs.same hI hrun (.ms _ _ _ _ _ g hρ (by omega) (Nat.le_refl _) fun _=>.inl rfl)
  ·have hpl:len=p:=by omega
   have hq:q - p=0:=by omega
   rw [if_pos hpl,hq] at hrun
   exact Runs.same hI hrun (.sl false 0 0 0 [] [] g off _ rfl (fun i x v h=>by simp at h) (fun i v h=>by simp at h) (Nat.zero_le _) (by omega) (by omega))
 ·obtain ⟨g,off,vs,e1,hv,hi'⟩:=h.cp_inv
  have hrun:=run g off e1
  have hv2:VRs γ true ((cs.drop (p * n)).take ((q - p) * n)) ((vs.drop (p * n)).take ((q - p) * n)):=(hv.drop _).take _
  have hex:∃ of',(if len=p then (⟨g,off,none⟩:Addr) else ⟨g,off + p * n,none⟩)=⟨g,of',none⟩∧(len≠p→of'=off + p * n):=by
   split
   ·exact ⟨off,rfl,fun q=>absurd (by assumption) q⟩
   ·exact ⟨_,rfl,fun _=>rfl⟩
  obtain ⟨of',e2,e3⟩:=hex
  rw [e2] at hrun
  refine Runs.same hI hrun (.sl false 0 0 _ _ ((vs.drop (p * n)).take ((q - p) * n)) g of' _ hv2.1 hv2.2 (fun i y hy=>?_) (by omega) (by omega) (by omega))
  rw [List.getElem?_take] at hy
  split at hy
  ·rename_i hlt
   rw [List.getElem?_drop] at hy
   have hne:len≠p:=fun hmp=>by
    have:q - p=0:=by omega
    rw [this] at hlt; omega
   rw [e3 hne,show off + p * n + i=off + (p * n + i) by omega]
   exact hi' _ y hy
  ·cases hy
end Go.Sx
namespace Go.Sx
variable {P:Program} {E:Env} {γ:Cx} {M:Mem} {w:World} {tm:Tm} {a:Act} {o:Oper}
theorem Holds.drew {v:Value} {n esz:Nat} {vs:List Value} (h:Holds w v n esz vs):Holds w.drew v n esz vs:=by
 obtain ⟨h1,h2⟩:=h
 refine ⟨h1,?_⟩
 rcases h2 with h | h | ⟨g,q,c,e,hc⟩
 ·exact .inl h
 ·exact .inr (.inl h)
 ·exact .inr (.inr ⟨g,q,c,e,fun j x hx=>by simpa using hc j x hx⟩)
theorem Holds.first {v:Value} {n esz:Nat} {vs:List Value} (h:Holds w v n esz vs) (k:Nat) (hk:k≤n):(Builtin.firstCells esz k v).run P w=.ok (vs.take (k * esz)).toArray w:=by
 obtain ⟨hl,h⟩:=h
 rcases h with ⟨s,rfl,rfl,rfl,rfl⟩ | ⟨rfl,rfl⟩ | ⟨g,q,c,rfl,hc⟩
 ·have e1:((s.extract 0 k).data.map fun b=>Value.int .u8 b.toNat)=((Go.byteCells s).take (k * 1)).toArray:=by
   apply Array.ext'
   simp [Go.byteCells,ByteArray.data_extract,List.map_take]
  simp only [Builtin.firstCells,Sem.run_pure,e1]
 ·have:vs=[]:=List.eq_nil_of_length_eq_zero (by simpa using hl)
  subst this
  simp [Builtin.firstCells]
 ·have hle:k * esz≤n * esz:=Nat.mul_le_mul_right _ hk
  refine run_firstCells_some w esz k _ n c (vs.take (k * esz)) (by simp; omega) fun j x hx=>?_
  rw [List.getElem?_take] at hx
  split at hx
  ·rw [Addr.add_lit]; exact hc j x hx
  ·cases hx
theorem Holds.len {v:Value} {n esz:Nat} {vs:List Value} (h:Holds w v n esz vs) (w':World):(Builtin.lenOf v).run P w'=.ok n w':=by
 obtain ⟨hl,h⟩:=h
 rcases h with ⟨s,rfl,rfl,rfl,rfl⟩ | ⟨rfl,rfl⟩ | ⟨g,q,c,rfl,hc⟩ <;> rfl
theorem Holds.src {v:Value} {n esz:Nat} {vs:List Value} {tx:TypeId} (h:Holds w v n esz vs) (hk:(∃ e',P.underlying tx=some (.slice e'))∨P.underlying tx=some .string) (h1:∀ u∈vs,u.oneCell'=true):Src P esz tx v n vs w:=by
 have hl:=h.1
 have e:vs.take (n * esz)=vs:=List.take_of_length_le (by omega)
 refine ⟨hk,h.len,?_,?_,hl,h1⟩
 ·have:=h.first (P:=P) n (Nat.le_refl _); rwa [e] at this
 ·have:=h.drew.first (P:=P) n (Nat.le_refl _); rwa [e] at this
theorem purC0_one {u u':AV} (h:purC0 u=some u'):oneA u=true:=by
 cases u <;> first | rfl | (simp [purC0] at h; done) | skip
 rename_i t v
 cases v <;> first | rfl | (simp [purC0] at h; done)
theorem purL0_one:∀ {us us':List AV},purL0 us=some us'→us.all oneA=true∧us'.length=us.length
 | [],_,h=>by cases h; exact ⟨rfl,rfl⟩
 | u :: us,us',h=>by
  simp only [purL0,Option.bind_eq_some_iff,Option.map_eq_some_iff] at h
  obtain ⟨x,hx,xs,hxs,rfl⟩:=h
  obtain ⟨h1,h2⟩:=purL0_one hxs
  exact ⟨by simp only [List.all_cons,purC0_one hx,h1,Bool.and_self],by simp [h2]⟩
theorem grow_tok (hI:Inv E.gx γ M w) {k L n esz gc:Nat} {cells:List AV} {vs:List Value} {arr:Array Value} {el:TypeId} (w':World) (M':Mem) (hv:VRs γ true cells vs) (harr:arr.toList.take vs.length=vs) (hle:vs.length≤arr.size) (hS:gc * esz≤arr.size) (hng:n≤gc) (hcn:cells.length=n * esz)
  (hw:w'.heap=w.heap.push (.cells arr el (0,0))) (h1:w'.os=w.os) (h2:w'.tape=w.tape) (h3:w'.output=w.output)
  (hnew:∀ y,γ.τ k=some y→y.L < L) (hMb:M'.boxes=M.boxes) (hMnb:M'.nb=M.nb) (hMnt:M.nt≤M'.nt) (hkn:k < M'.nt)
  (hMt:∀ j y,lookT M'.toks j=some y→(j=k∧y=(L,esz))∨(j≠k∧lookT M.toks j=some y)) :
  ∃ γ',Nx E.gx γ M w γ' M' w'∧VR γ' false (.sl (k + 2) L n cells) (.slice (some ⟨w.heap.size,0,none⟩) n gc):=by
 let x:Tk:=⟨w.heap.size,vs.length,L,esz,gc * esz⟩
 let γ':Cx:={ γ.imm w.heap.size vs.length arr with τ:=fun j=>if j=k then some x else γ.τ j }
 have hnw:=push_new hw
 have hN:Nx E.gx γ M w γ' M' w':=by
  refine Nx.token hI k x M' γ' w' rfl rfl rfl rfl rfl hnew hMb hMnb hMnt hkn hMt (Cx.imm_le hI vs.length arr).I (fun g o _ hne=>?_) (fun g o v hv=>?_) ⟨?_,?_,arr,el,(0,0),hnw,unmarked_zero _,hle,hS⟩ (.inl (Nat.le_refl _)) (fun g hg _=>push_old hw g hg) (push_size hw) h1 h2 h3
  ·simp only [γ',x,Cx.imm] at hne ⊢
   rw [if_neg hne]
  ·by_cases hg:g=w.heap.size
   ·subst hg
    simp only [γ',Cx.imm,if_true] at hv
    split at hv
    ·rw [cell_at hnw]; exact hv
    ·cases hv
   ·simp only [γ',Cx.imm,if_neg hg] at hv
    rw [World.cell?_of_block (w:=w) (push_old hw g (hI.lt hv))]
    exact hI.imm g o v hv
  ·exact hI.base
  ·intro o ho
   simp only [γ',x,Cx.imm,if_true] at ho ⊢
   rw [if_neg (by omega)]
 have hv':=hv.mono hN.le
 refine ⟨γ',hN,.sl false (k + 2) L n cells vs w.heap.size 0 gc hv'.1 hv'.2 (fun i y hy=>?_) hng (by omega) fun k' hk'=>⟨rfl,x,?_,Nat.le_refl _,fun _=>⟨hcn,.inr ⟨rfl,?_,?_⟩⟩⟩⟩
 ·have hlt:=(List.getElem?_eq_some_iff.1 hy).1
  simp only [γ',Cx.imm,Nat.zero_add,if_true]
  rw [if_pos hlt,← Array.getElem?_toList]
  have:=congrArg (fun l=>l[i]?) harr
  simp only [List.getElem?_take,if_pos hlt] at this
  rw [this]; exact hy
 ·have:k'=k:=by omega
  simp [γ',this]
 ·simp [x,hv.1]
 ·simp [x]
theorem room_tok (hI:Inv E.gx γ M w) {k e n m c g q esz:Nat} {x:Tk} {cells new:List AV} {vs news:List Value} (M':Mem) (hk:lookT M.toks k=some (e,esz)) (hx:γ.τ k=some x) (hxg:g=x.g) (hxe:q + cells.length=x.e) (hxS:q + c * x.z≤x.S)
  (hcl:cells.length=n * esz) (hv:VRs γ true cells vs) (hi:∀ (i:Nat) (u:Value),vs[i]?=some u→γ.I g (q + i)=some u) (hn:VRs γ true new news) (hnl:new.length=m * esz) (hm0:0 < m) (hroom:n + m≤c)
  (hMb:M'.boxes=M.boxes) (hMnb:M'.nb=M.nb) (hMnt:M.nt≤M'.nt) (hkn:k < M'.nt)
  (hMt:∀ j y,lookT M'.toks j=some y→(j=k∧y=(e + m,esz))∨(j≠k∧lookT M.toks j=some y)) :
  (∀ j,j < news.length→(w.cell? ⟨g,q + n * esz + j,none⟩).isSome=true)∧(∀ j,j < news.length→w.frozen? ⟨g,q + n * esz + j,none⟩=false) ∧
  ∃ γ',Nx E.gx γ M w γ' M' (w.setCells g (q + n * esz) news)∧VR γ' false (.sl (k + 2) (e + m) (n + m) (cells ++ new)) (.slice (some ⟨g,q,none⟩) (n + m) c):=by
 obtain ⟨hL,hz,hB,hIx,arr,el,fz,hh,hu,he,hS⟩:=hI.tok k e esz x hk hx
 subst hxg
 have hmul:(n + m) * esz≤c * esz:=Nat.mul_le_mul_right _ hroom
 rw [Nat.add_mul] at hmul
 rw [hz] at hxS
 have hnl':news.length=m * esz:=by rw [← hn.1,hnl]
 have hlim:q + n * esz + news.length≤arr.size:=by omega
 have hsc:=setCells_at x.g el fz news (q + n * esz) w arr hh hlim
 obtain ⟨r1,r2,r3⟩:=setCells_rest x.g news (q + n * esz) w
 refine ⟨fun j hj=>by rw [cell_at hh,Array.getElem?_eq_getElem (by omega)]; rfl,fun j hj=>frozen_at hh hu (by omega),?_⟩
 let x':Tk:=⟨x.g,x.e + news.length,e + m,esz,x.S⟩
 let γ':Cx:={ γ with τ:=fun j=>if j=k then some x' else γ.τ j,I:=fun h o=>if h=x.g∧x.e≤o∧o < x.e + news.length then news[o - x.e]? else γ.I h o }
 have hxe':q + n * esz=x.e:=by rw [← hxe,hcl]
 have hN:Nx E.gx γ M w γ' M' (w.setCells x.g (q + n * esz) news):=by
  refine Nx.token hI k x' M' γ' _ rfl rfl rfl rfl rfl (fun y hy=>?_) hMb hMnb hMnt hkn hMt (fun h o v hv=>?_) (fun h o _ hne=>?_) (fun h o v hv=>?_) ⟨hB,fun o ho=>?_,(splice arr.toList (q + n * esz) news).toArray,el,fz,hsc,?_,?_,?_⟩
   (.inr ⟨x,(e,esz),hk,hx,rfl⟩) (fun h hh' hne=>setCells_other x.g news _ w h hne) (by rw [setCells_size]; exact Nat.le_refl _) r1 r2 r3
  ·rw [hx] at hy; cases hy
   simp only [x']; omega
  ·simp only [γ']
   rw [if_neg (fun hc=>by obtain ⟨rfl,h2,h3⟩:=hc; rw [hIx o h2] at hv; cases hv)]
   exact hv
  ·simp only [γ',x'] at hne ⊢
   rw [if_neg (fun hc=>hne hc.1)]
  ·simp only [γ'] at hv
   split at hv
   ·rename_i hc
    obtain ⟨rfl,h2,h3⟩:=hc
    rw [cell_at hsc]
    simp only [splice,List.getElem?_toArray]
    rw [List.append_assoc,List.getElem?_append_right (by simp; omega),List.getElem?_append_left (by simp; omega)]
    rw [← hv]
    congr 1
    simp; omega
   ·have hold:=hI.imm h o v hv
    by_cases hg:h=x.g
    ·subst hg
     rw [cell_at hh] at hold
     rw [cell_at hsc]
     have hox:o < x.e:=by
      rcases Nat.lt_or_ge o x.e with h' | h'
      ·exact h'
      ·rw [hIx o h'] at hv; cases hv
     simp only [splice,List.getElem?_toArray]
     rw [List.append_assoc,List.getElem?_append_left (by simp; omega),List.getElem?_take,if_pos (by omega)]
     rw [← Array.getElem?_toList] at hold
     exact hold
    ·rw [World.cell?_of_block (w:=w) (setCells_other x.g news _ w h hg)]
     exact hold
  ·simp only [γ',x'] at ho ⊢
   rw [if_neg (by omega)]
   exact hIx o (by omega)
  ·have:(splice arr.toList (q + n * esz) news).toArray.size=arr.size:=by simp [splice]; omega
   rw [this]; exact hu
  ·have:(splice arr.toList (q + n * esz) news).toArray.size=arr.size:=by simp [splice]; omega
   rw [this]; simp only [x']; omega
  ·have:(splice arr.toList (q + n * esz) news).toArray.size=arr.size:=by simp [splice]; omega
   rw [this]; exact hS
 refine ⟨γ',hN,?_⟩
 have hv':=(hv.append hn).mono hN.le
 refine .sl false (k + 2) (e + m) (n + m) (cells ++ new) (vs ++ news) x.g q c hv'.1 hv'.2 (fun i y hy=>?_) hroom (by omega) fun k' hk'=>⟨rfl,x',?_,Nat.le_refl _,fun _=>⟨by rw [List.length_append,hcl,hnl,Nat.add_mul],.inr ⟨rfl,?_,?_⟩⟩⟩
 ·simp only [γ']
  rcases Nat.lt_or_ge i vs.length with hiv | hiv
  ·rw [List.getElem?_append_left hiv] at hy
   rw [if_neg (by have:=hv.1; omega)]
   exact hi i y hy
  ·rw [List.getElem?_append_right hiv] at hy
   have hlt:=(List.getElem?_eq_some_iff.1 hy).1
   have hvl:=hv.1
   rw [if_pos ⟨trivial,by omega,by omega⟩,← hy]
   congr 1
   omega
 ·have:k'=k:=by omega
  simp [γ',this]
 ·simp only [x',List.length_append,hn.1]; omega
 ·simp only [x']; omega
theorem Nx.newBoxS (hI:Inv E.gx γ M w) {l:List AV} {vs:List Value} {arr:Array Value} {el:TypeId} {c z S:Nat} (w':World) (hv:VRs γ false l vs) (ho:l.all oneA=true) (harr:arr.toList.take vs.length=vs) (hle:vs.length≤arr.size) (hc:l.length=c * z) (hS:S≤arr.size)
  (hw:w'.heap=w.heap.push (.cells arr el (0,0))) (h1:w'.os=w.os) (h2:w'.tape=w.tape) (h3:w'.output=w.output) :
  Nx E.gx γ M w (γ.addB M.nb w.heap.size (some (c,z,S))) (M.new (.cells l)) w':=by
 refine Nx.addB hI (.cells l) (.cells arr el) (some (c,z,S)) w' (fun γ' hle' hI' hs=>?_) hw h1 h2 h3
 refine ⟨hle'.B ▸ hI.base,hI',arr,el,(0,0),push_new hw,unmarked_zero _,by rw [hv.1]; exact hle,?_,ho,fun c' z' S' h=>?_⟩
 ·rw [hv.1,harr]
  exact hv.mono hle'
 ·rw [hs] at h; cases h; exact ⟨hc,hS⟩
end Go.Sx
namespace Go.Sx
variable {P:Program} {E:Env} {γ:Cx} {M:Mem} {w:World} {tm:Tm} {a:Act} {o:Oper}
theorem app_grow {s t ty e:TypeId} {i:TypeInfo} {zv:Value} (hs:P.underlying s=some (.slice e)) (hk:(∃ e',P.underlying t=some (.slice e'))∨P.underlying t=some .string) (hi:P.info? e=some i) (hz:i.zero=some zv) (hzs:zv.cells.size=i.size)
  {base:Option Addr} {Y:Value} {n c m:Nat} {olds news:List Value} (hX:Holds w (.slice base n c) n i.size olds) (hY:Holds w Y m i.size news) (h1:∀ u∈news,u.oneCell'=true) (hg:c < n + m) (hb:(n + m) * i.bytes≤140737488355328) (hb2:n + m≤140737488355328) :
  ∃ (gc:Nat) (arr:Array Value) (w':World),(Builtin.append_ #[s,t] ty #[.slice base n c,Y]).run P w=.ok (.slice (some ⟨w.heap.size,0,none⟩) (n + m) gc) w' ∧
   w'.heap=w.heap.push (.cells arr e (0,0))∧w'.os=w.os∧w'.tape=w.tape∧w'.output=w.output∧n + m≤gc∧arr.size=gc * i.size∧arr.toList.take (olds ++ news).length=olds ++ news∧(olds ++ news).length≤arr.size:=by
 have hold:=hX.drew.first (P:=P) n (Nat.le_refl _)
 have hl1:=hX.1
 have hl2:=hY.1
 rw [List.take_of_length_le (by omega)] at hold
 have hr:=run_append_grow_src w s t ty e i zv hs hi hz base n c olds hold Y m news (hY.src hk h1) hg (by omega) (growslice_fits hg hb)
 have hge:=grownCap_ge w (n + m) c e
 refine ⟨_,_,_,hr,rfl,rfl,rfl,rfl,hge,?_,?_,?_⟩
 ·simp only [Array.size_append,List.size_toArray,List.length_append,size_zeroCells,hzs,hl1,hl2]
  rw [← Nat.add_mul,← Nat.add_mul]
  congr 1
  omega
 ·rw [Array.toList_append]
  exact List.take_left' rfl
 ·simp
theorem cap_zero {t:Nat}:(if Nat.beq t 1 then 1 else 0:Nat) < 2:=by split <;> omega
theorem op_app (hI:Inv E.gx γ M w) (ht:TmR γ tm a.tmps) {c:Call} {x y:Operand} {x' y':Opd} {s t e:TypeId} {mu:Bool} {n bt m:Nat} {z ys:List AV} {u v r:AV} {M':Mem} (ho:o.op=.call c) (h1:c.callee=.builtin .append) (h2:c.args.toList=[x,y]) (h3:c.argTypes.toList=[s,t])
  (hs:P.underlying s=some (.slice e)) (hk:(∃ e',P.underlying t=some (.slice e'))∨P.underlying t=some .string) (hn:sizeT P e=some n) (hbt:bytesT P e=some bt) (hz:zeroT P e=some z) (hzl:z.length=n) (hx:compOpd x=some x') (hy:compOpd y=some y')
  (hvx:evx E tm x'=some u) (hvy:evx E tm y'=some v) (hm:lenA v=some m) (hys:elems M n v=some ys) (hr:appV mu M n bt u m ys=some (r,M')):Runs P E.gx γ M w a o r M':=by
 obtain ⟨i,zv,hi,hzv,hzc⟩:=zeroT_spec hz
 obtain ⟨i2,hi2,hsz⟩:=sizeT_spec hn
 rw [hi] at hi2; cases hi2
 simp only [bytesT,hi,Option.map_some,Option.some.injEq] at hbt
 subst hbt
 subst hsz
 have hzs:zv.cells.size=i.size:=by
  rw [← Array.length_toList,← (ofCells_sound (γ:=γ) (p:=false) hzc).1,hzl]
 have ha:c.args=#[x,y]:=by apply Array.ext'; simpa using h2
 have hb:c.argTypes=#[s,t]:=by apply Array.ext'; simpa using h3
 have hex:∀ res w',(Builtin.append_ #[s,t] o.type #[a.eval x,a.eval y]).run P w=.ok res w'→(execOp a.eval o).run P w=.ok (.value res) w':=fun res w' h=>by
  simp [execOp,ho,resolve,h1,ha,hb,invoke,builtin,h]
 have rx:=evx_sound hI ht hx hvx
 have ry:=evx_sound hI ht hy hvy
 obtain ⟨news,hvn,hY⟩:=elems_sound hI ry hys hm
 unfold appV at hr
 split at hr
 ·-- nothing is appended
  rename_i hm0
  subst hm0
  have hnews:news=[]:=List.eq_nil_of_length_eq_zero (by have:=hY.1; simpa using this)
  subst hnews
  have hnone:∀ base k c',a.eval x=.slice base k c'→k≤c'→(execOp a.eval o).run P w=.ok (.value (a.eval x)) w:=fun base k c' ex hle=>by
   refine hex _ _ ?_
   rw [ex]
   exact run_append_nothing w s t o.type e i hs hi base k c' hle _ (hY.src hk (fun u hu=>by cases hu))
  split at hr <;> cases hr
  ·have ex:=rx.nils_inv
   exact Runs.same hI (hnone _ _ _ ex (Nat.le_refl _)) rx
  ·obtain ⟨g,q,c',vs,ex,_,_,hle,_⟩:=rx.sl_inv
   exact Runs.same hI (hnone _ _ _ ex hle) rx
  ·obtain ⟨g,c',ex,_,hle,hle2,_⟩:=rx.ms_inv
   exact Runs.same hI (hnone _ _ _ ex (by omega)) rx
 ·rename_i hm0
  -- a new row, by value
  have grow_sl:∀ (base:Option Addr) (k cc:Nat) (cells ys':List AV) (olds:List Value) (tk L:Nat) (M':Mem),a.eval x=.slice base k cc→Holds w (.slice base k cc) k i.size olds→VRs γ true cells olds→purL0 ys=some ys'→cc < k + m→(k + m) * i.bytes≤140737488355328→k + m≤140737488355328 →
    (∀ y,γ.τ tk=some y→y.L < L)→M'.boxes=M.boxes→M'.nb=M.nb→M.nt≤M'.nt→tk < M'.nt→(∀ j y,lookT M'.toks j=some y→(j=tk∧y=(L,i.size))∨(j≠tk∧lookT M.toks j=some y)) →
    Runs P E.gx γ M w a o (.sl (tk + 2) L (k + m) (cells ++ ys')) M':=by
   intro base k cc cells ys' olds tk L M' ex hX hvo hp hg hb1 hb2 q1 q2 q3 q4 q5 q6
   have hone:∀ u∈news,u.oneCell'=true:=hvn.ones (purL0_one hp).1
   obtain ⟨gc,arr,w',hrun,w1,w2,w3,w4,hge,hsz,harr,hle⟩:=app_grow (ty:=o.type) hs hk hi hzv hzs hX hY hone hg hb1 hb2
   rw [← ex] at hrun
   have hvv:VRs γ true (cells ++ ys') (olds ++ news):=hvo.append (purL0_sound hvn hp)
   obtain ⟨γ',hN,hV⟩:=grow_tok hI (k:=tk) (L:=L) (n:=k + m) (esz:=i.size) (gc:=gc) w' M' hvv harr hle (by omega) hge (by rw [hvv.1,List.length_append,hX.1,hY.1,Nat.add_mul]) w1 w2 w3 w4 q1 q2 q3 q4 q5 q6
   exact ⟨γ',_,w',.inl (hex _ _ hrun),hV,hN⟩
  -- a new row, mutable
  have grow_ms:∀ (base:Option Addr) (k cc:Nat) (cells:List AV) (olds:List Value),a.eval x=.slice base k cc→Holds w (.slice base k cc) k i.size olds→VRs γ false cells olds→cells.all oneA=true→ys.all oneA=true→cc < k + m→(k + m) * i.bytes≤140737488355328→k + m≤140737488355328 →
    ∃ (gc:Nat) (w':World) (S:Nat),(execOp a.eval o).run P w=.ok (.value (.slice (some ⟨w.heap.size,0,none⟩) (k + m) gc)) w'∧k + m≤gc∧gc * i.size≤S ∧
     ∀ M0 γ0,Inv E.gx γ0 M0 w→Le γ γ0→Nx E.gx γ0 M0 w (γ0.addB M0.nb w.heap.size (some (k + m,i.size,S))) (M0.new (.cells (cells ++ ys))) w':=by
   intro base k cc cells olds ex hX hvo ho1 hy1 hg hb1 hb2
   have hone:∀ u∈news,u.oneCell'=true:=hvn.ones hy1
   obtain ⟨gc,arr,w',hrun,w1,w2,w3,w4,hge,hsz,harr,hle⟩:=app_grow (ty:=o.type) hs hk hi hzv hzs hX hY hone hg hb1 hb2
   rw [← ex] at hrun
   refine ⟨gc,w',arr.size,hex _ _ hrun,hge,by omega,fun M0 γ0 hI0 hle0=>?_⟩
   refine Nx.newBoxS hI0 w' ((hvo.append hvn).mono hle0) (by rw [List.all_append,ho1,hy1]; rfl) harr hle ?_ (Nat.le_refl _) w1 w2 w3 w4
   have l1:=hvo.1
   have l2:=hvn.1
   have l3:=hX.1
   have l4:=hY.1
   rw [List.length_append,Nat.add_mul]
   omega
  have hτn:∀ L y,γ.τ M.nt=some y→y.L < L:=fun L y hy=>by rw [hI.nt M.nt (Nat.le_refl _)] at hy; cases hy
  have hMt:∀ L j y,lookT (M.tok L i.size).toks j=some y→(j=M.nt∧y=(L,i.size))∨(j≠M.nt∧lookT M.toks j=some y):=fun L j y hy=>by
   rw [lookT_tok] at hy
   split at hy
   ·rename_i e; cases hy; exact .inl ⟨e.symm,rfl⟩
   ·rename_i e; exact .inr ⟨fun q=>e q.symm,hy⟩
  split at hr
  ·-- nil
   have ex:=rx.nils_inv
   split at hr
   ·rename_i hle
    have hX:Holds w (.slice none 0 0) 0 i.size []:=⟨by simp,.inr (.inl ⟨rfl,rfl⟩)⟩
    split at hr
    ·split at hr
     ·rename_i hy1
      cases hr
      obtain ⟨gc,w',S,hrun,hge,hS,hN⟩:=grow_ms none 0 0 [] [] ex hX (VRs.nil _ _) rfl hy1 (by omega) (by simpa using hle.1) (by simpa using hle.2)
      have:=hN M γ hI (Le.refl _)
      simp only [Nat.zero_add,List.nil_append] at hrun hge this
      exact ⟨_,_,_,.inl hrun,.ms _ 0 m m gc w.heap.size (by simp [Cx.addB]) (Nat.le_refl _) hge (fun _=>.inr ⟨i.size,S,by simp [Cx.addB],hS⟩),this⟩
     ·cases hr
    ·simp only [Option.map_eq_some_iff] at hr
     obtain ⟨ys',hp,he⟩:=hr
     cases he
     have:=grow_sl none 0 0 [] ys' [] M.nt m (M.tok m i.size) ex hX (VRs.nil _ _) hp (by omega) (by simpa using hle.1) (by simpa using hle.2) (hτn m) rfl rfl (Nat.le_succ _) (Nat.lt_succ_self _) (hMt m)
     simpa using this
   ·cases hr
  ·-- by value
   rename_i t0 e0 n0 cs
   split at hr
   ·cases hr
   ·rename_i hcl
    have hcl':cs.length=n0 * i.size:=by
     cases hbq:Nat.beq cs.length (n0 * i.size) with
     | true=>exact Nat.eq_of_beq_eq_true hbq
     | false=>simp [hbq] at hcl
    obtain ⟨g,q,cc,vs,ex,hvs,hi',hnc,hc1,hk2⟩:=rx.sl_inv
    have hX:Holds w (.slice (some ⟨g,q,none⟩) n0 cc) n0 i.size vs:=⟨by rw [← hvs.1,hcl'],.inr (.inr ⟨g,q,cc,rfl,fun j y hy=>hI.imm g _ y (hi' j y hy)⟩)⟩
    split at hr
    ·rename_i hle
     split at hr
     ·cases hr
     ·have hcc:=hc1 rfl
      subst hcc
      split at hr
      ·split at hr
       ·rename_i hy1
        cases hr
        simp only [Bool.and_eq_true] at hy1
        obtain ⟨hcs1,hy1⟩:=hy1
        obtain ⟨gc,w',S,hrun,hge,hS,hN⟩:=grow_ms _ _ _ cs vs ex hX hvs.of_pure hcs1 hy1 (by omega) hle.1 hle.2
        exact ⟨_,_,_,.inl hrun,.ms _ 0 _ _ gc w.heap.size (by simp [Cx.addB]) (Nat.le_refl _) hge (fun _=>.inr ⟨i.size,S,by simp [Cx.addB],hS⟩),hN M γ hI (Le.refl _)⟩
       ·cases hr
      ·simp only [Option.map_eq_some_iff] at hr
       obtain ⟨ys',hp,he⟩:=hr
       cases he
       exact grow_sl _ _ _ cs ys' vs M.nt _ (M.tok _ i.size) ex hX hvs hp (by omega) hle.1 hle.2 (hτn _) rfl rfl (Nat.le_succ _) (Nat.lt_succ_self _) (hMt _)
     ·rename_i k
      split at hr
      ·rename_i n' zz hlk
       split at hr
       ·rename_i hcnd
        simp only [Bool.and_eq_true] at hcnd
        have e1:=Nat.eq_of_beq_eq_true hcnd.1
        have e2:=Nat.eq_of_beq_eq_true hcnd.2
        subst e1; subst e2
        simp only [Option.map_eq_some_iff] at hr
        obtain ⟨ys',hp,he⟩:=hr
        cases he
        obtain ⟨_,xk,hxk,hxe,hxx⟩:=hk2 k rfl
        obtain ⟨hL,hzz,_⟩:=hI.tok k _ _ xk hlk hxk
        obtain ⟨y0,yor⟩:=hxx hL.symm
        have hkn:=hI.ntM k _ hlk
        have hMt2:∀ j y,lookT (M.bump k (n' + m)).toks j=some y→(j=k∧y=(n' + m,i.size))∨(j≠k∧lookT M.toks j=some y):=fun j y hy=>by
         simp only [Mem.bump] at hy
         rw [lookT_set] at hy
         split at hy
         ·rename_i e; rw [hlk] at hy; cases hy; exact .inl ⟨e.symm,rfl⟩
         ·rename_i e; exact .inr ⟨fun q=>e q.symm,hy⟩
        by_cases hroom:n0 + m≤cc
        ·obtain ⟨y1,y2,y3⟩:g=xk.g∧q + cs.length=xk.e∧q + cc * xk.z≤xk.S:=yor.resolve_left (by omega)
         obtain ⟨hc,hf,γ',hN,hV⟩:=room_tok hI (n:=n0) (m:=m) (c:=cc) (new:=ys') (news:=news) (M.bump k (n' + m)) hlk hxk y1 y2 y3 hcl' hvs hi' (purL0_sound hvn hp) (by rw [(purL0_one hp).2,hvn.1,hY.1]) (by omega) hroom rfl rfl (Nat.le_refl _) hkn hMt2
         have hone:∀ u∈news,u.oneCell'=true:=hvn.ones (purL0_one hp).1
         have hrun:=run_append_room_src w s t o.type e i hs hi g q n0 cc (a.eval y) m news (hY.src hk hone) hroom hc hf
         rw [← ex] at hrun
         exact ⟨γ',_,_,.inl (hex _ _ hrun),hV,hN⟩
        ·exact grow_sl _ _ _ cs ys' vs k _ (M.bump k (n' + m)) ex hX hvs hp (by omega) hle.1 hle.2 (fun y hy=>by rw [hxk] at hy; cases hy; omega) rfl rfl (Nat.le_refl _) hkn hMt2
       ·cases hr
      ·cases hr
    ·cases hr
  ·-- mutable
   rename_i b off n0 c0
   split at hr
   ·cases hr
   ·rename_i hy1
    have hy1:ys.all oneA=true:=by simpa using hy1
    have hone:∀ u∈news,u.oneCell'=true:=hvn.ones hy1
    split at hr
    ·rename_i l hbl
     obtain ⟨g,cc,ex,hρ,hnc,hcc,hS⟩:=rx.ms_inv
     have hyl:ys.length=m * i.size:=by rw [hvn.1,hY.1]
     split at hr
     ·rename_i hroom
      split at hr
      ·rename_i hle
       cases hr
       rw [Nat.add_mul] at hle
       obtain ⟨hst,hN,hc,hf⟩:=box_write (P:=P) hI hbl hρ hvn hy1 (off:=off + n0 * i.size) (by omega)
       have hrun:=run_append_room_src w s t o.type e i hs hi g off n0 cc (a.eval y) m news (hY.src hk hone) (by omega) hc hf
       rw [← ex] at hrun
       have e3:off + (n0 + m) * i.size=off + n0 * i.size + ys.length:=by rw [Nat.add_mul,hyl]; omega
       rw [e3]
       exact ⟨γ,_,_,.inl (hex _ _ hrun),.ms _ off (n0 + m) c0 cc g hρ hroom hcc hS,hN⟩
      ·cases hr
     ·rename_i hroom
      split at hr
      ·rename_i hle
       cases hr
       obtain ⟨rfl,rfl,hn0,hll,hb1,hb2⟩:=hle
       obtain ⟨hB,hno,arr,el,fz,hh,hu,hla,hv,h1',hsS⟩:=hI.box b _ g hbl hρ
       by_cases hin:n0 + m≤cc
       ·-- in its own place
        obtain ⟨zz,S,hσ,hzS⟩:∃ zz S,γ.σ b=some (n0,zz,S)∧cc * zz≤S:=by
         rcases hS rfl with h | h
         ·omega
         ·exact h
        obtain ⟨q1,q2⟩:=hsS _ _ _ hσ
        have hzz:zz=i.size:=by
         rw [hll] at q1
         exact (Nat.eq_of_mul_eq_mul_left hn0 q1).symm
        subst hzz
        have hmul:(n0 + m) * i.size≤cc * i.size:=Nat.mul_le_mul_right _ hin
        rw [Nat.add_mul] at hmul
        have hnl:=hY.1
        have hc:∀ j,j < news.length→(w.cell? ⟨g,0 + n0 * i.size + j,none⟩).isSome=true:=fun j hj=>by
         rw [cell_at hh,Array.getElem?_eq_getElem (by omega)]; rfl
        have hf:∀ j,j < news.length→w.frozen? ⟨g,0 + n0 * i.size + j,none⟩=false:=fun j hj=>frozen_at hh hu (by omega)
        have hrun:=run_append_room_src w s t o.type e i hs hi g 0 n0 cc (a.eval y) m news (hY.src hk hone) hin hc hf
        rw [← ex] at hrun
        obtain ⟨r1,r2,r3⟩:=setCells_rest g news (0 + n0 * i.size) w
        have hsc:=setCells_at g el fz news (0 + n0 * i.size) w arr hh (by omega)
        have hsz2:(splice arr.toList (0 + n0 * i.size) news).toArray.size=arr.size:=by simp [splice]; omega
        have hN:=Nx.moveB hI hbl hρ (x':=.cells (l ++ ys)) (some (n0 + m,i.size,S)) (w.setCells g (0 + n0 * i.size) news) (fun γ' hle' hI' hσ'=>⟨hle'.B ▸ hB,fun o=>by rw [hI']; exact hno o,_,el,fz,hsc,by rw [hsz2]; exact hu,by rw [hsz2,List.length_append]; omega,?_,by rw [List.all_append,h1',hy1]; rfl,fun c z S' h=>?_⟩)
         (fun g' hg'=>setCells_other g news _ w g' hg') (setCells_size g news _ w) r1 r2 r3
        ·exact ⟨_,_,_,.inl (hex _ _ hrun),.ms _ 0 _ _ cc g (by simp [Cx.addB]) (Nat.le_refl _) hin (fun _=>.inr ⟨i.size,S,by simp [Cx.addB],hzS⟩),hN⟩
        ·have e1:(splice arr.toList (0 + n0 * i.size) news).toArray.toList.take (l ++ ys).length=arr.toList.take l.length ++ news:=by
          simp only [splice,Nat.zero_add,List.length_append]
          rw [← hll]
          rw [List.take_append_of_le_length (by simp; omega)]
          rw [List.take_of_length_le (by simp; omega)]
         rw [e1]
         exact (hv.append hvn).mono hle'
        ·rw [hσ'] at h; cases h
         exact ⟨by rw [List.length_append,Nat.add_mul]; omega,by rw [hsz2]; exact q2⟩
       ·-- a new row
        have hX:Holds w (.slice (some ⟨g,0,none⟩) n0 cc) n0 i.size (arr.toList.take l.length):=⟨by simp; omega,.inr (.inr ⟨g,0,cc,rfl,fun j y hy=>by
         rw [List.getElem?_take] at hy
         split at hy
         ·rw [cell_at hh,Nat.zero_add,← Array.getElem?_toList]; exact hy
         ·cases hy⟩)⟩
        obtain ⟨gc,w',S,hrun,hge,hS',hN⟩:=grow_ms _ _ _ l _ ex hX hv h1' hy1 (by omega) hb1 hb2
        have hK:=Nx.kill hI b
        have hN2:=hK.trans (hN (M.kill b) γ hK.inv (Le.refl _))
        exact ⟨_,_,_,.inl hrun,.ms _ 0 _ _ gc w.heap.size (by simp [Cx.addB,Mem.kill]) (Nat.le_refl _) hge (fun _=>.inr ⟨i.size,S,by simp [Cx.addB,Mem.kill],hS'⟩),hN2⟩
      ·cases hr
    ·cases hr
  ·cases hr
end Go.Sx
